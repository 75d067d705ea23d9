/- ValueOrdered: what the law's walk asks is so, for any three values. -/
import Derived.Test.YtjpgjggbanpegaaDoorPureOrder
import Derived.Test.YtjpgjggbanpegaaDoorPureBeg02
import Derived.Test.YtjpgjggbanpegaaDoorOrdLaw
namespace Go.Proofs.YtjpgjggbanpegaaDoor.Pure
open Go.RowKit Go.Proofs.YtjpgjggbanpegaaDoor.R Go.Proofs.YtjpgjggbanpegaaDoorW.PrintWords Go.Proofs.YtjpgjggbanpegaaDoorW.PrintLast Go.Proofs.YtjpgjggbanpegaaDoor.Str
theorem cmp3_bd (x y : Int) : -1 ≤ cmp3 x y ∧ cmp3 x y ≤ 1 := by
  unfold cmp3
  split
  · omega
  · split <;> omega
theorem cmpS_bd (x y : List UInt8) : -1 ≤ cmpS x y ∧ cmpS x y ≤ 1 := by
  unfold cmpS
  split
  · omega
  · split <;> omega
theorem inner_bd (f : Int) (a b : OV) : -1 ≤ inner f a b ∧ inner f a b ≤ 1 := by
  unfold inner
  split
  · exact cmpS_bd _ _
  · split
    · exact cmp3_bd _ _
    · split
      · exact cmp3_bd _ _
      · omega
theorem ord_bd (a b : OV) : -1 ≤ ord a b ∧ ord a b ≤ 1 := by
  unfold ord there
  split
  · omega
  · split
    · omega
    · split
      · split
        · omega
        · split
          · omega
          · exact inner_bd _ _ _
      · omega
theorem ord_alike (a b : OV) (n1 : ¬ a.f1 = true) (n2 : ¬ b.f1 = true) (he : fam a.f0.f0 = fam b.f0.f0) : ord a b = inner (fam a.f0.f0) a b := by
  have ea : nul a = 1 := if_neg n1
  have eb : nul b = 1 := if_neg n2
  unfold ord there
  rw [ea, eb, if_neg (by omega), if_neg (by omega), if_pos rfl, if_neg (by omega), if_neg (by omega)]
theorem op_is (k : Nat) (hk : 40 ≤ k) (op : Int) (h1 : 1 ≤ op) (h6 : op ≤ 6) (a b : OV) (ha : In64 a.f2) (hb : In64 b.f2) :
    ordLaw.op k op a.f0.f0 a.f0.f1 a.f1 a.f2 a.f3 b.f0.f0 b.f0.f1 b.f1 b.f2 b.f3 (ord a b) = true := by
  unfold ordLaw.op value_Test.f
  rw [if_neg (by omega), Alike_is, Option.bind_some]
  by_cases al : 1 ≤ a.f0.f0 ∧ a.f0.f0 ≤ 5 ∧ fam a.f0.f0 = fam b.f0.f0
  · have ed : decide (1 ≤ a.f0.f0 ∧ a.f0.f0 ≤ 5 ∧ fam a.f0.f0 = fam b.f0.f0) = true := decide_eq_true al
    rw [ed, if_pos rfl]
    by_cases n : a.f1 = true ∨ b.f1 = true
    · rw [if_pos n]
      simp only [if_true]
      rw [if_pos n]
      rfl
    · rw [if_neg n]
      obtain ⟨f1, f2⟩ := fam_bd al.1 al.2.1
      rw [held_is k (by omega) a b ha hb f1 f2 al.2.2, Option.bind_some, ord_alike a b (fun z => n (.inl z)) (fun z => n (.inr z)) al.2.2]
      simp only [if_true]
      rw [if_neg n]
      simp
  · have ed : decide (1 ≤ a.f0.f0 ∧ a.f0.f0 ≤ 5 ∧ fam a.f0.f0 = fam b.f0.f0) = false := decide_eq_false al
    rw [ed, if_neg (by decide)]
    simp
theorem ValueOrdered (a b c : OV) (wa : ((Lit.int .i64 a.f0.f0).wf = true ∧ (Lit.int .i64 a.f0.f1).wf = true) ∧ True ∧ (Lit.int .i64 a.f2).wf = true ∧ a.f3.size ≤ 140737488351232)
    (wb : ((Lit.int .i64 b.f0.f0).wf = true ∧ (Lit.int .i64 b.f0.f1).wf = true) ∧ True ∧ (Lit.int .i64 b.f2).wf = true ∧ b.f3.size ≤ 140737488351232)
    (wc : ((Lit.int .i64 c.f0.f0).wf = true ∧ (Lit.int .i64 c.f0.f1).wf = true) ∧ True ∧ (Lit.int .i64 c.f2).wf = true ∧ c.f3.size ≤ 140737488351232) :
    ∃ k, ordLaw.f k a.f0.f0 a.f0.f1 a.f1 a.f2 a.f3 b.f0.f0 b.f0.f1 b.f1 b.f2 b.f3 c.f0.f0 c.f0.f1 c.f1 c.f2 c.f3 = some true := by
  have ha : In64 a.f2 := bounds_i64 wa.2.2.1
  have hb : In64 b.f2 := bounds_i64 wb.2.2.1
  have hc : In64 c.f2 := bounds_i64 wc.2.2.1
  refine ⟨60, ?_⟩
  unfold ordLaw.f
  have H := ord_ok
  rw [Order_is 60 (by omega) a b ha hb, Order_is 60 (by omega) b c hb hc, Order_is 60 (by omega) a c ha hc, Option.bind_some, Option.bind_some, Option.bind_some, if_pos]
  refine ⟨begun02 60 (by omega), ?_, ?_, ord_bd a b, ?_, ?_, ?_, op_is 60 (by omega) 1 (by omega) (by omega) a b ha hb, op_is 60 (by omega) 2 (by omega) (by omega) a b ha hb, op_is 60 (by omega) 3 (by omega) (by omega) a b ha hb, op_is 60 (by omega) 4 (by omega) (by omega) a b ha hb, op_is 60 (by omega) 5 (by omega) (by omega) a b ha hb, op_is 60 (by omega) 6 (by omega) (by omega) a b ha hb⟩
  · rw [Order_is 60 (by omega) b a hb ha, H.turn a b]
  · rw [Order_is 60 (by omega) a a ha ha, H.self a]
  · rintro ⟨h1, h2, h3⟩
    have := H.over a b c h1 h2
    omega
  · rintro ⟨h1, h2, h3⟩
    have := H.back a b c h1 h2
    omega
  · rintro ⟨h1, h2, h3⟩
    have g1 := H.over a b c (by omega) (by omega)
    have g2 := H.back a b c (by omega) (by omega)
    omega
end Go.Proofs.YtjpgjggbanpegaaDoor.Pure
