/- lex.All's iterator: slices.Values over the tokens; what it goes through. -/
import Derived.Test.YtmpamcfeijnafaaDoorIter
import Derived.Test.YtmpamcfeijnafaaDoorP3
namespace Go.Proofs.YtmpamcfeijnafaaDoor.Iter
open Go.RowKit Go.Proofs.YtmpamcfeijnafaaDoor.P Go.Proofs.YtmpamcfeijnafaaDoorW.PrintWords Go.Proofs.YtmpamcfeijnafaaDoorW.PrintLast Go.Proofs.YtmpamcfeijnafaaDoorW.PrintMore
attribute [local go_sem] Oper.semAt_some

abbrev Tk := S25
abbrev kTk : Kd Tk := k25
def tkV (x : Tk) : Value := .agg #[.int .i64 x.f0, .string x.f1, .int .i64 x.f2]

theorem Kd_up {α : Type} {d : Kd α} {e : Nat} {w w1 : World} {base : Nat} {ok : Nat → Prop} {v : Value} {xs : List α} (h : d.R e w base ok v xs) (hk : CellsUp base w w1) : d.R e w1 base ok v xs :=
  Kd.R_mono (Kd.R_move (Kd.R_bound h) (fun k hb => by
    obtain ⟨_, h1, _, _, _, cells, hc⟩ := hb
    rw [hc]
    exact hk.same k _ h1 hc rfl)) (fun _ hb => hb.1)

/-- what has come when k rounds are over -/
def upto (xs : List Tk) (k : Nat) : List Tk := xs.take k
theorem upto_succ (xs : List Tk) (k : Nat) (hk : k < xs.length) : upto xs (k + 1) = upto xs k ++ [rd_T25 xs (k : Int)] := by
  unfold upto rd_T25
  rw [List.take_add_one]
  congr 1
  simp [List.getD_eq_getElem?_getD, hk]
theorem upto_length (xs : List Tk) (k : Nat) (hk : k ≤ xs.length) : (upto xs k).length = k := by simp [upto, hk]
theorem w64_up (k : Nat) (h : k < 9223372036854775807) : wrap64 ((k : Int) + 1) = (k : Int) + 1 := by
  unfold wrap64
  omega
theorem meas_up (k n : Nat) (z : Int) (h : k < n) (hz : z = (k : Int) + 1) : n - (intOf (.int .i64 z)).toNat < n - (intOf (.int .i64 (k : Int))).toNat := by
  subst hz
  show n - ((k : Int) + 1).toNat < n - ((k : Int)).toNat
  omega

set_option maxRecDepth 100000 in
set_option maxHeartbeats 4000000 in
theorem values1 (n l Bs B0 : Nat) (v : Value) (xs : List Tk) (J Jx : List Tk → World → Prop)
    (hJ : ∀ pre X Y, J pre X → X.grownBy Y none → J pre Y)
    (hY : ∀ pre x W1, J pre W1 → pre.length < xs.length → YieldAt Fence.wide 0 Tryd.prog l #[tkV x] W1 fun e W' =>
      (e = .returned (.bool true) ∧ J (pre ++ [x]) W' ∧ CellsUp B0 W1 W') ∨ (e = .returned (.bool false) ∧ Jx (pre ++ [x]) W'))
    (W : World) (hBs : W.cell? ⟨Bs, 0, none⟩ = some v) (hR : Kd.R kTk 25 W B0 (fun _ => True) v xs) (h0 : J [] W) :
    CallsIn Fence.wide n Tryd.prog 32 #[.func (.yield l) #[] #[], .pointer (some ⟨Bs, 0, none⟩)] W fun e W' => (∃ v, e = .returned v) ∧
      ((∃ ys, ys = xs ∧ J ys W') ∨ (∃ pre, pre <+: xs ∧ Jx pre W')) := by
  obtain ⟨A, c, rfl, hlc, hC⟩ := Kd.R_reads hR
  refine callsIn_of_wp Tryd.func32 rfl trivial ?_ rfl
  simp only [Tryd.ntmps32, List.size_toArray, List.length_cons, List.length_nil, Nat.reduceAdd, Nat.reduceSub, Array.replicate_succ, Array.replicate_zero, List.push_toArray, List.append_toArray, List.nil_append, List.cons_append]
  gi_wp2
  gi_loopw [4, 7] (fun p i wr => ∃ k : Nat, k ≤ xs.length ∧ i = .int .i64 k ∧ J (upto xs k) wr ∧ CellsUp B0 W wr)
    (fun p i _ => xs.length - (intOf i).toNat)
  case atStart => exact ⟨0, Nat.zero_le _, rfl, h0, CellsUp.refl _ _⟩
  case round =>
    obtain ⟨k, hk, rfl, hJs, hnx⟩ := hrel
    have hR2 := Kd_up hR hnx
    by_cases hlt : k < xs.length
    · obtain ⟨A2, c2, e2, _, hC2⟩ := Kd.R_reads hR2
      injection e2 with e3 _ e4
      subst e3; subst e4
      obtain ⟨ad, rfl, hx0, hx1, hx2⟩ := at_T25 hC2 (k : Int) (by omega) (by omega)
      simp only [Int.toNat_natCast] at hx0 hx1 hx2
      have hJa : J (upto xs k) (wr.alloc (.cells #[.int .i64 (rd_T25 xs (k : Int)).f0, .string (rd_T25 xs (k : Int)).f1, .int .i64 (rd_T25 xs (k : Int)).f2] 25)) :=
        hJ _ _ _ hJs (World.grownBy_alloc _ _ none)
      obtain ⟨fn, tmps, assign, body, hy, hRR⟩ := hY _ (rd_T25 xs (k : Int)) _ hJa (by rw [upto_length _ _ hk]; exact hlt)
      simp only [tkV] at hy
      have hwk := w64_up k (Nat.lt_of_lt_of_le hlt hC2.2.1)
      gi_wp2
      refine ⟨fun h => (by cases h), (round_any hRR).mono ?_⟩
      rintro e W3 (⟨rfl, hJ3, hk3⟩ | ⟨rfl, hJx3⟩)
      · gi_wp2
        go_roundw
        case rel => exact ⟨k + 1, by omega, by simp [hwk], by rw [upto_succ _ _ hlt]; exact hJ3, hnx.trans ((KeepsUp.alloc _ _ _).cells.trans hk3)⟩
        case measure => exact meas_up k _ _ hlt hwk
      · gi_wp2
        refine bodyPost_ret (results_none rfl _ _ _) rfl ?_
        exact ⟨⟨_, rfl⟩, .inr ⟨_, by rw [← upto_succ _ _ hlt]; exact List.take_prefix _ _, hJx3⟩⟩
    · obtain rfl : k = xs.length := by omega
      gi_wp2
      go_end0
      exact ⟨⟨_, rfl⟩, .inl ⟨_, by simp [upto], hJs⟩⟩

set_option maxRecDepth 100000 in
set_option maxHeartbeats 4000000 in
/-- slices.Values: the slice is boxed; the function value holds the box. -/
theorem values_calls (n : Nat) (a : Option Addr) (len cap : Nat) (w : World) :
    CallsIn Fence.wide n Tryd.prog 24 #[.slice a len cap] w fun e w' => e = .returned (.func (.func 32) #[] #[.pointer (some ⟨w.heap.size, 0, none⟩)]) ∧ w' = w.alloc (.cells #[.slice a len cap] 22) := by
  refine callsIn_of_wp Tryd.func24 rfl trivial ?_ rfl
  simp only [Tryd.ntmps24, List.size_toArray, List.length_cons, List.length_nil, Nat.reduceAdd, Nat.reduceSub, Array.replicate_succ, Array.replicate_zero, List.push_toArray, List.append_toArray, List.nil_append, List.cons_append]
  gi_wp2
  go_ret
  exact ⟨rfl, rfl⟩

theorem round_in {m m' l2 : Nat} {P : Program} {l : Nat} {f : FuncId} {tmps : Array Value} {assign body : Code} {w : World} {R : Ending → World → Prop}
    (h : RoundIn Fence.wide m P l f tmps assign body w R) : RoundIn (Fence.wide.inRound l2) m' P l f tmps assign body w R := ⟨h.1, fun c cs _ => h.2 c cs (room_wide _)⟩
theorem cells_grown {B : Nat} {X Y : World} {row : Option Nat} (hg : X.grownBy Y row) (hr : ∀ r, row = some r → ∃ o : Obj, X.heap[r]? = some o ∧ o.isCells = false) : CellsUp B X Y :=
  ⟨hg.size, fun k o _ hk ho => (grownBy_keeps_cells hg hr hk ho).trans hk⟩

set_option maxRecDepth 100000 in
set_option maxHeartbeats 4000000 in
/-- lex.All: the text is boxed; the function value holds the box. -/
theorem all_calls (a0 : ByteArray) (w : World) :
    Calls Tryd.prog 14 #[.string a0] w fun e w' => e = .returned (.func (.func 23) #[] #[.pointer (some ⟨w.heap.size, 0, none⟩)]) ∧ w' = w.alloc (.cells #[.string a0] 9) := by
  go_enter Tryd.func14, Tryd.ntmps14
  go_wp2
  go_ret
  exact ⟨rfl, rfl⟩

/-- the tokens that lex.All goes through -/
def allOf (k : Nat) (a0 : ByteArray) : Option (List Tk) := if (a0.size : Int) > 65536 then some [] else (lex_known.f k a0).map (·.1)

set_option maxRecDepth 100000 in
set_option maxHeartbeats 8000000 in
theorem all_up (k : Nat) (a0 : ByteArray) (xs : List Tk) (h : allOf k a0 = some xs) (Bt : Nat) (w : World) (hBt : Bt < w.heap.size) (hc : w.cell? ⟨Bt, 0, none⟩ = some (.string a0)) :
    SeqUp Tryd.prog 23 #[.pointer (some ⟨Bt, 0, none⟩)] (fun x : Tk => #[tkV x]) xs w := by
  intro l J Jx W hW hJ hJx hY h0
  have hc' := (hW.cell (p := ⟨Bt, 0, none⟩) hBt).trans hc
  clear hc
  have hBl : Bt < W.heap.size := Nat.lt_of_lt_of_le hBt hW.size
  have hc2 := (World.cell?_alloc_lt (a := ⟨Bt, 0, none⟩) (o := .cells #[.func (.yield l) #[] #[]] 46) _ hBl).trans hc'
  refine (callsIn_wide (n := 9)).1 ?_
  refine callsIn_of_wp_marks Tryd.func23 rfl trivial ?_ rfl
  simp only [Tryd.ntmps23, List.size_toArray, List.length_cons, List.length_nil, Nat.reduceAdd, Nat.reduceSub, Array.replicate_succ, Array.replicate_zero, List.push_toArray, List.append_toArray, List.nil_append, List.cons_append]
  by_cases hz : (a0.size : Int) > 65536
  · unfold allOf at h
    rw [if_pos hz] at h
    obtain rfl := Option.some.inj h
    have c1 : decide (65536 < (a0.size : Int)) = true := decide_eq_true hz
    have c2 : decide (65536 < a0.size) = true := decide_eq_true (by omega)
    gi_wp2
    exact ⟨_, results_none rfl _ _ _, ⟨_, rfl⟩, .inl (hJ.alloc _ h0)⟩
  · unfold allOf at h
    rw [if_neg hz] at h
    obtain ⟨⟨ys, i⟩, hk, e⟩ := Option.map_eq_some_iff.mp h
    obtain rfl : ys = xs := e
    have c1 : decide (65536 < (a0.size : Int)) = false := decide_eq_false hz
    have c2 : decide (65536 < a0.size) = false := decide_eq_false (by omega)
    gi_wp2_with first | (refine ⟨trivial, ?_⟩; gi_at_call 16; refine (callsIn_wide.2 (lex_known.calls k a0 ys i _ hk)).mono ?_; rintro e w1 ⟨v0, rfl, hR, hbel⟩; obtain ⟨A, c, rfl, hlc, hC⟩ := Kd.R_reads hR) | (refine ⟨trivial, ?_⟩; gi_at_call 24; refine (values_calls _ _ _ _ _).mono ?_; rintro e w2 ⟨rfl, rfl⟩)
    have hsz1 : (W.alloc (.cells #[.func (.yield l) #[] #[]] 46)).heap.size = W.heap.size + 1 := by simp
    have hby : (w1.alloc (.cells #[.slice A ys.length c] 22)).heap[W.heap.size]? = some (.cells #[.func (.yield l) #[] #[]] 46 (0, 0)) :=
      (Below.heap_alloc _ _ _ (by have := hbel.size; omega)).trans ((hbel.block _ (by omega)).trans (World.alloc_heap_new W _))
    have hbv : (w1.alloc (.cells #[.slice A ys.length c] 22)).heap[w1.heap.size]? = some (.cells #[.slice A ys.length c] 22 (0, 0)) := World.alloc_heap_new w1 _
    have hJ2 : J [] (w1.alloc (.cells #[.slice A ys.length c] 22)) :=
      hJ.alloc _ (hJ [] _ w1 none (hJ.alloc _ h0) ⟨hbel.os, hbel.tape, hbel.output, hbel.size, fun k hk _ => hbel.block k hk⟩ (fun r e => by cases e))
    have hRA := Kd.R_lower (Kd.R_below hR ((Below.refl _ w1).alloc (Nat.le_refl _) (.cells #[.slice A ys.length c] 22))) (show W.heap.size ≤ _ by omega)
    have hszA : W.heap.size + 2 ≤ (w1.alloc (.cells #[.slice A ys.length c] 22)).heap.size := by have := hbel.size; simp; omega
    have hv1 : w1.heap.size < (w1.alloc (.cells #[.slice A ys.length c] 22)).heap.size := by simp
    have hWv : W.heap.size ≤ w1.heap.size := by have := hbel.size; omega
    obtain ⟨wA, hwA⟩ : ∃ wA, w1.alloc (.cells #[.slice A ys.length c] 22) = wA := ⟨_, rfl⟩
    rw [hwA] at hby hbv hJ2 hRA hszA hv1 ⊢
    clear hwA hR hC
    refine wpIn_rangeFunc_ownH (w0 := wA) rfl (by omega) (gf := 32) (lb := #[.pointer (some ⟨w1.heap.size, 0, none⟩)]) rfl trivial (enters_of Tryd.func32 (by kernel_rfl) rfl)
      (encs := fun x : Tk => #[tkV x]) (Kp := CellsUp W.heap.size) (S := fun zs => zs = ys) (Sp := fun pre => pre <+: ys) (N := ys.length) ?seq (fun h k => h.trans k) (fun W' l' o o' _ h ho _ => CellsUp.putObj o' h ho) (Below.refl _ _) (fun _ => rfl)
      (fun pre W' => J pre W' ∧ CellsUp W.heap.size wA W') (fun c pre W' => c = .ret ∧ Jx pre W')
      (fun s X Y row hs hg hr => ⟨hJ s X Y row hs.1 hg (fun r e => ⟨by have := (hr r e).1; omega, (hr r e).2⟩), hs.2.trans (cells_grown hg (fun r e => (hr r e).2))⟩)
      (fun c s X Y row hs hg hr => ⟨hs.1, hJx s X Y row hs.2 hg (fun r e => ⟨by have := (hr r e).1; omega, (hr r e).2⟩)⟩)
      ⟨hJ2, CellsUp.refl _ _⟩
      (fun x a' W' => ∃ Bx, W'.heap[Bx]? = some (.cells #[.int .i64 x.f0, .string x.f1, .int .i64 x.f2] 25 (0, 0)) ∧ a' = { tmps :=
        #[.func (.yield l) #[] #[], .pointer (some ⟨Bt, 0, none⟩), .pointer (some ⟨W.heap.size, 0, none⟩), .slice A ys.length c, .int .i64 i, .pointer (some ⟨Bx, 0, none⟩), .string a0, .int .i64 a0.size, .bool false,
          .tuple #[.slice A ys.length c, .int .i64 i], .string a0, .tuple #[.slice A ys.length c, .int .i64 i], .slice A ys.length c, .int .i64 i, .slice A ys.length c, .func (.func 32) #[] #[.pointer (some ⟨w1.heap.size, 0, none⟩)], tkV x, undef, undef, undef, undef], defers := [] })
      (fun x a' _ X Y row hs hg hr => by
        obtain ⟨Bx, h1, h2⟩ := hs
        exact ⟨Bx, (grownBy_keeps_cells hg (fun r e => (hr r e).2) h1 rfl).trans h1, h2⟩)
      ?assign ?body ?done ?stop
    case seq =>
      intro l' J' Jx' W' hW' hJ' hJx' hY' h0'
      exact values1 _ l' w1.heap.size W.heap.size _ ys J' Jx' (fun pre X Y hx hg => hJ' pre X Y none hx hg (fun r e => by cases e)) (fun pre x W1 hj hl => yield_any (hY' pre x W1 hj hl)) W'
        (by simp [World.cell?, (hW'.block _ hv1).trans hbv]) (Kd.R_below hRA hW') h0'
    case assign =>
      rintro l2 pre x W' K ⟨hj, hcu⟩ hK
      simp only [tkV]
      gi_wp2
      exact hK _ _ (KeepsUp.alloc _ _ _).from (KeepsUp.alloc _ _ _).cells ⟨hJ.alloc _ hj, hcu.trans (KeepsUp.alloc _ _ _).cells⟩ ⟨W'.heap.size, World.alloc_heap_new W' _, rfl⟩
    case body =>
      rintro l2 pre x a' W' hl2 ⟨r2, hr2⟩ ⟨hj, hcu⟩ ⟨Bx, hbx, rfl⟩ hlt
      have hcy : W'.cell? ⟨W.heap.size, 0, none⟩ = some (.func (.yield l) #[] #[]) := by simp [World.cell?, hcu.same _ _ (Nat.le_refl _) hby rfl]
      have hc0 : W'.cell? ⟨Bx, 0, none⟩ = some (.int .i64 x.f0) := by simp [World.cell?, hbx]
      have hc1 : W'.cell? ⟨Bx, 1, none⟩ = some (.string x.f1) := by simp [World.cell?, hbx]
      have hc2 : W'.cell? ⟨Bx, 2, none⟩ = some (.int .i64 x.f2) := by simp [World.cell?, hbx]
      obtain ⟨fn, tmps, assign, body, hy, hRR⟩ := hY pre x W' hj hlt
      simp only [tkV] at hy ⊢
      gi_wp2
      refine (round_in hRR).mono ?_
      rintro e W3 ⟨⟨rfl, hJ3⟩ | ⟨rfl, hJx3⟩, hk3⟩
      · gi_wp2
        exact ⟨(hk3.mono (by omega)).from, hk3.cells, hJ3, hcu.trans hk3.cells⟩
      · gi_wp2
        exact ⟨(hk3.mono (by omega)).from, rfl, hJx3⟩
    case done =>
      rintro D zs W' hD rfl ⟨hj, _⟩ hK
      gi_wp2
      refine ⟨by simp, .inl ⟨_, _, rfl, run_takeDeferred hK, ?_⟩⟩
      exact ⟨_, results_none rfl _ _ _, ⟨_, rfl⟩, .inl (hJ.putObj _ hj (by omega) hK rfl)⟩
    case stop =>
      rintro D c' pre W' hD hpre ⟨rfl, hj⟩ hK
      gi_wp2
      refine ⟨by simp, .inl ⟨_, _, rfl, run_takeDeferred hK, ?_⟩⟩
      exact ⟨_, results_none rfl _ _ _, ⟨_, rfl⟩, .inr ⟨pre, hpre, hJx.putObj _ hj (by omega) hK rfl⟩⟩
end Go.Proofs.YtmpamcfeijnafaaDoor.Iter
