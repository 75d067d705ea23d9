/- ValueKeys: the statement of the given law, for every input: the law answers true, and what it was handed reads as before. Conditions: the row's own (what it lists of package-level variables, tied to the program's text by the card). -/
import Derived.Test.YtjpgjggbanpegaaDoorRows
import Derived.Test.YtjpgjggbanpegaaDoorKeysLaw
import Derived.Test.YtjpgjggbanpegaaDoorPureValueKeys
import Derived.Test.YtjpgjggbanpegaaDoorWrap
import Derived.Test.YtjpgjggbanpegaaDoorUpto
import Derived.Test.YtjpgjggbanpegaaDoorGlLaid
import Derived.Test.YtjpgjggbanpegaaDoorTie
import Derived.Test.YtjpgjggbanpegaaDoorCards
import Derived.WalkKit
import Derived.ProofKit
import Derived.OpenShut
import Derived.ShutString
import Derived.ChangeOld
import Derived.Below
import Derived.SizedLaws
import Derived.LaidMore
import Derived.Stop.Joined
import Derived.SevenTiedAt
import Derived.Lay
import Derived.MakeChecks
import Derived.JoinedCond
import Derived.Deep.DeepHandedRow
import Derived.Test.YtjpgjggbanpegaaDoorOpen
import Derived.OwnWalk
namespace Go.Proofs.YtjpgjggbanpegaaDoor.valueKeys
open Go.Proofs.YtjpgjggbanpegaaDoor Go.Proofs.YtjpgjggbanpegaaDoor.V Go.Proofs.YtjpgjggbanpegaaDoorW.PrintWords
open Go.ChangeShapes Go.WideShapes Go.ChangeAt Go.RowKit
open Go.ChangeMaps (open_string shut_string)
theorem own : ownKnob Tryd.prog.godebug = none := by kernel_rfl
theorem laidOut : laidOutB Tryd.prog = true := by kernel_rfl
theorem list_len2 {α : Type} : ∀ {l : List α}, l.length = 2 → ∃ y0 y1, l = [y0, y1]
  | [y0, y1], _ => ⟨y0, y1, rfl⟩
theorem opens_st23 : Opens 67108864 Tryd.prog k23 23 (fun x => (Lit.int .i64 x.f0).wf = true ∧ (Lit.int .i64 x.f1).wf = true) := by
  intro H enc w base spare held fuel cs x hx hw
  obtain ⟨ys, n, _, hxe, hlen, hyl, hf⟩ := DataW.trod_struct Tryd.underlying23 hx
  obtain rfl := hxe
  have hlen' : cs.length = 2 := hlen.trans (by kernel_rfl)
  have hyl' : ys.length = 2 := hyl
  obtain ⟨y0, y1, rfl⟩ := list_len2 hyl'
  · skip
    have e0 : DataW.trod enc Tryd.prog w base spare held n 3 ((cs.drop 0).take 1) = some y0 := by
      have e := hf 0 _ rfl
      have c : Tryd.prog.cellsOf 3 = 1 := by kernel_rfl
      exact (congrArg (fun z => DataW.trod enc Tryd.prog w base spare held n 3 ((cs.drop 0).take z)) c.symm).trans e
    have e1 : DataW.trod enc Tryd.prog w base spare held n 3 ((cs.drop 1).take 1) = some y1 := by
      have e := hf 1 _ rfl
      have c : Tryd.prog.cellsOf 3 = 1 := by kernel_rfl
      exact (congrArg (fun z => DataW.trod enc Tryd.prog w base spare held n 3 ((cs.drop 1).take z)) c.symm).trans e
    have hw' : ∀ q ∈ DataW.weightsEach Tryd.prog [3, 3] [y0.1, y1.1], q ≤ 67108864 := by
      intro q hq
      refine hw q ?_
      simp only [DataW.weights, Tryd.underlying23]
      exact hq
    obtain ⟨v0, a0, g0⟩ := (opens_int Tryd.underlying3) enc w base spare held n _ y0 e0 (fun q hq => hw' q (DataW.weights_mem_each (j := 0) rfl rfl q hq))
    obtain ⟨v1, a1, g1⟩ := (opens_int Tryd.underlying3) enc w base spare held n _ y1 e1 (fun q hq => hw' q (DataW.weights_mem_each (j := 1) rfl rfl q hq))
    refine ⟨(⟨v0, v1⟩ : S23), ?_, g0, g1⟩
    have b1 := last_suffix (off := 1) (s := 1) (by omega) a1
    have b0 := pair_suffix (off := 0) (s := 1) a0 b1
    exact b0
theorem list_len4 {α : Type} : ∀ {l : List α}, l.length = 4 → ∃ y0 y1 y2 y3, l = [y0, y1, y2, y3]
  | [y0, y1, y2, y3], _ => ⟨y0, y1, y2, y3, rfl⟩
theorem opens_st25 : Opens 67108864 Tryd.prog k25 25 (fun x => ((Lit.int .i64 x.f0.f0).wf = true ∧ (Lit.int .i64 x.f0.f1).wf = true) ∧ True ∧ (Lit.int .i64 x.f2).wf = true ∧ x.f3.size ≤ 67108864) := by
  intro H enc w base spare held fuel cs x hx hw
  obtain ⟨ys, n, _, hxe, hlen, hyl, hf⟩ := DataW.trod_struct Tryd.underlying25 hx
  obtain rfl := hxe
  have hlen' : cs.length = 5 := hlen.trans (by kernel_rfl)
  have hyl' : ys.length = 4 := hyl
  obtain ⟨y0, y1, y2, y3, rfl⟩ := list_len4 hyl'
  · skip
    have e0 : DataW.trod enc Tryd.prog w base spare held n 23 ((cs.drop 0).take 2) = some y0 := by
      have e := hf 0 _ rfl
      have c : Tryd.prog.cellsOf 23 = 2 := by kernel_rfl
      exact (congrArg (fun z => DataW.trod enc Tryd.prog w base spare held n 23 ((cs.drop 0).take z)) c.symm).trans e
    have e1 : DataW.trod enc Tryd.prog w base spare held n 4 ((cs.drop 2).take 1) = some y1 := by
      have e := hf 1 _ rfl
      have c : Tryd.prog.cellsOf 4 = 1 := by kernel_rfl
      exact (congrArg (fun z => DataW.trod enc Tryd.prog w base spare held n 4 ((cs.drop 2).take z)) c.symm).trans e
    have e2 : DataW.trod enc Tryd.prog w base spare held n 2 ((cs.drop 3).take 1) = some y2 := by
      have e := hf 2 _ rfl
      have c : Tryd.prog.cellsOf 2 = 1 := by kernel_rfl
      exact (congrArg (fun z => DataW.trod enc Tryd.prog w base spare held n 2 ((cs.drop 3).take z)) c.symm).trans e
    have e3 : DataW.trod enc Tryd.prog w base spare held n 9 ((cs.drop 4).take 1) = some y3 := by
      have e := hf 3 _ rfl
      have c : Tryd.prog.cellsOf 9 = 1 := by kernel_rfl
      exact (congrArg (fun z => DataW.trod enc Tryd.prog w base spare held n 9 ((cs.drop 4).take z)) c.symm).trans e
    have hw' : ∀ q ∈ DataW.weightsEach Tryd.prog [23, 4, 2, 9] [y0.1, y1.1, y2.1, y3.1], q ≤ 67108864 := by
      intro q hq
      refine hw q ?_
      simp only [DataW.weights, Tryd.underlying25]
      exact hq
    obtain ⟨v0, a0, g0⟩ := opens_st23 enc w base spare held n _ y0 e0 (fun q hq => hw' q (DataW.weights_mem_each (j := 0) rfl rfl q hq))
    obtain ⟨v1, a1, g1⟩ := (opens_bool Tryd.underlying4) enc w base spare held n _ y1 e1 (fun q hq => hw' q (DataW.weights_mem_each (j := 1) rfl rfl q hq))
    obtain ⟨v2, a2, g2⟩ := (opens_int Tryd.underlying2) enc w base spare held n _ y2 e2 (fun q hq => hw' q (DataW.weights_mem_each (j := 2) rfl rfl q hq))
    obtain ⟨v3, a3, g3⟩ := (opens_string Tryd.underlying9) enc w base spare held n _ y3 e3 (fun q hq => hw' q (DataW.weights_mem_each (j := 3) rfl rfl q hq))
    refine ⟨(⟨v0, v1, v2, v3⟩ : S25), ?_, g0, g1, g2, g3⟩
    have b3 := last_suffix (off := 4) (s := 1) (by omega) a3
    have b2 := pair_suffix (off := 3) (s := 1) a2 b3
    have b1 := pair_suffix (off := 2) (s := 1) a1 b2
    have b0 := pair_suffix (off := 0) (s := 2) a0 b1
    exact b0
theorem reads (os : Os) {H : Type} (enc : TypeId × Value → H) : ∃ places, DataW.whole enc Tryd.prog ((World.laidAll Tryd.prog os Rows.valueKeysUptoRow.laid).forCall (fun _ _ => 0) ⟨#[], #[.slice none 0 0, .slice none 0 0, .int .u64 0], []⟩).memory Tryd.f7.params.toList Rows.valueKeysSpec.vars false (#[.slice none 0 0, .slice none 0 0, .int .u64 0] : Array Value).toList 8 = some ([.nil, .nil, .lit (.int .u64 0)], [], places) :=
  ⟨[], by kernel_rfl⟩
set_option maxRecDepth 100000 in
theorem lifted (os : Os) (started : os.Started) (H : Type) (enc : TypeId × Value → H) (F : Stop.Interp) :
    ReturnsInHanded {} Tryd.checked os 7 .any ((Rows.OpenSpec.upto Rows.valueKeysSpec).preRow enc Tryd.prog Tryd.f7 Rows.valueKeysUptoRow.domain false Rows.valueKeysUptoRow.laid) (((Rows.OpenSpec.upto Rows.valueKeysSpec).at F).post enc Tryd.prog Tryd.f7 false true false false) := by
  obtain ⟨places, hx⟩ := reads os enc
  refine returnsInHanded_of_row (C := Tryd.checked) (s := Rows.OpenSpec.upto Rows.valueKeysSpec) own started (by kernel_rfl) Tryd.func7
    (witness_upto (enc := enc) (C := Tryd.checked) (World.laidAll Tryd.prog os Rows.valueKeysUptoRow.laid) #[.slice none 0 0, .slice none 0 0, .int .u64 0] (World.laidAll_os _ _ _) (World.shaped_of_ZipB (by kernel_rfl) (by kernel_rfl)) (by kernel_rfl)
      (OpenSpec.preRow_of_cond 8 hx (by kernel_rfl) (fun k hk => by cases hk; kernel_rfl) (by kernel_rfl) (by rw [MakeChecks.laidMetH_plain _ _ _ (by kernel_rfl)]; exact laidMet_laidAll _ (by kernel_rfl) (by kernel_rfl)))) ?_
  intro W base args ds gs before hval0 hW _ hcond hsz0 hL hSh _
  have hbulk0 := bulk_bound (hcond _ rfl)
  have hval : ∀ (j : Nat) t v, Tryd.f7.params[j]? = some t → args[j]? = some v → Value.okWide Tryd.prog W .any base t v := hval0
  have hW' := hW
  obtain ⟨p, q, hA0, hV, rfl, hfz, hnd⟩ := hW
  have hA : DataW.TrodAll enc Tryd.prog W 0 (fun _ => true) true Tryd.f7.params.toList args.toList ds p := hA0
  rw [Tryd.params7] at hA hval
  obtain ⟨v0, vs0, d0, ds0, p0, q0, hargs, rfl, rfl, h0, r0⟩ := trodAll_cons hA
  obtain ⟨v1, vs1, d1, ds1, p1, q1, rfl, rfl, rfl, h1, r1⟩ := trodAll_cons r0
  obtain ⟨v2, vs2, d2, ds2, p2, q2, rfl, rfl, rfl, h2, r2⟩ := trodAll_cons r1
  obtain ⟨rfl, rfl, rfl⟩ := trodAll_nil r2
  obtain rfl : args = #[v0, v1, v2] := by cases args; simp_all
  obtain ⟨rfl, rfl⟩ := trodVars_none hV
  have hbulk := hbulk0
  simp only [List.append_nil] at hbulk
  obtain ⟨A0, n0, c0, rfl⟩ := okWide_slice Tryd.underlying34 (hval 0 34 v0 rfl rfl)
  have k0 := h0
  have lt0 : ∀ x ∈ p0, x.block < W.heap.size := by obtain ⟨m, hm⟩ := k0; exact DataW.trod_lt m _ _ _ hm
  obtain ⟨fuel0, hf0⟩ := h0
  obtain ⟨l0, K0, w0⟩ := (opens_slice Tryd.underlying34 (by kernel_rfl) (B := 48) (by kernel_rfl) opens_st25) enc W _ _ _ fuel0 _ _ hf0 (fun n hn => Nat.le_trans ((light_slice (by decide) Tryd.underlying34 (by kernel_rfl) (B := 48) (by decide) (light_struct (by decide) Tryd.underlying25 (by intro u hu; simp at hu; rcases hu with rfl | rfl | rfl | rfl; all_goals first  | exact (light_struct (by decide) Tryd.underlying23 (by intro u hu; simp at hu; rcases hu with rfl | rfl; all_goals first  | exact (light_int (by decide) Tryd.underlying3))) | exact (light_bool (by decide) Tryd.underlying4) | exact (light_int (by decide) Tryd.underlying2) | exact (light_string (by decide) Tryd.underlying9)))) _ n hn) (Nat.mul_le_mul_left 64 (Nat.le_trans (bulk_part (by simp)) hbulk)))
  obtain ⟨A', c', e', hc0, hr0⟩ := K0
  obtain ⟨rfl, rfl, rfl⟩ : A' = A0 ∧ n0 = l0.length ∧ c' = c0 := by simpa [Value.cells, eq_comm] using e'
  obtain ⟨A1, n1, c1, rfl⟩ := okWide_slice Tryd.underlying34 (hval 1 34 v1 rfl rfl)
  have k1 := h1
  have lt1 : ∀ x ∈ p1, x.block < W.heap.size := by obtain ⟨m, hm⟩ := k1; exact DataW.trod_lt m _ _ _ hm
  obtain ⟨fuel1, hf1⟩ := h1
  obtain ⟨l1, K1, w1⟩ := (opens_slice Tryd.underlying34 (by kernel_rfl) (B := 48) (by kernel_rfl) opens_st25) enc W _ _ _ fuel1 _ _ hf1 (fun n hn => Nat.le_trans ((light_slice (by decide) Tryd.underlying34 (by kernel_rfl) (B := 48) (by decide) (light_struct (by decide) Tryd.underlying25 (by intro u hu; simp at hu; rcases hu with rfl | rfl | rfl | rfl; all_goals first  | exact (light_struct (by decide) Tryd.underlying23 (by intro u hu; simp at hu; rcases hu with rfl | rfl; all_goals first  | exact (light_int (by decide) Tryd.underlying3))) | exact (light_bool (by decide) Tryd.underlying4) | exact (light_int (by decide) Tryd.underlying2) | exact (light_string (by decide) Tryd.underlying9)))) _ n hn) (Nat.mul_le_mul_left 64 (Nat.le_trans (bulk_part (by simp)) hbulk)))
  obtain ⟨A', c', e', hc1, hr1⟩ := K1
  obtain ⟨rfl, rfl, rfl⟩ : A' = A1 ∧ n1 = l1.length ∧ c' = c1 := by simpa [Value.cells, eq_comm] using e'
  obtain ⟨a2, rfl, rfl, rfl, w2⟩ := open_int Tryd.underlying33 (hval 2 33 v2 rfl rfl) h2
  obtain ⟨k, hk⟩ := Pure.ValueKeys l0 l1 a2 w0 w1 w2
  clear hA0 hval0 hsz0
  refine (V.keysLaw.calls (k := k) (l0 := l0) (hr0 := hr0) (hc0 := hc0) (l1 := l1) (hr1 := hr1) (hc1 := hc1) (a2 := a2) (r := true) (w := W) (h := hk) (hG := Gl.of_laid hL hSh)).mono fun e W' ⟨he, bel⟩ => ?_
  subst he
  exact ⟨_, rfl, _, _, _, [], _, [], hW', trodAll_mk1 (shut_bool Tryd.underlying4 _), (trodAll_cons_mk (Below.trod laidOut (by kernel_rfl) (of_decide_eq_true (by kernel_rfl)) k0 bel lt0) (trodAll_cons_mk (Below.trod laidOut (by kernel_rfl) (of_decide_eq_true (by kernel_rfl)) k1 bel lt1) (trodAll_cons_mk (shut_int Tryd.underlying33 w2) trodAll_mk0))), rfl, bel.frame _, fun h => by cases h⟩
theorem over : Rows.valueKeysUptoRow.holds Tryd.pinned (Rows.OpenSpec.upto Rows.valueKeysSpec) :=
  OpenClaim.holds_of_cond 7 Tryd.f7 rfl rfl rfl rfl rfl rfl rfl ⟨rfl, rfl, rfl, rfl, rfl⟩ rfl rfl rfl rfl rfl (by kernel_rfl) Tryd.func7 (by kernel_rfl)
    (of_decide_eq_true (by kernel_rfl)) (by unfold Func.isWrapper; first | (rw [if_pos (by decide +kernel)]; kernel_rfl) | (rw [if_neg (by decide +kernel)]; exact ⟨rfl, rfl⟩))
    (fun os started H enc _ F => by rw [OpenClaim.pre_eq_preRow]; exact lifted os started H enc F)
theorem carded : Rows.ValueKeysUptoCardSaid :=
  Claim7.holds_tied_plain_at .later [] [.data, .data, .data, .data, .pinned] true (true, "1716fcd74154476ab1e237aedd3bfa674ad1f53c99bd29e3b790df2cca539e65") false
    over (fun _ h => by cases h) (by kernel_rfl) (fun _ h => by cases h) valueKeysUpto_row_tie rfl ⟨rfl, rfl⟩ (by kernel_rfl) rfl
    (fun f fn hf hfn => by
      obtain rfl : f = 7 := Option.some.inj ((show Tryd.prog.funcNamed "colonnade/colonnadelaw02.ValueKeys" = some 7 by kernel_rfl).symm.trans hf) |>.symm
      obtain rfl : fn = Tryd.f7 := (Option.some.inj (Tryd.func7.symm.trans hfn)).symm
      exact ⟨by kernel_rfl, fun j t ht => by
        rw [Tryd.params7] at ht
        have hm : t ∈ [34, 34, 33] := by simpa using Array.mem_of_getElem? ht
        have hall : ([34, 34, 33].all fun u => !Tryd.prog.wantsStandIn u) = true := by kernel_rfl
        exact (show Tryd.prog.wantsStandIn t = false by simpa using List.all_eq_true.1 hall t hm)⟩)
    (by kernel_rfl)
end Go.Proofs.YtjpgjggbanpegaaDoor.valueKeys
namespace Go.Proofs.YtjpgjggbanpegaaDoor
theorem valueKeys_holds : Rows.ValueKeysUptoCardSaid := valueKeys.carded
#print axioms valueKeys_holds
end Go.Proofs.YtjpgjggbanpegaaDoor
