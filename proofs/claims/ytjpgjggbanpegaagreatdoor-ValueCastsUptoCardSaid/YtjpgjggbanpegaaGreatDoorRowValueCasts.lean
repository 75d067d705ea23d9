/- ValueCasts: the statement of the given law, for every input: the law answers true, and what it was handed reads as before. Conditions: the row's own (what it lists of package-level variables, tied to the program's text by the card). -/
import Derived.Test.YtjpgjggbanpegaaGreatDoorRows
import Derived.Test.YtjpgjggbanpegaaGreatDoorE90
import Derived.Test.YtjpgjggbanpegaaGreatDoorE12
import Derived.Test.YtjpgjggbanpegaaGreatDoorPureValueCasts
import Derived.Test.YtjpgjggbanpegaaGreatDoorWrap
import Derived.Test.YtjpgjggbanpegaaGreatDoorUpto
import Derived.Test.YtjpgjggbanpegaaGreatDoorGlLaid
import Derived.Test.YtjpgjggbanpegaaGreatDoorTie
import Derived.Test.YtjpgjggbanpegaaGreatDoorCards
import Derived.WalkKit
import Derived.ProofKit
import Derived.OpenShut
import Derived.ShutString
import Derived.ChangeOld
import Derived.Below
import Derived.SizedLaws
import Derived.LaidMore
import Derived.Stop.Joined
import Derived.SevenTiedAt
import Derived.Lay
import Derived.MakeChecks
import Derived.JoinedCond
import Derived.Deep.DeepHandedRow
import Derived.Test.YtjpgjggbanpegaaGreatDoorOpen
import Derived.OwnWalk
namespace Go.Proofs.YtjpgjggbanpegaaGreatDoor.valueCasts
open Go.Proofs.YtjpgjggbanpegaaGreatDoor Go.Proofs.YtjpgjggbanpegaaGreatDoor.E Go.Proofs.YtjpgjggbanpegaaGreatDoorW.PrintWords
open Go.ChangeShapes Go.WideShapes Go.ChangeAt Go.RowKit
open Go.ChangeMaps (open_string shut_string)
theorem own : ownKnob Tryz.prog.godebug = none := by kernel_rfl
theorem laidOut : laidOutB Tryz.prog = true := by kernel_rfl
theorem list_len2 {α : Type} : ∀ {l : List α}, l.length = 2 → ∃ y0 y1, l = [y0, y1]
  | [y0, y1], _ => ⟨y0, y1, rfl⟩
theorem opens_st23 : Opens 67108864 Tryz.prog k23 23 (fun x => (Lit.int .i64 x.f0).wf = true ∧ (Lit.int .i64 x.f1).wf = true) := by
  intro H enc w base spare held fuel cs x hx hw
  obtain ⟨ys, n, _, hxe, hlen, hyl, hf⟩ := DataW.trod_struct Tryz.underlying23 hx
  obtain rfl := hxe
  have hlen' : cs.length = 2 := hlen.trans (by kernel_rfl)
  have hyl' : ys.length = 2 := hyl
  obtain ⟨y0, y1, rfl⟩ := list_len2 hyl'
  · skip
    have e0 : DataW.trod enc Tryz.prog w base spare held n 3 ((cs.drop 0).take 1) = some y0 := by
      have e := hf 0 _ rfl
      have c : Tryz.prog.cellsOf 3 = 1 := by kernel_rfl
      exact (congrArg (fun z => DataW.trod enc Tryz.prog w base spare held n 3 ((cs.drop 0).take z)) c.symm).trans e
    have e1 : DataW.trod enc Tryz.prog w base spare held n 3 ((cs.drop 1).take 1) = some y1 := by
      have e := hf 1 _ rfl
      have c : Tryz.prog.cellsOf 3 = 1 := by kernel_rfl
      exact (congrArg (fun z => DataW.trod enc Tryz.prog w base spare held n 3 ((cs.drop 1).take z)) c.symm).trans e
    have hw' : ∀ q ∈ DataW.weightsEach Tryz.prog [3, 3] [y0.1, y1.1], q ≤ 67108864 := by
      intro q hq
      refine hw q ?_
      simp only [DataW.weights, Tryz.underlying23]
      exact hq
    obtain ⟨v0, a0, g0⟩ := (opens_int Tryz.underlying3) enc w base spare held n _ y0 e0 (fun q hq => hw' q (DataW.weights_mem_each (j := 0) rfl rfl q hq))
    obtain ⟨v1, a1, g1⟩ := (opens_int Tryz.underlying3) enc w base spare held n _ y1 e1 (fun q hq => hw' q (DataW.weights_mem_each (j := 1) rfl rfl q hq))
    refine ⟨(⟨v0, v1⟩ : S23), ?_, g0, g1⟩
    have b1 := last_suffix (off := 1) (s := 1) (by omega) a1
    have b0 := pair_suffix (off := 0) (s := 1) a0 b1
    exact b0
theorem list_len4 {α : Type} : ∀ {l : List α}, l.length = 4 → ∃ y0 y1 y2 y3, l = [y0, y1, y2, y3]
  | [y0, y1, y2, y3], _ => ⟨y0, y1, y2, y3, rfl⟩
theorem opens_st25 : Opens 67108864 Tryz.prog k25 25 (fun x => ((Lit.int .i64 x.f0.f0).wf = true ∧ (Lit.int .i64 x.f0.f1).wf = true) ∧ True ∧ (Lit.int .i64 x.f2).wf = true ∧ x.f3.size ≤ 67108864) := by
  intro H enc w base spare held fuel cs x hx hw
  obtain ⟨ys, n, _, hxe, hlen, hyl, hf⟩ := DataW.trod_struct Tryz.underlying25 hx
  obtain rfl := hxe
  have hlen' : cs.length = 5 := hlen.trans (by kernel_rfl)
  have hyl' : ys.length = 4 := hyl
  obtain ⟨y0, y1, y2, y3, rfl⟩ := list_len4 hyl'
  · skip
    have e0 : DataW.trod enc Tryz.prog w base spare held n 23 ((cs.drop 0).take 2) = some y0 := by
      have e := hf 0 _ rfl
      have c : Tryz.prog.cellsOf 23 = 2 := by kernel_rfl
      exact (congrArg (fun z => DataW.trod enc Tryz.prog w base spare held n 23 ((cs.drop 0).take z)) c.symm).trans e
    have e1 : DataW.trod enc Tryz.prog w base spare held n 4 ((cs.drop 2).take 1) = some y1 := by
      have e := hf 1 _ rfl
      have c : Tryz.prog.cellsOf 4 = 1 := by kernel_rfl
      exact (congrArg (fun z => DataW.trod enc Tryz.prog w base spare held n 4 ((cs.drop 2).take z)) c.symm).trans e
    have e2 : DataW.trod enc Tryz.prog w base spare held n 2 ((cs.drop 3).take 1) = some y2 := by
      have e := hf 2 _ rfl
      have c : Tryz.prog.cellsOf 2 = 1 := by kernel_rfl
      exact (congrArg (fun z => DataW.trod enc Tryz.prog w base spare held n 2 ((cs.drop 3).take z)) c.symm).trans e
    have e3 : DataW.trod enc Tryz.prog w base spare held n 9 ((cs.drop 4).take 1) = some y3 := by
      have e := hf 3 _ rfl
      have c : Tryz.prog.cellsOf 9 = 1 := by kernel_rfl
      exact (congrArg (fun z => DataW.trod enc Tryz.prog w base spare held n 9 ((cs.drop 4).take z)) c.symm).trans e
    have hw' : ∀ q ∈ DataW.weightsEach Tryz.prog [23, 4, 2, 9] [y0.1, y1.1, y2.1, y3.1], q ≤ 67108864 := by
      intro q hq
      refine hw q ?_
      simp only [DataW.weights, Tryz.underlying25]
      exact hq
    obtain ⟨v0, a0, g0⟩ := opens_st23 enc w base spare held n _ y0 e0 (fun q hq => hw' q (DataW.weights_mem_each (j := 0) rfl rfl q hq))
    obtain ⟨v1, a1, g1⟩ := (opens_bool Tryz.underlying4) enc w base spare held n _ y1 e1 (fun q hq => hw' q (DataW.weights_mem_each (j := 1) rfl rfl q hq))
    obtain ⟨v2, a2, g2⟩ := (opens_int Tryz.underlying2) enc w base spare held n _ y2 e2 (fun q hq => hw' q (DataW.weights_mem_each (j := 2) rfl rfl q hq))
    obtain ⟨v3, a3, g3⟩ := (opens_string Tryz.underlying9) enc w base spare held n _ y3 e3 (fun q hq => hw' q (DataW.weights_mem_each (j := 3) rfl rfl q hq))
    refine ⟨(⟨v0, v1, v2, v3⟩ : S25), ?_, g0, g1, g2, g3⟩
    have b3 := last_suffix (off := 4) (s := 1) (by omega) a3
    have b2 := pair_suffix (off := 3) (s := 1) a2 b3
    have b1 := pair_suffix (off := 2) (s := 1) a1 b2
    have b0 := pair_suffix (off := 0) (s := 2) a0 b1
    exact b0
theorem reads (os : Os) {H : Type} (enc : TypeId × Value → H) : ∃ places, DataW.whole enc Tryz.prog ((World.laidAll Tryz.prog os Rows.valueCastsUptoRow.laid).forCall (fun _ _ => 0) ⟨#[], #[.agg #[.int .i64 0, .int .i64 0, .bool false, .int .i64 0, .string ByteArray.empty], .agg #[.int .i64 0, .int .i64 0]], []⟩).memory Tryz.f3.params.toList Rows.valueCastsSpec.vars false (#[.agg #[.int .i64 0, .int .i64 0, .bool false, .int .i64 0, .string ByteArray.empty], .agg #[.int .i64 0, .int .i64 0]] : Array Value).toList 8 = some ([.agg [.agg [.lit (.int .i64 0), .lit (.int .i64 0)], .lit (.bool false), .lit (.int .i64 0), .lit (.string [])], .agg [.lit (.int .i64 0), .lit (.int .i64 0)]], [], places) :=
  ⟨[], by kernel_rfl⟩
set_option maxRecDepth 100000 in
theorem lifted (os : Os) (started : os.Started) (H : Type) (enc : TypeId × Value → H) (F : Stop.Interp) :
    ReturnsInHanded {} Tryz.checked os 3 .any ((Rows.OpenSpec.upto Rows.valueCastsSpec).preRow enc Tryz.prog Tryz.f3 Rows.valueCastsUptoRow.domain false Rows.valueCastsUptoRow.laid) (((Rows.OpenSpec.upto Rows.valueCastsSpec).at F).post enc Tryz.prog Tryz.f3 false true false false) := by
  obtain ⟨places, hx⟩ := reads os enc
  refine returnsInHanded_of_row (C := Tryz.checked) (s := Rows.OpenSpec.upto Rows.valueCastsSpec) own started (by kernel_rfl) Tryz.func3
    (witness_upto (enc := enc) (C := Tryz.checked) (World.laidAll Tryz.prog os Rows.valueCastsUptoRow.laid) #[.agg #[.int .i64 0, .int .i64 0, .bool false, .int .i64 0, .string ByteArray.empty], .agg #[.int .i64 0, .int .i64 0]] (World.laidAll_os _ _ _) (World.shaped_of_ZipB (by kernel_rfl) (by kernel_rfl)) (by kernel_rfl)
      (OpenSpec.preRow_of_cond 8 hx (by kernel_rfl) (fun k hk => by cases hk; kernel_rfl) (by kernel_rfl) (by rw [MakeChecks.laidMetH_plain _ _ _ (by kernel_rfl)]; exact laidMet_laidAll _ (by kernel_rfl) (by kernel_rfl)))) ?_
  intro W base args ds gs before hval0 hW _ hcond hsz0 hL hSh _
  have hbulk0 := bulk_bound (hcond _ rfl)
  have hval : ∀ (j : Nat) t v, Tryz.f3.params[j]? = some t → args[j]? = some v → Value.okWide Tryz.prog W .any base t v := hval0
  have hW' := hW
  obtain ⟨p, q, hA0, hV, rfl, hfz, hnd⟩ := hW
  have hA : DataW.TrodAll enc Tryz.prog W 0 (fun _ => true) true Tryz.f3.params.toList args.toList ds p := hA0
  rw [Tryz.params3] at hA hval
  obtain ⟨v0, vs0, d0, ds0, p0, q0, hargs, rfl, rfl, h0, r0⟩ := trodAll_cons hA
  obtain ⟨v1, vs1, d1, ds1, p1, q1, rfl, rfl, rfl, h1, r1⟩ := trodAll_cons r0
  obtain ⟨rfl, rfl, rfl⟩ := trodAll_nil r1
  obtain rfl : args = #[v0, v1] := by cases args; simp_all
  obtain ⟨rfl, rfl⟩ := trodVars_none hV
  have hbulk := hbulk0
  simp only [List.append_nil] at hbulk
  obtain ⟨C0, rfl, hz0⟩ := okWide_struct Tryz.underlying25 (hval 0 25 v0 rfl rfl)
  have k0 := h0
  have lt0 : ∀ x ∈ p0, x.block < W.heap.size := by obtain ⟨m, hm⟩ := k0; exact DataW.trod_lt m _ _ _ hm
  obtain ⟨fuel0, hf0⟩ := h0
  obtain ⟨s0, K0, w0⟩ := opens_st25 enc W _ _ _ fuel0 _ _ hf0 (fun n hn => Nat.le_trans ((light_struct (by decide) Tryz.underlying25 (by intro u hu; simp at hu; rcases hu with rfl | rfl | rfl | rfl; all_goals first  | exact (light_struct (by decide) Tryz.underlying23 (by intro u hu; simp at hu; rcases hu with rfl | rfl; all_goals first  | exact (light_int (by decide) Tryz.underlying3))) | exact (light_bool (by decide) Tryz.underlying4) | exact (light_int (by decide) Tryz.underlying2) | exact (light_string (by decide) Tryz.underlying9))) _ n hn) (Nat.mul_le_mul_left 64 (Nat.le_trans (bulk_part (by simp)) hbulk)))
  have e0 := k25_open K0
  obtain rfl : C0 = #[.int .i64 s0.f0.f0, .int .i64 s0.f0.f1, .bool s0.f1, .int .i64 s0.f2, .string s0.f3] := Array.ext' (by simpa [Value.cells] using e0)
  obtain ⟨C1, rfl, hz1⟩ := okWide_struct Tryz.underlying23 (hval 1 23 v1 rfl rfl)
  have k1 := h1
  have lt1 : ∀ x ∈ p1, x.block < W.heap.size := by obtain ⟨m, hm⟩ := k1; exact DataW.trod_lt m _ _ _ hm
  obtain ⟨fuel1, hf1⟩ := h1
  obtain ⟨s1, K1, w1⟩ := opens_st23 enc W _ _ _ fuel1 _ _ hf1 (fun n hn => Nat.le_trans ((light_struct (by decide) Tryz.underlying23 (by intro u hu; simp at hu; rcases hu with rfl | rfl; all_goals first  | exact (light_int (by decide) Tryz.underlying3))) _ n hn) (Nat.mul_le_mul_left 64 (Nat.le_trans (bulk_part (by simp)) hbulk)))
  have e1 := k23_open K1
  obtain rfl : C1 = #[.int .i64 s1.f0, .int .i64 s1.f1] := Array.ext' (by simpa [Value.cells] using e1)
  obtain ⟨k, hk⟩ := Pure.ValueCasts s0 s1 w0 w1
  clear hA0 hval0 hsz0
  refine (E.colonnadelaw02_ValueCasts.calls (k := k) (a0_0 := s0.f0.f0) (a0_1 := s0.f0.f1) (a0_2 := s0.f1) (a0_3 := s0.f2) (a0_4 := s0.f3) (a1_0 := s1.f0) (a1_1 := s1.f1) (r := true) (w := W) (h := hk) (hG := Gl.of_laid hL hSh)).mono fun e W' ⟨he, bel⟩ => ?_
  subst he
  exact ⟨_, rfl, _, _, _, [], _, [], hW', trodAll_mk1 (shut_bool Tryz.underlying4 _), (trodAll_cons_mk (Below.trod laidOut (by kernel_rfl) (of_decide_eq_true (by kernel_rfl)) k0 bel lt0) (trodAll_cons_mk (Below.trod laidOut (by kernel_rfl) (of_decide_eq_true (by kernel_rfl)) k1 bel lt1) trodAll_mk0)), rfl, bel.frame _, fun h => by cases h⟩
theorem over : Rows.valueCastsUptoRow.holds Tryz.pinned (Rows.OpenSpec.upto Rows.valueCastsSpec) :=
  OpenClaim.holds_of_cond 3 Tryz.f3 rfl rfl rfl rfl rfl rfl rfl ⟨rfl, rfl, rfl, rfl, rfl⟩ rfl rfl rfl rfl rfl (by kernel_rfl) Tryz.func3 (by kernel_rfl)
    (of_decide_eq_true (by kernel_rfl)) (by unfold Func.isWrapper; first | (rw [if_pos (by decide +kernel)]; kernel_rfl) | (rw [if_neg (by decide +kernel)]; exact ⟨rfl, rfl⟩))
    (fun os started H enc _ F => by rw [OpenClaim.pre_eq_preRow]; exact lifted os started H enc F)
theorem carded : Rows.ValueCastsUptoCardSaid :=
  Claim7.holds_tied_plain_at .later [] [.data, .data, .data, .data, .sentinel, .sentinel, .pinned] true (true, "3a9924d5132b019704feb0bdbe7cd497f86e4bcd5d91ca3971641e1e5f6102cc") true
    over (fun _ h => by cases h) (by kernel_rfl) (fun _ h => by cases h) valueCastsUpto_row_tie rfl ⟨rfl, rfl⟩ (by kernel_rfl) rfl
    (fun f fn hf hfn => by
      obtain rfl : f = 3 := Option.some.inj ((show Tryz.prog.funcNamed "colonnade/colonnadelaw02.ValueCasts" = some 3 by kernel_rfl).symm.trans hf) |>.symm
      obtain rfl : fn = Tryz.f3 := (Option.some.inj (Tryz.func3.symm.trans hfn)).symm
      exact ⟨by kernel_rfl, fun j t ht => by
        rw [Tryz.params3] at ht
        have hm : t ∈ [25, 23] := by simpa using Array.mem_of_getElem? ht
        have hall : ([25, 23].all fun u => !Tryz.prog.wantsStandIn u) = true := by kernel_rfl
        exact (show Tryz.prog.wantsStandIn t = false by simpa using List.all_eq_true.1 hall t hm)⟩)
    (by kernel_rfl)
end Go.Proofs.YtjpgjggbanpegaaGreatDoor.valueCasts
namespace Go.Proofs.YtjpgjggbanpegaaGreatDoor
theorem valueCasts_holds : Rows.ValueCastsUptoCardSaid := valueCasts.carded
#print axioms valueCasts_holds
end Go.Proofs.YtjpgjggbanpegaaGreatDoor
