/- SchemaShows: the statement of the given law, for every input: the law answers true, and what it was handed reads as before. Conditions: the row's own (what it lists of package-level variables, tied to the program's text by the card). -/
import Derived.Test.YtmeopdjdjmjngaaGreatDoorRows
import Derived.Test.YtmeopdjdjmjngaaGreatDoorA90
import Derived.Test.YtmeopdjdjmjngaaGreatDoorA6
import Derived.Test.YtmeopdjdjmjngaaGreatDoorPureSchemaShows
import Derived.Test.YtmeopdjdjmjngaaGreatDoorWrap
import Derived.Test.YtmeopdjdjmjngaaGreatDoorUpto
import Derived.Test.YtmeopdjdjmjngaaGreatDoorGlLaid
import Derived.Test.YtmeopdjdjmjngaaGreatDoorTie
import Derived.Test.YtmeopdjdjmjngaaGreatDoorCards
import Derived.WalkKit
import Derived.ProofKit
import Derived.OpenShut
import Derived.ShutString
import Derived.ChangeOld
import Derived.Below
import Derived.SizedLaws
import Derived.LaidMore
import Derived.Stop.Joined
import Derived.SevenTiedAt
import Derived.Lay
import Derived.MakeChecks
import Derived.JoinedCond
import Derived.Deep.DeepHandedRow
import Derived.Test.YtmeopdjdjmjngaaGreatDoorOpen
import Derived.OwnWalk
namespace Go.Proofs.YtmeopdjdjmjngaaGreatDoor.schemaShows
open Go.Proofs.YtmeopdjdjmjngaaGreatDoor Go.Proofs.YtmeopdjdjmjngaaGreatDoor.A Go.Proofs.YtmeopdjdjmjngaaGreatDoorW.PrintWords
open Go.ChangeShapes Go.WideShapes Go.ChangeAt Go.RowKit
open Go.ChangeMaps (open_string shut_string)
theorem own : ownKnob Tryz.prog.godebug = none := by kernel_rfl
theorem laidOut : laidOutB Tryz.prog = true := by kernel_rfl
theorem list_len2 {α : Type} : ∀ {l : List α}, l.length = 2 → ∃ y0 y1, l = [y0, y1]
  | [y0, y1], _ => ⟨y0, y1, rfl⟩
theorem opens_st34 : Opens 67108864 Tryz.prog k34 34 (fun x => (Lit.int .i64 x.f0).wf = true ∧ (Lit.int .i64 x.f1).wf = true) := by
  intro H enc w base spare held fuel cs x hx hw
  obtain ⟨ys, n, _, hxe, hlen, hyl, hf⟩ := DataW.trod_struct Tryz.underlying34 hx
  obtain rfl := hxe
  have hlen' : cs.length = 2 := hlen.trans (by kernel_rfl)
  have hyl' : ys.length = 2 := hyl
  obtain ⟨y0, y1, rfl⟩ := list_len2 hyl'
  · skip
    have e0 : DataW.trod enc Tryz.prog w base spare held n 3 ((cs.drop 0).take 1) = some y0 := by
      have e := hf 0 _ rfl
      have c : Tryz.prog.cellsOf 3 = 1 := by kernel_rfl
      exact (congrArg (fun z => DataW.trod enc Tryz.prog w base spare held n 3 ((cs.drop 0).take z)) c.symm).trans e
    have e1 : DataW.trod enc Tryz.prog w base spare held n 3 ((cs.drop 1).take 1) = some y1 := by
      have e := hf 1 _ rfl
      have c : Tryz.prog.cellsOf 3 = 1 := by kernel_rfl
      exact (congrArg (fun z => DataW.trod enc Tryz.prog w base spare held n 3 ((cs.drop 1).take z)) c.symm).trans e
    have hw' : ∀ q ∈ DataW.weightsEach Tryz.prog [3, 3] [y0.1, y1.1], q ≤ 67108864 := by
      intro q hq
      refine hw q ?_
      simp only [DataW.weights, Tryz.underlying34]
      exact hq
    obtain ⟨v0, a0, g0⟩ := (opens_int Tryz.underlying3) enc w base spare held n _ y0 e0 (fun q hq => hw' q (DataW.weights_mem_each (j := 0) rfl rfl q hq))
    obtain ⟨v1, a1, g1⟩ := (opens_int Tryz.underlying3) enc w base spare held n _ y1 e1 (fun q hq => hw' q (DataW.weights_mem_each (j := 1) rfl rfl q hq))
    refine ⟨(⟨v0, v1⟩ : S34), ?_, g0, g1⟩
    have b1 := last_suffix (off := 1) (s := 1) (by omega) a1
    have b0 := pair_suffix (off := 0) (s := 1) a0 b1
    exact b0
theorem list_len3 {α : Type} : ∀ {l : List α}, l.length = 3 → ∃ y0 y1 y2, l = [y0, y1, y2]
  | [y0, y1, y2], _ => ⟨y0, y1, y2, rfl⟩
theorem opens_st36 : Opens 67108864 Tryz.prog k36 36 (fun x => x.f0.size ≤ 67108864 ∧ ((Lit.int .i64 x.f1.f0).wf = true ∧ (Lit.int .i64 x.f1.f1).wf = true) ∧ True) := by
  intro H enc w base spare held fuel cs x hx hw
  obtain ⟨ys, n, _, hxe, hlen, hyl, hf⟩ := DataW.trod_struct Tryz.underlying36 hx
  obtain rfl := hxe
  have hlen' : cs.length = 4 := hlen.trans (by kernel_rfl)
  have hyl' : ys.length = 3 := hyl
  obtain ⟨y0, y1, y2, rfl⟩ := list_len3 hyl'
  · skip
    have e0 : DataW.trod enc Tryz.prog w base spare held n 9 ((cs.drop 0).take 1) = some y0 := by
      have e := hf 0 _ rfl
      have c : Tryz.prog.cellsOf 9 = 1 := by kernel_rfl
      exact (congrArg (fun z => DataW.trod enc Tryz.prog w base spare held n 9 ((cs.drop 0).take z)) c.symm).trans e
    have e1 : DataW.trod enc Tryz.prog w base spare held n 34 ((cs.drop 1).take 2) = some y1 := by
      have e := hf 1 _ rfl
      have c : Tryz.prog.cellsOf 34 = 2 := by kernel_rfl
      exact (congrArg (fun z => DataW.trod enc Tryz.prog w base spare held n 34 ((cs.drop 1).take z)) c.symm).trans e
    have e2 : DataW.trod enc Tryz.prog w base spare held n 4 ((cs.drop 3).take 1) = some y2 := by
      have e := hf 2 _ rfl
      have c : Tryz.prog.cellsOf 4 = 1 := by kernel_rfl
      exact (congrArg (fun z => DataW.trod enc Tryz.prog w base spare held n 4 ((cs.drop 3).take z)) c.symm).trans e
    have hw' : ∀ q ∈ DataW.weightsEach Tryz.prog [9, 34, 4] [y0.1, y1.1, y2.1], q ≤ 67108864 := by
      intro q hq
      refine hw q ?_
      simp only [DataW.weights, Tryz.underlying36]
      exact hq
    obtain ⟨v0, a0, g0⟩ := (opens_string Tryz.underlying9) enc w base spare held n _ y0 e0 (fun q hq => hw' q (DataW.weights_mem_each (j := 0) rfl rfl q hq))
    obtain ⟨v1, a1, g1⟩ := opens_st34 enc w base spare held n _ y1 e1 (fun q hq => hw' q (DataW.weights_mem_each (j := 1) rfl rfl q hq))
    obtain ⟨v2, a2, g2⟩ := (opens_bool Tryz.underlying4) enc w base spare held n _ y2 e2 (fun q hq => hw' q (DataW.weights_mem_each (j := 2) rfl rfl q hq))
    refine ⟨(⟨v0, v1, v2⟩ : S36), ?_, g0, g1, g2⟩
    have b2 := last_suffix (off := 3) (s := 1) (by omega) a2
    have b1 := pair_suffix (off := 1) (s := 2) a1 b2
    have b0 := pair_suffix (off := 0) (s := 1) a0 b1
    exact b0
theorem opens_st24 : Opens 67108864 Tryz.prog k24 24 (fun x => x.f0.size ≤ 67108864 ∧ (x.f1.length * 40 ≤ 67108864 ∧ ∀ y ∈ x.f1, (y.f0.size ≤ 67108864 ∧ ((Lit.int .i64 y.f1.f0).wf = true ∧ (Lit.int .i64 y.f1.f1).wf = true) ∧ True))) := by
  intro H enc w base spare held fuel cs x hx hw
  obtain ⟨ys, n, _, hxe, hlen, hyl, hf⟩ := DataW.trod_struct Tryz.underlying24 hx
  obtain rfl := hxe
  have hlen' : cs.length = 2 := hlen.trans (by kernel_rfl)
  have hyl' : ys.length = 2 := hyl
  obtain ⟨y0, y1, rfl⟩ := list_len2 hyl'
  · skip
    have e0 : DataW.trod enc Tryz.prog w base spare held n 9 ((cs.drop 0).take 1) = some y0 := by
      have e := hf 0 _ rfl
      have c : Tryz.prog.cellsOf 9 = 1 := by kernel_rfl
      exact (congrArg (fun z => DataW.trod enc Tryz.prog w base spare held n 9 ((cs.drop 0).take z)) c.symm).trans e
    have e1 : DataW.trod enc Tryz.prog w base spare held n 22 ((cs.drop 1).take 1) = some y1 := by
      have e := hf 1 _ rfl
      have c : Tryz.prog.cellsOf 22 = 1 := by kernel_rfl
      exact (congrArg (fun z => DataW.trod enc Tryz.prog w base spare held n 22 ((cs.drop 1).take z)) c.symm).trans e
    have hw' : ∀ q ∈ DataW.weightsEach Tryz.prog [9, 22] [y0.1, y1.1], q ≤ 67108864 := by
      intro q hq
      refine hw q ?_
      simp only [DataW.weights, Tryz.underlying24]
      exact hq
    obtain ⟨v0, a0, g0⟩ := (opens_string Tryz.underlying9) enc w base spare held n _ y0 e0 (fun q hq => hw' q (DataW.weights_mem_each (j := 0) rfl rfl q hq))
    obtain ⟨v1, a1, g1⟩ := (opens_slice Tryz.underlying22 (by kernel_rfl) (B := 40) (by kernel_rfl) opens_st36) enc w base spare held n _ y1 e1 (fun q hq => hw' q (DataW.weights_mem_each (j := 1) rfl rfl q hq))
    refine ⟨(⟨v0, v1⟩ : S24), ?_, g0, g1⟩
    have b1 := last_suffix (off := 1) (s := 1) (by omega) a1
    have b0 := pair_suffix (off := 0) (s := 1) a0 b1
    exact b0
theorem reads (os : Os) {H : Type} (enc : TypeId × Value → H) : ∃ places, DataW.whole enc Tryz.prog ((World.laidAll Tryz.prog os Rows.schemaShowsUptoRow.laid).forCall (fun _ _ => 0) ⟨#[], #[.agg #[.string ByteArray.empty, .slice none 0 0]], []⟩).memory Tryz.f4.params.toList Rows.schemaShowsSpec.vars false (#[.agg #[.string ByteArray.empty, .slice none 0 0]] : Array Value).toList 8 = some ([.agg [.lit (.string []), .nil]], [], places) :=
  ⟨[], by kernel_rfl⟩
set_option maxRecDepth 100000 in
theorem lifted (os : Os) (started : os.Started) (H : Type) (enc : TypeId × Value → H) (F : Stop.Interp) :
    ReturnsInHanded {} Tryz.checked os 4 .any ((Rows.OpenSpec.upto Rows.schemaShowsSpec).preRow enc Tryz.prog Tryz.f4 Rows.schemaShowsUptoRow.domain false Rows.schemaShowsUptoRow.laid) (((Rows.OpenSpec.upto Rows.schemaShowsSpec).at F).post enc Tryz.prog Tryz.f4 false true false false) := by
  obtain ⟨places, hx⟩ := reads os enc
  refine returnsInHanded_of_row (C := Tryz.checked) (s := Rows.OpenSpec.upto Rows.schemaShowsSpec) own started (by kernel_rfl) Tryz.func4
    (witness_upto (enc := enc) (C := Tryz.checked) (World.laidAll Tryz.prog os Rows.schemaShowsUptoRow.laid) #[.agg #[.string ByteArray.empty, .slice none 0 0]] (World.laidAll_os _ _ _) (World.shaped_of_ZipB (by kernel_rfl) (by kernel_rfl)) (by kernel_rfl)
      (OpenSpec.preRow_of_cond 8 hx (by kernel_rfl) (fun k hk => by cases hk; kernel_rfl) (by kernel_rfl) (by rw [MakeChecks.laidMetH_plain _ _ _ (by kernel_rfl)]; exact laidMet_laidAll _ (by kernel_rfl) (by kernel_rfl)))) ?_
  intro W base args ds gs before hval0 hW _ hcond hsz0 hL hSh _
  have hbulk0 := bulk_bound (hcond _ rfl)
  have hval : ∀ (j : Nat) t v, Tryz.f4.params[j]? = some t → args[j]? = some v → Value.okWide Tryz.prog W .any base t v := hval0
  have hW' := hW
  obtain ⟨p, q, hA0, hV, rfl, hfz, hnd⟩ := hW
  have hA : DataW.TrodAll enc Tryz.prog W 0 (fun _ => true) true Tryz.f4.params.toList args.toList ds p := hA0
  rw [Tryz.params4] at hA hval
  obtain ⟨v0, vs0, d0, ds0, p0, q0, hargs, rfl, rfl, h0, r0⟩ := trodAll_cons hA
  obtain ⟨rfl, rfl, rfl⟩ := trodAll_nil r0
  obtain rfl : args = #[v0] := by cases args; simp_all
  obtain ⟨rfl, rfl⟩ := trodVars_none hV
  have hbulk := hbulk0
  simp only [List.append_nil] at hbulk
  obtain ⟨C0, rfl, hz0⟩ := okWide_struct Tryz.underlying24 (hval 0 24 v0 rfl rfl)
  have k0 := h0
  have lt0 : ∀ x ∈ p0, x.block < W.heap.size := by obtain ⟨m, hm⟩ := k0; exact DataW.trod_lt m _ _ _ hm
  obtain ⟨fuel0, hf0⟩ := h0
  obtain ⟨s0, K0, w0⟩ := opens_st24 enc W _ _ _ fuel0 _ _ hf0 (fun n hn => Nat.le_trans ((light_struct (by decide) Tryz.underlying24 (by intro u hu; simp at hu; rcases hu with rfl | rfl; all_goals first  | exact (light_string (by decide) Tryz.underlying9) | exact (light_slice (by decide) Tryz.underlying22 (by kernel_rfl) (B := 40) (by decide) (light_struct (by decide) Tryz.underlying36 (by intro u hu; simp at hu; rcases hu with rfl | rfl | rfl; all_goals first  | exact (light_string (by decide) Tryz.underlying9) | exact (light_struct (by decide) Tryz.underlying34 (by intro u hu; simp at hu; rcases hu with rfl | rfl; all_goals first  | exact (light_int (by decide) Tryz.underlying3))) | exact (light_bool (by decide) Tryz.underlying4)))))) _ n hn) (Nat.mul_le_mul_left 64 (Nat.le_trans (bulk_part (by simp)) hbulk)))
  obtain ⟨_, _, e0, rfl, ⟨A0_1, c0_1, rfl, hc0_1, hr0_1⟩⟩ := K0
  obtain rfl : C0 = #[.string s0.f0, .slice A0_1 s0.f1.length c0_1] := Array.ext' (by simpa [Value.cells] using e0)
  obtain ⟨k, hk⟩ := Pure.SchemaShows s0 w0
  clear hA0 hval0 hsz0
  refine (A.colonnadelaw11_SchemaShows.calls (k := k) (a0_0 := s0.f0) (A0_1 := A0_1) (c0_1 := c0_1) (l0_1 := s0.f1) (hr0_1 := hr0_1) (hc0_1 := hc0_1) (r := true) (w := W) (h := hk) (hG := Gl.of_laid hL hSh)).mono fun e W' ⟨he, bel⟩ => ?_
  subst he
  exact ⟨_, rfl, _, _, _, [], _, [], hW', trodAll_mk1 (shut_bool Tryz.underlying4 _), (trodAll_cons_mk (Below.trod laidOut (by kernel_rfl) (of_decide_eq_true (by kernel_rfl)) k0 bel lt0) trodAll_mk0), rfl, bel.frame _, fun h => by cases h⟩
theorem over : Rows.schemaShowsUptoRow.holds Tryz.pinned (Rows.OpenSpec.upto Rows.schemaShowsSpec) :=
  OpenClaim.holds_of_cond 4 Tryz.f4 rfl rfl rfl rfl rfl rfl rfl ⟨rfl, rfl, rfl, rfl, rfl⟩ rfl rfl rfl rfl rfl (by kernel_rfl) Tryz.func4 (by kernel_rfl)
    (of_decide_eq_true (by kernel_rfl)) (by unfold Func.isWrapper; first | (rw [if_pos (by decide +kernel)]; kernel_rfl) | (rw [if_neg (by decide +kernel)]; exact ⟨rfl, rfl⟩))
    (fun os started H enc _ F => by rw [OpenClaim.pre_eq_preRow]; exact lifted os started H enc F)
theorem carded : Rows.SchemaShowsUptoCardSaid :=
  Claim7.holds_tied_plain_at .later [] [.data, .data, .data, .data, .sentinel, .sentinel, .pinned] true (true, "340a73ac2e68413d26eb5b751f191218596df36345d0788e08aeb7d0db841f5c") true
    over (fun _ h => by cases h) (by kernel_rfl) (fun _ h => by cases h) schemaShowsUpto_row_tie rfl ⟨rfl, rfl⟩ (by kernel_rfl) rfl
    (fun f fn hf hfn => by
      obtain rfl : f = 4 := Option.some.inj ((show Tryz.prog.funcNamed "colonnade/colonnadelaw11.SchemaShows" = some 4 by kernel_rfl).symm.trans hf) |>.symm
      obtain rfl : fn = Tryz.f4 := (Option.some.inj (Tryz.func4.symm.trans hfn)).symm
      exact ⟨by kernel_rfl, fun j t ht => by
        rw [Tryz.params4] at ht
        have hm : t ∈ [24] := by simpa using Array.mem_of_getElem? ht
        have hall : ([24].all fun u => !Tryz.prog.wantsStandIn u) = true := by kernel_rfl
        exact (show Tryz.prog.wantsStandIn t = false by simpa using List.all_eq_true.1 hall t hm)⟩)
    (by kernel_rfl)
end Go.Proofs.YtmeopdjdjmjngaaGreatDoor.schemaShows
namespace Go.Proofs.YtmeopdjdjmjngaaGreatDoor
theorem schemaShows_holds : Rows.SchemaShowsUptoCardSaid := schemaShows.carded
#print axioms schemaShows_holds
end Go.Proofs.YtmeopdjdjmjngaaGreatDoor
