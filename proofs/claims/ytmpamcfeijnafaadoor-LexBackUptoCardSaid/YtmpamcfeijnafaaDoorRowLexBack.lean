/- LexBack: the statement of the given law, for every input: the law answers true, and what it was handed reads as before. Conditions: the row's own (what it lists of package-level variables, tied to the program's text by the card). -/
import Derived.Test.YtmpamcfeijnafaaDoorRows
import Derived.Test.YtmpamcfeijnafaaDoorR10
import Derived.Test.YtmpamcfeijnafaaDoorPureLexBack
import Derived.Test.YtmpamcfeijnafaaDoorWrap
import Derived.Test.YtmpamcfeijnafaaDoorUpto
import Derived.Test.YtmpamcfeijnafaaDoorGlLaid
import Derived.Test.YtmpamcfeijnafaaDoorTie
import Derived.Test.YtmpamcfeijnafaaDoorCards
import Derived.WalkKit
import Derived.ProofKit
import Derived.OpenShut
import Derived.ShutString
import Derived.ChangeOld
import Derived.Below
import Derived.SizedLaws
import Derived.LaidMore
import Derived.Stop.Joined
import Derived.SevenTiedAt
import Derived.Lay
import Derived.MakeChecks
import Derived.JoinedCond
import Derived.Deep.DeepHandedRow
import Derived.Test.YtmpamcfeijnafaaDoorOpen
import Derived.OwnWalk
namespace Go.Proofs.YtmpamcfeijnafaaDoor.lexBack
open Go.Proofs.YtmpamcfeijnafaaDoor Go.Proofs.YtmpamcfeijnafaaDoor.R Go.Proofs.YtmpamcfeijnafaaDoorW.PrintWords
open Go.ChangeShapes Go.WideShapes Go.ChangeAt Go.RowKit
open Go.ChangeMaps (open_string shut_string)
theorem own : ownKnob Tryd.prog.godebug = none := by kernel_rfl
theorem laidOut : laidOutB Tryd.prog = true := by kernel_rfl
theorem list_len3 {α : Type} : ∀ {l : List α}, l.length = 3 → ∃ y0 y1 y2, l = [y0, y1, y2]
  | [y0, y1, y2], _ => ⟨y0, y1, y2, rfl⟩
theorem opens_st25 : Opens 33554432 Tryd.prog k25 25 (fun x => (Lit.int .i64 x.f0).wf = true ∧ x.f1.size ≤ 33554432 ∧ (Lit.int .i64 x.f2).wf = true) := by
  intro H enc w base spare held fuel cs x hx hw
  obtain ⟨ys, n, _, hxe, hlen, hyl, hf⟩ := DataW.trod_struct Tryd.underlying25 hx
  obtain rfl := hxe
  have hlen' : cs.length = 3 := hlen.trans (by kernel_rfl)
  have hyl' : ys.length = 3 := hyl
  obtain ⟨y0, y1, y2, rfl⟩ := list_len3 hyl'
  · skip
    have e0 : DataW.trod enc Tryd.prog w base spare held n 3 ((cs.drop 0).take 1) = some y0 := by
      have e := hf 0 _ rfl
      have c : Tryd.prog.cellsOf 3 = 1 := by kernel_rfl
      exact (congrArg (fun z => DataW.trod enc Tryd.prog w base spare held n 3 ((cs.drop 0).take z)) c.symm).trans e
    have e1 : DataW.trod enc Tryd.prog w base spare held n 9 ((cs.drop 1).take 1) = some y1 := by
      have e := hf 1 _ rfl
      have c : Tryd.prog.cellsOf 9 = 1 := by kernel_rfl
      exact (congrArg (fun z => DataW.trod enc Tryd.prog w base spare held n 9 ((cs.drop 1).take z)) c.symm).trans e
    have e2 : DataW.trod enc Tryd.prog w base spare held n 3 ((cs.drop 2).take 1) = some y2 := by
      have e := hf 2 _ rfl
      have c : Tryd.prog.cellsOf 3 = 1 := by kernel_rfl
      exact (congrArg (fun z => DataW.trod enc Tryd.prog w base spare held n 3 ((cs.drop 2).take z)) c.symm).trans e
    have hw' : ∀ q ∈ DataW.weightsEach Tryd.prog [3, 9, 3] [y0.1, y1.1, y2.1], q ≤ 33554432 := by
      intro q hq
      refine hw q ?_
      simp only [DataW.weights, Tryd.underlying25]
      exact hq
    obtain ⟨v0, a0, g0⟩ := (opens_int Tryd.underlying3) enc w base spare held n _ y0 e0 (fun q hq => hw' q (DataW.weights_mem_each (j := 0) rfl rfl q hq))
    obtain ⟨v1, a1, g1⟩ := (opens_string Tryd.underlying9) enc w base spare held n _ y1 e1 (fun q hq => hw' q (DataW.weights_mem_each (j := 1) rfl rfl q hq))
    obtain ⟨v2, a2, g2⟩ := (opens_int Tryd.underlying3) enc w base spare held n _ y2 e2 (fun q hq => hw' q (DataW.weights_mem_each (j := 2) rfl rfl q hq))
    refine ⟨(⟨v0, v1, v2⟩ : S25), ?_, g0, g1, g2⟩
    have b2 := last_suffix (off := 2) (s := 1) (by omega) a2
    have b1 := pair_suffix (off := 1) (s := 1) a1 b2
    have b0 := pair_suffix (off := 0) (s := 1) a0 b1
    exact b0
theorem reads (os : Os) {H : Type} (enc : TypeId × Value → H) : ∃ places, DataW.whole enc Tryd.prog ((World.laidAll Tryd.prog os Rows.lexBackUptoRow.laid).forCall (fun _ _ => 0) ⟨#[], #[.slice none 0 0, .string ByteArray.empty], []⟩).memory Tryd.f3.params.toList Rows.lexBackSpec.vars false (#[.slice none 0 0, .string ByteArray.empty] : Array Value).toList 8 = some ([.nil, .lit (.string [])], [], places) :=
  ⟨[], by kernel_rfl⟩
set_option maxRecDepth 100000 in
theorem lifted (os : Os) (started : os.Started) (H : Type) (enc : TypeId × Value → H) (F : Stop.Interp) :
    ReturnsInHanded {} Tryd.checked os 3 .any ((Rows.OpenSpec.upto Rows.lexBackSpec).preRow enc Tryd.prog Tryd.f3 Rows.lexBackUptoRow.domain false Rows.lexBackUptoRow.laid) (((Rows.OpenSpec.upto Rows.lexBackSpec).at F).post enc Tryd.prog Tryd.f3 false true false false) := by
  obtain ⟨places, hx⟩ := reads os enc
  refine returnsInHanded_of_row (C := Tryd.checked) (s := Rows.OpenSpec.upto Rows.lexBackSpec) own started (by kernel_rfl) Tryd.func3
    (witness_upto (enc := enc) (C := Tryd.checked) (World.laidAll Tryd.prog os Rows.lexBackUptoRow.laid) #[.slice none 0 0, .string ByteArray.empty] (World.laidAll_os _ _ _) (World.shaped_of_ZipB (by kernel_rfl) (by kernel_rfl)) (by kernel_rfl)
      (OpenSpec.preRow_of_cond 8 hx (by kernel_rfl) (fun k hk => by cases hk; kernel_rfl) (by kernel_rfl) (by rw [MakeChecks.laidMetH_plain _ _ _ (by kernel_rfl)]; exact laidMet_laidAll _ (by kernel_rfl) (by kernel_rfl)))) ?_
  intro W base args ds gs before hval0 hW _ hcond hsz0 hL hSh _
  have hbulk0 := bulk_bound (hcond _ rfl)
  have hval : ∀ (j : Nat) t v, Tryd.f3.params[j]? = some t → args[j]? = some v → Value.okWide Tryd.prog W .any base t v := hval0
  have hW' := hW
  obtain ⟨p, q, hA0, hV, rfl, hfz, hnd⟩ := hW
  have hA : DataW.TrodAll enc Tryd.prog W 0 (fun _ => true) true Tryd.f3.params.toList args.toList ds p := hA0
  rw [Tryd.params3] at hA hval
  obtain ⟨v0, vs0, d0, ds0, p0, q0, hargs, rfl, rfl, h0, r0⟩ := trodAll_cons hA
  obtain ⟨v1, vs1, d1, ds1, p1, q1, rfl, rfl, rfl, h1, r1⟩ := trodAll_cons r0
  obtain ⟨rfl, rfl, rfl⟩ := trodAll_nil r1
  obtain rfl : args = #[v0, v1] := by cases args; simp_all
  obtain ⟨rfl, rfl⟩ := trodVars_none hV
  have hbulk := hbulk0
  simp only [List.append_nil] at hbulk
  obtain ⟨A0, n0, c0, rfl⟩ := okWide_slice Tryd.underlying22 (hval 0 22 v0 rfl rfl)
  have k0 := h0
  have lt0 : ∀ x ∈ p0, x.block < W.heap.size := by obtain ⟨m, hm⟩ := k0; exact DataW.trod_lt m _ _ _ hm
  obtain ⟨fuel0, hf0⟩ := h0
  obtain ⟨l0, K0, w0⟩ := (opens_slice Tryd.underlying22 (by kernel_rfl) (B := 32) (by kernel_rfl) opens_st25) enc W _ _ _ fuel0 _ _ hf0 (fun n hn => Nat.le_trans ((light_slice (by decide) Tryd.underlying22 (by kernel_rfl) (B := 32) (by decide) (light_struct (by decide) Tryd.underlying25 (by intro u hu; simp at hu; rcases hu with rfl | rfl | rfl; all_goals first  | exact (light_int (by decide) Tryd.underlying3) | exact (light_string (by decide) Tryd.underlying9)))) _ n hn) (Nat.mul_le_mul_left 32 (Nat.le_trans (bulk_part (by simp)) hbulk)))
  obtain ⟨A', c', e', hc0, hr0⟩ := K0
  obtain ⟨rfl, rfl, rfl⟩ : A' = A0 ∧ n0 = l0.length ∧ c' = c0 := by simpa [Value.cells, eq_comm] using e'
  obtain ⟨a1, rfl, rfl, rfl, y1⟩ := open_string Tryd.underlying9 (hval 1 9 v1 rfl rfl) h1
  have w1 : a1.size ≤ 33554432 := by
    have z := light_string (K := 32) (by decide) Tryd.underlying9 (DataW.lit (H := H) (.string a1.data.toList)) a1.data.toList.length (by simp [DataW.weights])
    rw [Array.length_toList] at z
    exact Nat.le_trans z (Nat.mul_le_mul_left 32 (Nat.le_trans (bulk_part (by simp)) hbulk))
  obtain ⟨k, hk⟩ := Pure.LexBack l0 a1 w0 w1
  clear hA0 hval0 hsz0
  refine (R.colonnadelaw16_LexBack.calls (k := k) (l0 := l0) (hr0 := hr0) (hc0 := hc0) (a1 := a1) (r := true) (w := W) (h := hk) (hG := Gl.of_laid hL hSh)).mono fun e W' ⟨he, bel⟩ => ?_
  subst he
  exact ⟨_, rfl, _, _, _, [], _, [], hW', trodAll_mk1 (shut_bool Tryd.underlying4 _), (trodAll_cons_mk (Below.trod laidOut (by kernel_rfl) (of_decide_eq_true (by kernel_rfl)) k0 bel lt0) (trodAll_cons_mk (shut_string Tryd.underlying9 y1) trodAll_mk0)), rfl, bel.frame _, fun h => by cases h⟩
theorem over : Rows.lexBackUptoRow.holds Tryd.pinned (Rows.OpenSpec.upto Rows.lexBackSpec) :=
  OpenClaim.holds_of_cond 3 Tryd.f3 rfl rfl rfl rfl rfl rfl rfl ⟨rfl, rfl, rfl, rfl, rfl⟩ rfl rfl rfl rfl rfl (by kernel_rfl) Tryd.func3 (by kernel_rfl)
    (of_decide_eq_true (by kernel_rfl)) (by unfold Func.isWrapper; first | (rw [if_pos (by decide +kernel)]; kernel_rfl) | (rw [if_neg (by decide +kernel)]; exact ⟨rfl, rfl⟩))
    (fun os started H enc _ F => by rw [OpenClaim.pre_eq_preRow]; exact lifted os started H enc F)
theorem carded : Rows.LexBackUptoCardSaid :=
  Claim7.holds_tied_plain_at .later [] [.data, .pinned] true (true, "6ed10a9b0b4a197d8f4f941614df07ba96e8685beb43a4c1ce0d6e2adf577803") false
    over (fun _ h => by cases h) (by kernel_rfl) (fun _ h => by cases h) lexBackUpto_row_tie rfl ⟨rfl, rfl⟩ (by kernel_rfl) rfl
    (fun f fn hf hfn => by
      obtain rfl : f = 3 := Option.some.inj ((show Tryd.prog.funcNamed "colonnade/colonnadelaw16.LexBack" = some 3 by kernel_rfl).symm.trans hf) |>.symm
      obtain rfl : fn = Tryd.f3 := (Option.some.inj (Tryd.func3.symm.trans hfn)).symm
      exact ⟨by kernel_rfl, fun j t ht => by
        rw [Tryd.params3] at ht
        have hm : t ∈ [22, 9] := by simpa using Array.mem_of_getElem? ht
        have hall : ([22, 9].all fun u => !Tryd.prog.wantsStandIn u) = true := by kernel_rfl
        exact (show Tryd.prog.wantsStandIn t = false by simpa using List.all_eq_true.1 hall t hm)⟩)
    (by kernel_rfl)
end Go.Proofs.YtmpamcfeijnafaaDoor.lexBack
namespace Go.Proofs.YtmpamcfeijnafaaDoor
theorem lexBack_holds : Rows.LexBackUptoCardSaid := lexBack.carded
#print axioms lexBack_holds
end Go.Proofs.YtmpamcfeijnafaaDoor
