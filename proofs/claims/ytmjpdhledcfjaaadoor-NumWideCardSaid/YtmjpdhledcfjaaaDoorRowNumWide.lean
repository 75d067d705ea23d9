/- NumWide: the statement of the given law, for every input: the law answers true, and what it was handed reads as before. Conditions: the row's own (what it lists of package-level variables, tied to the program's text by the card). -/
import Derived.Test.YtmjpdhledcfjaaaDoorRows
import Derived.Test.YtmjpdhledcfjaaaDoorR19
import Derived.Test.YtmjpdhledcfjaaaDoorPureNumWide
import Derived.Test.YtmjpdhledcfjaaaDoorWrap
import Derived.Test.YtmjpdhledcfjaaaDoorGlLaid
import Derived.Test.YtmjpdhledcfjaaaDoorTie
import Derived.Test.YtmjpdhledcfjaaaDoorCards
import Derived.WalkKit
import Derived.ProofKit
import Derived.OpenShut
import Derived.ShutString
import Derived.ChangeOld
import Derived.Below
import Derived.SizedLaws
import Derived.LaidMore
import Derived.Stop.Joined
import Derived.SevenTiedAt
import Derived.Test.YtmjpdhledcfjaaaDoorOpen
import Derived.OwnWalk
namespace Go.Proofs.YtmjpdhledcfjaaaDoor.numWide
open Go.Proofs.YtmjpdhledcfjaaaDoor Go.Proofs.YtmjpdhledcfjaaaDoor.R Go.Proofs.YtmjpdhledcfjaaaDoorW.PrintWords
open Go.ChangeShapes Go.WideShapes Go.ChangeAt Go.RowKit
open Go.ChangeMaps (open_string shut_string)
theorem own : ownKnob Tryd.prog.godebug = none := by kernel_rfl
theorem door_met (os : Os) (args : Array Value) : laidMetH Tryd.prog [("math/bits.deBruijn32tab", Rows.laid_math_bits_deBruijn32tab), ("math/bits.deBruijn64tab", Rows.laid_math_bits_deBruijn64tab), ("internal/strconv.uint64pow10", Rows.laid_internal_strconv_uint64pow10)] ((World.doorLaid Tryd.prog 72 os).forCall (fun _ _ => 0) ⟨#[], args, []⟩).memory :=
  laidMetH_of_parts3 (fuel := 8) (laidMet_of_run' 8 (by kernel_rfl) (by kernel_rfl)) (by kernel_rfl) (by kernel_rfl)
theorem laidOut : laidOutB Tryd.prog = true := by kernel_rfl
theorem list_len2 {α : Type} : ∀ {l : List α}, l.length = 2 → ∃ y0 y1, l = [y0, y1]
  | [y0, y1], _ => ⟨y0, y1, rfl⟩
theorem opens_st31 : Opens Tryd.prog k31 31 (fun x => (Lit.int .i64 x.f0).wf = true ∧ (Lit.int .u64 x.f1).wf = true) := by
  intro H enc w base spare held fuel cs x hx hw
  obtain ⟨ys, n, _, hxe, hlen, hyl, hf⟩ := DataW.trod_struct Tryd.underlying31 hx
  obtain rfl := hxe
  have hlen' : cs.length = 2 := hlen.trans (by kernel_rfl)
  have hyl' : ys.length = 2 := hyl
  obtain ⟨y0, y1, rfl⟩ := list_len2 hyl'
  · skip
    have e0 : DataW.trod enc Tryd.prog w base spare held n 2 ((cs.drop 0).take 1) = some y0 := by
      have e := hf 0 _ rfl
      have c : Tryd.prog.cellsOf 2 = 1 := by kernel_rfl
      exact (congrArg (fun z => DataW.trod enc Tryd.prog w base spare held n 2 ((cs.drop 0).take z)) c.symm).trans e
    have e1 : DataW.trod enc Tryd.prog w base spare held n 29 ((cs.drop 1).take 1) = some y1 := by
      have e := hf 1 _ rfl
      have c : Tryd.prog.cellsOf 29 = 1 := by kernel_rfl
      exact (congrArg (fun z => DataW.trod enc Tryd.prog w base spare held n 29 ((cs.drop 1).take z)) c.symm).trans e
    have hw' : ∀ q ∈ DataW.weightsEach Tryd.prog [2, 29] [y0.1, y1.1], q ≤ reachBytes := by
      intro q hq
      refine hw q ?_
      simp only [DataW.weights, Tryd.underlying31]
      exact hq
    obtain ⟨v0, a0, g0⟩ := (opens_int Tryd.underlying2) enc w base spare held n _ y0 e0 (fun q hq => hw' q (DataW.weights_mem_each (j := 0) rfl rfl q hq))
    obtain ⟨v1, a1, g1⟩ := (opens_int Tryd.underlying29) enc w base spare held n _ y1 e1 (fun q hq => hw' q (DataW.weights_mem_each (j := 1) rfl rfl q hq))
    refine ⟨(⟨v0, v1⟩ : S31), ?_, g0, g1⟩
    have b1 := last_suffix (off := 1) (s := 1) (by omega) a1
    have b0 := pair_suffix (off := 0) (s := 1) a0 b1
    exact b0
set_option maxRecDepth 100000 in
theorem lifted (os : Os) (started : os.Started) (H : Type) (enc : TypeId × Value → H) :
    ReturnsInHanded {} Tryd.checked os 8 .any (fun w args => (Rows.numWideSpec.pre enc Tryd.prog Tryd.f8 [] false w args ∧ laidMetH Tryd.prog [("math/bits.deBruijn32tab", Rows.laid_math_bits_deBruijn32tab), ("math/bits.deBruijn64tab", Rows.laid_math_bits_deBruijn64tab), ("internal/strconv.uint64pow10", Rows.laid_internal_strconv_uint64pow10)] w) ∧ sizedMet enc Tryd.prog Tryd.f8 (OpenSpec.ofChange Rows.numWideSpec) false w args) (Rows.numWideSpec.post enc Tryd.prog Tryd.f8 false true false false) := by
  refine wrap_laid (C := Tryd.checked) (X := fun w _ => laidMetH Tryd.prog [("math/bits.deBruijn32tab", Rows.laid_math_bits_deBruijn32tab), ("math/bits.deBruijn64tab", Rows.laid_math_bits_deBruijn64tab), ("internal/strconv.uint64pow10", Rows.laid_internal_strconv_uint64pow10)] w) (fun _ _ _ hh h => h.of_heap hh) own started (by kernel_rfl) Tryd.func8
    (ChangeSpec.witness_shaped (enc := enc) (C := Tryd.checked) (os := os) (X := fun w _ => laidMetH Tryd.prog [("math/bits.deBruijn32tab", Rows.laid_math_bits_deBruijn32tab), ("math/bits.deBruijn64tab", Rows.laid_math_bits_deBruijn64tab), ("internal/strconv.uint64pow10", Rows.laid_internal_strconv_uint64pow10)] w) false (World.doorLaid Tryd.prog 72 os) #[.int .i64 0, .int .i64 0, .slice none 0 0] 8 rfl (World.shaped_of_RefB (by kernel_rfl) (by kernel_rfl)) (by kernel_rfl) (by kernel_rfl) (by kernel_rfl) (door_met os _)) ?_
  intro W base args ds gs before hval0 hW hsz0 hL hSh
  have hsz : (DataW.weightsEach Tryd.prog (Tryd.f8.params.toList ++ Rows.numWideSpec.plain.varTypes Tryd.prog) (ds ++ gs)).all (· ≤ reachBytes) = true := hsz0
  have hval : ∀ (j : Nat) t v, Tryd.f8.params[j]? = some t → args[j]? = some v → Value.okWide Tryd.prog W .any base t v := hval0
  have hW' := hW
  obtain ⟨p, q, hA0, hV, rfl, hfz, hnd⟩ := hW
  have hA : DataW.TrodAll enc Tryd.prog W 0 (fun _ => true) true Tryd.f8.params.toList args.toList ds p := hA0
  rw [Tryd.params8] at hA hval hsz
  obtain ⟨v0, vs0, d0, ds0, p0, q0, hargs, rfl, rfl, h0, r0⟩ := trodAll_cons hA
  obtain ⟨v1, vs1, d1, ds1, p1, q1, rfl, rfl, rfl, h1, r1⟩ := trodAll_cons r0
  obtain ⟨v2, vs2, d2, ds2, p2, q2, rfl, rfl, rfl, h2, r2⟩ := trodAll_cons r1
  obtain ⟨rfl, rfl, rfl⟩ := trodAll_nil r2
  obtain rfl : args = #[v0, v1, v2] := by cases args; simp_all
  obtain ⟨rfl, rfl⟩ := trodVars_none hV
  obtain ⟨a0, rfl, rfl, rfl, w0⟩ := open_int Tryd.underlying2 (hval 0 2 v0 rfl rfl) h0
  obtain ⟨a1, rfl, rfl, rfl, w1⟩ := open_int Tryd.underlying2 (hval 1 2 v1 rfl rfl) h1
  obtain ⟨A2, n2, c2, rfl⟩ := okWide_slice Tryd.underlying46 (hval 2 46 v2 rfl rfl)
  have k2 := h2
  have lt2 : ∀ x ∈ p2, x.block < W.heap.size := by obtain ⟨m, hm⟩ := k2; exact DataW.trod_lt m _ _ _ hm
  obtain ⟨fuel2, hf2⟩ := h2
  obtain ⟨l2, K2, w2⟩ := (opens_slice Tryd.underlying46 (by kernel_rfl) (B := 16) (by kernel_rfl) opens_st31) enc W _ _ _ fuel2 _ _ hf2 (fun n hn => by have := List.all_eq_true.1 hsz n (DataW.weights_mem_each (j := 2) rfl rfl n hn); simpa using this)
  obtain ⟨A', c', e', hc2, hr2⟩ := K2
  obtain ⟨rfl, rfl, rfl⟩ : A' = A2 ∧ n2 = l2.length ∧ c' = c2 := by simpa [Value.cells, eq_comm] using e'
  obtain ⟨k, hk⟩ := Pure.NumWide a0 a1 l2 w0 w1 w2
  clear hA0 hval0 hsz0 hsz
  refine (R.colonnadelaw01_NumWide.calls (k := k) (a0 := a0) (a1 := a1) (l2 := l2) (hr2 := hr2) (hc2 := hc2) (r := true) (w := W) (h := hk) (hG := Gl.of_laid hL)).mono fun e W' ⟨he, bel⟩ => ?_
  subst he
  exact ⟨_, rfl, _, _, _, [], _, [], hW', trodAll_mk1 (shut_bool Tryd.underlying4 _), (trodAll_cons_mk (shut_int Tryd.underlying2 w0) (trodAll_cons_mk (shut_int Tryd.underlying2 w1) (trodAll_cons_mk (Below.trod laidOut (by kernel_rfl) (of_decide_eq_true (by kernel_rfl)) k2 bel lt2) trodAll_mk0))), rfl, bel.frame _, fun h => by cases h⟩
theorem over : Rows.numWideRow.holds Tryd.pinned (OpenSpec.ofChange Rows.numWideSpec) :=
  OpenClaim.holds_of_wide 8 Tryd.f8 rfl rfl rfl rfl rfl rfl rfl ⟨rfl, rfl, rfl, rfl, rfl⟩ rfl rfl rfl rfl rfl (by kernel_rfl) Tryd.func8 (by kernel_rfl)
    (of_decide_eq_true (by kernel_rfl)) (by unfold Func.isWrapper; first | (rw [if_pos (by decide +kernel)]; kernel_rfl) | (rw [if_neg (by decide +kernel)]; exact ⟨rfl, rfl⟩))
    (fun os started H enc _ => lifted os started H enc)
theorem carded : Rows.NumWideCardSaid :=
  Claim7.holds_tied_plain_at .later [] [.data, .data, .data] true (true, "e9ea2b38e15671a912d40dc7dc638d30b53c15bf98f1a53b321ebb41c4fa6598") true
    over (fun _ h => by cases h) (by kernel_rfl) (fun _ h => by cases h) numWide_row_tie rfl ⟨rfl, rfl⟩ (by kernel_rfl) rfl
    (fun f fn hf hfn => by
      obtain rfl : f = 8 := Option.some.inj ((show Tryd.prog.funcNamed "colonnade/colonnadelaw01.NumWide" = some 8 by kernel_rfl).symm.trans hf) |>.symm
      obtain rfl : fn = Tryd.f8 := (Option.some.inj (Tryd.func8.symm.trans hfn)).symm
      exact ⟨by kernel_rfl, fun j t ht => by
        rw [Tryd.params8] at ht
        have hm : t ∈ [2, 2, 46] := by simpa using Array.mem_of_getElem? ht
        have hall : ([2, 2, 46].all fun u => !Tryd.prog.wantsStandIn u) = true := by kernel_rfl
        exact (show Tryd.prog.wantsStandIn t = false by simpa using List.all_eq_true.1 hall t hm)⟩)
    (by kernel_rfl)
end Go.Proofs.YtmjpdhledcfjaaaDoor.numWide
namespace Go.Proofs.YtmjpdhledcfjaaaDoor
theorem numWide_holds : Rows.NumWideCardSaid := numWide.carded
#print axioms numWide_holds
end Go.Proofs.YtmjpdhledcfjaaaDoor
