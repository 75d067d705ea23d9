/- SchemaBytes: the statement of the given law, for every input: the law answers true, and what it was handed reads as before. Conditions: the row's own (what it lists of package-level variables, tied to the program's text by the card). -/
import Derived.Test.YtmeopdjdjmjngaaGreatDoorRows
import Derived.Test.YtmeopdjdjmjngaaGreatDoorI90
import Derived.Test.YtmeopdjdjmjngaaGreatDoorBytesLaw
import Derived.Test.YtmeopdjdjmjngaaGreatDoorPureSchemaBytes
import Derived.Test.YtmeopdjdjmjngaaGreatDoorWrap
import Derived.Test.YtmeopdjdjmjngaaGreatDoorGlLaid
import Derived.Test.YtmeopdjdjmjngaaGreatDoorTie
import Derived.Test.YtmeopdjdjmjngaaGreatDoorCards
import Derived.WalkKit
import Derived.ProofKit
import Derived.OpenShut
import Derived.ShutString
import Derived.ChangeOld
import Derived.Below
import Derived.SizedLaws
import Derived.LaidMore
import Derived.Stop.Joined
import Derived.SevenTiedAt
import Derived.Lay
import Derived.MakeChecks
import Derived.Test.YtmeopdjdjmjngaaGreatDoorOpen
import Derived.OwnWalk
namespace Go.Proofs.YtmeopdjdjmjngaaGreatDoor.schemaBytes
open Go.Proofs.YtmeopdjdjmjngaaGreatDoor Go.Proofs.YtmeopdjdjmjngaaGreatDoor.I Go.Proofs.YtmeopdjdjmjngaaGreatDoorW.PrintWords
open Go.ChangeShapes Go.WideShapes Go.ChangeAt Go.RowKit
open Go.ChangeMaps (open_string shut_string)
theorem own : ownKnob Tryz.prog.godebug = none := by kernel_rfl
theorem laidOut : laidOutB Tryz.prog = true := by kernel_rfl
theorem list_len2 {α : Type} : ∀ {l : List α}, l.length = 2 → ∃ y0 y1, l = [y0, y1]
  | [y0, y1], _ => ⟨y0, y1, rfl⟩
theorem opens_st34 : Opens 140737488351232 Tryz.prog k34 34 (fun x => (Lit.int .i64 x.f0).wf = true ∧ (Lit.int .i64 x.f1).wf = true) := by
  intro H enc w base spare held fuel cs x hx hw
  obtain ⟨ys, n, _, hxe, hlen, hyl, hf⟩ := DataW.trod_struct Tryz.underlying34 hx
  obtain rfl := hxe
  have hlen' : cs.length = 2 := hlen.trans (by kernel_rfl)
  have hyl' : ys.length = 2 := hyl
  obtain ⟨y0, y1, rfl⟩ := list_len2 hyl'
  · skip
    have e0 : DataW.trod enc Tryz.prog w base spare held n 3 ((cs.drop 0).take 1) = some y0 := by
      have e := hf 0 _ rfl
      have c : Tryz.prog.cellsOf 3 = 1 := by kernel_rfl
      exact (congrArg (fun z => DataW.trod enc Tryz.prog w base spare held n 3 ((cs.drop 0).take z)) c.symm).trans e
    have e1 : DataW.trod enc Tryz.prog w base spare held n 3 ((cs.drop 1).take 1) = some y1 := by
      have e := hf 1 _ rfl
      have c : Tryz.prog.cellsOf 3 = 1 := by kernel_rfl
      exact (congrArg (fun z => DataW.trod enc Tryz.prog w base spare held n 3 ((cs.drop 1).take z)) c.symm).trans e
    have hw' : ∀ q ∈ DataW.weightsEach Tryz.prog [3, 3] [y0.1, y1.1], q ≤ 140737488351232 := by
      intro q hq
      refine hw q ?_
      simp only [DataW.weights, Tryz.underlying34]
      exact hq
    obtain ⟨v0, a0, g0⟩ := (opens_int Tryz.underlying3) enc w base spare held n _ y0 e0 (fun q hq => hw' q (DataW.weights_mem_each (j := 0) rfl rfl q hq))
    obtain ⟨v1, a1, g1⟩ := (opens_int Tryz.underlying3) enc w base spare held n _ y1 e1 (fun q hq => hw' q (DataW.weights_mem_each (j := 1) rfl rfl q hq))
    refine ⟨(⟨v0, v1⟩ : S34), ?_, g0, g1⟩
    have b1 := last_suffix (off := 1) (s := 1) (by omega) a1
    have b0 := pair_suffix (off := 0) (s := 1) a0 b1
    exact b0
theorem list_len3 {α : Type} : ∀ {l : List α}, l.length = 3 → ∃ y0 y1 y2, l = [y0, y1, y2]
  | [y0, y1, y2], _ => ⟨y0, y1, y2, rfl⟩
theorem opens_st36 : Opens 140737488351232 Tryz.prog k36 36 (fun x => x.f0.size ≤ 140737488351232 ∧ ((Lit.int .i64 x.f1.f0).wf = true ∧ (Lit.int .i64 x.f1.f1).wf = true) ∧ True) := by
  intro H enc w base spare held fuel cs x hx hw
  obtain ⟨ys, n, _, hxe, hlen, hyl, hf⟩ := DataW.trod_struct Tryz.underlying36 hx
  obtain rfl := hxe
  have hlen' : cs.length = 4 := hlen.trans (by kernel_rfl)
  have hyl' : ys.length = 3 := hyl
  obtain ⟨y0, y1, y2, rfl⟩ := list_len3 hyl'
  · skip
    have e0 : DataW.trod enc Tryz.prog w base spare held n 9 ((cs.drop 0).take 1) = some y0 := by
      have e := hf 0 _ rfl
      have c : Tryz.prog.cellsOf 9 = 1 := by kernel_rfl
      exact (congrArg (fun z => DataW.trod enc Tryz.prog w base spare held n 9 ((cs.drop 0).take z)) c.symm).trans e
    have e1 : DataW.trod enc Tryz.prog w base spare held n 34 ((cs.drop 1).take 2) = some y1 := by
      have e := hf 1 _ rfl
      have c : Tryz.prog.cellsOf 34 = 2 := by kernel_rfl
      exact (congrArg (fun z => DataW.trod enc Tryz.prog w base spare held n 34 ((cs.drop 1).take z)) c.symm).trans e
    have e2 : DataW.trod enc Tryz.prog w base spare held n 4 ((cs.drop 3).take 1) = some y2 := by
      have e := hf 2 _ rfl
      have c : Tryz.prog.cellsOf 4 = 1 := by kernel_rfl
      exact (congrArg (fun z => DataW.trod enc Tryz.prog w base spare held n 4 ((cs.drop 3).take z)) c.symm).trans e
    have hw' : ∀ q ∈ DataW.weightsEach Tryz.prog [9, 34, 4] [y0.1, y1.1, y2.1], q ≤ 140737488351232 := by
      intro q hq
      refine hw q ?_
      simp only [DataW.weights, Tryz.underlying36]
      exact hq
    obtain ⟨v0, a0, g0⟩ := (opens_string Tryz.underlying9) enc w base spare held n _ y0 e0 (fun q hq => hw' q (DataW.weights_mem_each (j := 0) rfl rfl q hq))
    obtain ⟨v1, a1, g1⟩ := opens_st34 enc w base spare held n _ y1 e1 (fun q hq => hw' q (DataW.weights_mem_each (j := 1) rfl rfl q hq))
    obtain ⟨v2, a2, g2⟩ := (opens_bool Tryz.underlying4) enc w base spare held n _ y2 e2 (fun q hq => hw' q (DataW.weights_mem_each (j := 2) rfl rfl q hq))
    refine ⟨(⟨v0, v1, v2⟩ : S36), ?_, g0, g1, g2⟩
    have b2 := last_suffix (off := 3) (s := 1) (by omega) a2
    have b1 := pair_suffix (off := 1) (s := 2) a1 b2
    have b0 := pair_suffix (off := 0) (s := 1) a0 b1
    exact b0
theorem opens_st24 : Opens 140737488351232 Tryz.prog k24 24 (fun x => x.f0.size ≤ 140737488351232 ∧ (x.f1.length * 40 ≤ 140737488351232 ∧ ∀ y ∈ x.f1, (y.f0.size ≤ 140737488351232 ∧ ((Lit.int .i64 y.f1.f0).wf = true ∧ (Lit.int .i64 y.f1.f1).wf = true) ∧ True))) := by
  intro H enc w base spare held fuel cs x hx hw
  obtain ⟨ys, n, _, hxe, hlen, hyl, hf⟩ := DataW.trod_struct Tryz.underlying24 hx
  obtain rfl := hxe
  have hlen' : cs.length = 2 := hlen.trans (by kernel_rfl)
  have hyl' : ys.length = 2 := hyl
  obtain ⟨y0, y1, rfl⟩ := list_len2 hyl'
  · skip
    have e0 : DataW.trod enc Tryz.prog w base spare held n 9 ((cs.drop 0).take 1) = some y0 := by
      have e := hf 0 _ rfl
      have c : Tryz.prog.cellsOf 9 = 1 := by kernel_rfl
      exact (congrArg (fun z => DataW.trod enc Tryz.prog w base spare held n 9 ((cs.drop 0).take z)) c.symm).trans e
    have e1 : DataW.trod enc Tryz.prog w base spare held n 22 ((cs.drop 1).take 1) = some y1 := by
      have e := hf 1 _ rfl
      have c : Tryz.prog.cellsOf 22 = 1 := by kernel_rfl
      exact (congrArg (fun z => DataW.trod enc Tryz.prog w base spare held n 22 ((cs.drop 1).take z)) c.symm).trans e
    have hw' : ∀ q ∈ DataW.weightsEach Tryz.prog [9, 22] [y0.1, y1.1], q ≤ 140737488351232 := by
      intro q hq
      refine hw q ?_
      simp only [DataW.weights, Tryz.underlying24]
      exact hq
    obtain ⟨v0, a0, g0⟩ := (opens_string Tryz.underlying9) enc w base spare held n _ y0 e0 (fun q hq => hw' q (DataW.weights_mem_each (j := 0) rfl rfl q hq))
    obtain ⟨v1, a1, g1⟩ := (opens_slice Tryz.underlying22 (by kernel_rfl) (B := 40) (by kernel_rfl) opens_st36) enc w base spare held n _ y1 e1 (fun q hq => hw' q (DataW.weights_mem_each (j := 1) rfl rfl q hq))
    refine ⟨(⟨v0, v1⟩ : S24), ?_, g0, g1⟩
    have b1 := last_suffix (off := 1) (s := 1) (by omega) a1
    have b0 := pair_suffix (off := 0) (s := 1) a0 b1
    exact b0
set_option maxRecDepth 100000 in
theorem lifted (os : Os) (started : os.Started) (H : Type) (enc : TypeId × Value → H) :
    ReturnsInHanded {} Tryz.checked os 8 .any (fun w args => (Rows.schemaBytesSpec.pre enc Tryz.prog Tryz.f8 [] false w args ∧ laidMetH Tryz.prog [("math/bits.deBruijn32tab", Rows.laid_math_bits_deBruijn32tab), ("math/bits.deBruijn64tab", Rows.laid_math_bits_deBruijn64tab), ("internal/strconv.uint64pow10", Rows.laid_internal_strconv_uint64pow10), ("unicode/utf8.acceptRanges", Rows.laid_unicode_utf8_acceptRanges), ("strconv.ErrRange", Rows.laid_strconv_ErrRange), ("strconv.ErrSyntax", Rows.laid_strconv_ErrSyntax), ("unicode/utf8.first", Rows.laid_unicode_utf8_first)] w) ∧ sizedMet enc Tryz.prog Tryz.f8 (OpenSpec.ofChange Rows.schemaBytesSpec) false w args) (Rows.schemaBytesSpec.post enc Tryz.prog Tryz.f8 false true false false) := by
  refine wrap_laid (C := Tryz.checked) (X := fun w _ => laidMetH Tryz.prog [("math/bits.deBruijn32tab", Rows.laid_math_bits_deBruijn32tab), ("math/bits.deBruijn64tab", Rows.laid_math_bits_deBruijn64tab), ("internal/strconv.uint64pow10", Rows.laid_internal_strconv_uint64pow10), ("unicode/utf8.acceptRanges", Rows.laid_unicode_utf8_acceptRanges), ("strconv.ErrRange", Rows.laid_strconv_ErrRange), ("strconv.ErrSyntax", Rows.laid_strconv_ErrSyntax), ("unicode/utf8.first", Rows.laid_unicode_utf8_first)] w) (fun _ _ _ hh h => h.of_heap hh) own started (by kernel_rfl) Tryz.func8
    (ChangeSpec.witness_shaped (enc := enc) (C := Tryz.checked) (os := os) (X := fun w _ => laidMetH Tryz.prog [("math/bits.deBruijn32tab", Rows.laid_math_bits_deBruijn32tab), ("math/bits.deBruijn64tab", Rows.laid_math_bits_deBruijn64tab), ("internal/strconv.uint64pow10", Rows.laid_internal_strconv_uint64pow10), ("unicode/utf8.acceptRanges", Rows.laid_unicode_utf8_acceptRanges), ("strconv.ErrRange", Rows.laid_strconv_ErrRange), ("strconv.ErrSyntax", Rows.laid_strconv_ErrSyntax), ("unicode/utf8.first", Rows.laid_unicode_utf8_first)] w) false (World.laidAll Tryz.prog os [("math/bits.deBruijn32tab", Rows.laid_math_bits_deBruijn32tab), ("math/bits.deBruijn64tab", Rows.laid_math_bits_deBruijn64tab), ("internal/strconv.uint64pow10", Rows.laid_internal_strconv_uint64pow10), ("unicode/utf8.acceptRanges", Rows.laid_unicode_utf8_acceptRanges), ("strconv.ErrRange", Rows.laid_strconv_ErrRange), ("strconv.ErrSyntax", Rows.laid_strconv_ErrSyntax), ("unicode/utf8.first", Rows.laid_unicode_utf8_first)]) #[.agg #[.string ByteArray.empty, .slice none 0 0], .slice none 0 0] 8 (World.laidAll_os _ _ _)
      (World.shaped_of_ZipB (by kernel_rfl) (by kernel_rfl)) (by kernel_rfl) (by kernel_rfl) (by kernel_rfl)
      (by rw [MakeChecks.laidMetH_plain _ _ _ (by kernel_rfl)]; exact laidMet_laidAll _ (by kernel_rfl) (by kernel_rfl))) ?_
  intro W base args ds gs before hval0 hW hsz0 hL hSh
  have hsz : (DataW.weightsEach Tryz.prog (Tryz.f8.params.toList ++ Rows.schemaBytesSpec.plain.varTypes Tryz.prog) (ds ++ gs)).all (· ≤ reachBytes) = true := hsz0
  have hval : ∀ (j : Nat) t v, Tryz.f8.params[j]? = some t → args[j]? = some v → Value.okWide Tryz.prog W .any base t v := hval0
  have hW' := hW
  obtain ⟨p, q, hA0, hV, rfl, hfz, hnd⟩ := hW
  have hA : DataW.TrodAll enc Tryz.prog W 0 (fun _ => true) true Tryz.f8.params.toList args.toList ds p := hA0
  rw [Tryz.params8] at hA hval hsz
  obtain ⟨v0, vs0, d0, ds0, p0, q0, hargs, rfl, rfl, h0, r0⟩ := trodAll_cons hA
  obtain ⟨v1, vs1, d1, ds1, p1, q1, rfl, rfl, rfl, h1, r1⟩ := trodAll_cons r0
  obtain ⟨rfl, rfl, rfl⟩ := trodAll_nil r1
  obtain rfl : args = #[v0, v1] := by cases args; simp_all
  obtain ⟨rfl, rfl⟩ := trodVars_none hV
  obtain ⟨C0, rfl, hz0⟩ := okWide_struct Tryz.underlying24 (hval 0 24 v0 rfl rfl)
  have k0 := h0
  have lt0 : ∀ x ∈ p0, x.block < W.heap.size := by obtain ⟨m, hm⟩ := k0; exact DataW.trod_lt m _ _ _ hm
  obtain ⟨fuel0, hf0⟩ := h0
  obtain ⟨s0, K0, w0⟩ := opens_st24 enc W _ _ _ fuel0 _ _ hf0 (fun n hn => by have := List.all_eq_true.1 hsz n (DataW.weights_mem_each (j := 0) rfl rfl n hn); have h' : n ≤ reachBytes := of_decide_eq_true this; exact h')
  obtain ⟨_, _, e0, rfl, ⟨A0_1, c0_1, rfl, hc0_1, hr0_1⟩⟩ := K0
  obtain rfl : C0 = #[.string s0.f0, .slice A0_1 s0.f1.length c0_1] := Array.ext' (by simpa [Value.cells] using e0)
  obtain ⟨A1, n1, c1, rfl⟩ := okWide_slice Tryz.underlying62 (hval 1 62 v1 rfl rfl)
  have k1 := h1
  have lt1 : ∀ x ∈ p1, x.block < W.heap.size := by obtain ⟨m, hm⟩ := k1; exact DataW.trod_lt m _ _ _ hm
  obtain ⟨fuel1, hf1⟩ := h1
  obtain ⟨l1, K1, w1⟩ := (opens_slice Tryz.underlying62 (by kernel_rfl) (B := 1) (by kernel_rfl) (opens_int Tryz.underlying5)) enc W _ _ _ fuel1 _ _ hf1 (fun n hn => by have := List.all_eq_true.1 hsz n (DataW.weights_mem_each (j := 1) rfl rfl n hn); have h' : n ≤ reachBytes := of_decide_eq_true this; exact h')
  obtain ⟨A', c', e', hc1, hr1⟩ := K1
  obtain ⟨rfl, rfl, rfl⟩ : A' = A1 ∧ n1 = l1.length ∧ c' = c1 := by simpa [Value.cells, eq_comm] using e'
  obtain ⟨k, hk⟩ := Pure.SchemaBytes s0 l1 w0 w1
  clear hA0 hval0 hsz0 hsz
  refine (Go.Proofs.YtmeopdjdjmjngaaGreatDoor.I.colonnadelaw11_SchemaBytes.calls (k := k) (a0_0 := s0.f0) (A0_1 := A0_1) (c0_1 := c0_1) (l0_1 := s0.f1) (hr0_1 := hr0_1) (hc0_1 := hc0_1) (l1 := l1) (hr1 := hr1) (hc1 := hc1) (r := true) (w := W) (h := hk) (hG := Gl.of_laid hL hSh)).mono fun e W' ⟨he, bel⟩ => ?_
  subst he
  exact ⟨_, rfl, _, _, _, [], _, [], hW', trodAll_mk1 (shut_bool Tryz.underlying4 _), (trodAll_cons_mk (Below.trod laidOut (by kernel_rfl) (of_decide_eq_true (by kernel_rfl)) k0 bel lt0) (trodAll_cons_mk (Below.trod laidOut (by kernel_rfl) (of_decide_eq_true (by kernel_rfl)) k1 bel lt1) trodAll_mk0)), rfl, bel.frame _, fun h => by cases h⟩
theorem over : Rows.schemaBytesRow.holds Tryz.pinned (OpenSpec.ofChange Rows.schemaBytesSpec) :=
  OpenClaim.holds_of_wide 8 Tryz.f8 rfl rfl rfl rfl rfl rfl rfl ⟨rfl, rfl, rfl, rfl, rfl⟩ rfl rfl rfl rfl rfl (by kernel_rfl) Tryz.func8 (by kernel_rfl)
    (of_decide_eq_true (by kernel_rfl)) (by unfold Func.isWrapper; first | (rw [if_pos (by decide +kernel)]; kernel_rfl) | (rw [if_neg (by decide +kernel)]; exact ⟨rfl, rfl⟩))
    (fun os started H enc _ => lifted os started H enc)
theorem carded : Rows.SchemaBytesCardSaid :=
  Claim7.holds_tied_plain_at .later [] [.data, .data, .data, .data, .sentinel, .sentinel, .pinned] true (true, "340a73ac2e68413d26eb5b751f191218596df36345d0788e08aeb7d0db841f5c") true
    over (fun _ h => by cases h) (by kernel_rfl) (fun _ h => by cases h) schemaBytes_row_tie rfl ⟨rfl, rfl⟩ (by kernel_rfl) rfl
    (fun f fn hf hfn => by
      obtain rfl : f = 8 := Option.some.inj ((show Tryz.prog.funcNamed "colonnade/colonnadelaw11.SchemaBytes" = some 8 by kernel_rfl).symm.trans hf) |>.symm
      obtain rfl : fn = Tryz.f8 := (Option.some.inj (Tryz.func8.symm.trans hfn)).symm
      exact ⟨by kernel_rfl, fun j t ht => by
        rw [Tryz.params8] at ht
        have hm : t ∈ [24, 62] := by simpa using Array.mem_of_getElem? ht
        have hall : ([24, 62].all fun u => !Tryz.prog.wantsStandIn u) = true := by kernel_rfl
        exact (show Tryz.prog.wantsStandIn t = false by simpa using List.all_eq_true.1 hall t hm)⟩)
    (by kernel_rfl)
end Go.Proofs.YtmeopdjdjmjngaaGreatDoor.schemaBytes
namespace Go.Proofs.YtmeopdjdjmjngaaGreatDoor
theorem schemaBytes_holds : Rows.SchemaBytesCardSaid := schemaBytes.carded
#print axioms schemaBytes_holds
end Go.Proofs.YtmeopdjdjmjngaaGreatDoor
