/- ValueOrdered: the law's walk: true, where the order and the comparisons are as the law says. Conditions: those of the theorem. -/
import Derived.Test.YtjpgjggbanpegaaDoorAux
import Derived.WalkKit
import Derived.Deep.RegionHeld3
import Derived.Deep.DeepCutAuto
import Derived.Test.YtjpgjggbanpegaaDoorR14
import Derived.Test.YtjpgjggbanpegaaDoorR3
import Derived.Test.YtjpgjggbanpegaaDoorR7
import Derived.Test.YtjpgjggbanpegaaDoorR8
namespace Go.Proofs.YtjpgjggbanpegaaDoor.R
open Go.RowKit Go.Proofs.YtjpgjggbanpegaaDoorW.PrintWords Go.Proofs.YtjpgjggbanpegaaDoorW.PrintLast Go.Proofs.YtjpgjggbanpegaaDoorW.PrintMore
/-- what the law wants of one comparison -/
def ordLaw.op (k : Nat) (op : Int) (a0_0 : Int) (a0_1 : Int) (a0_2 : Bool) (a0_3 : Int) (a0_4 : ByteArray) (a1_0 : Int) (a1_1 : Int) (a1_2 : Bool) (a1_3 : Int) (a1_4 : ByteArray) (x : Int) : Bool := match value_Test.f k op a0_0 a0_1 a0_2 a0_3 a0_4 a1_0 a1_1 a1_2 a1_3 a1_4 with
  | some (t, e) => if e = 0 then decide (t = if a0_2 = true ∨ a1_2 = true then 2 else if value_Test.tr op x = true then 1 else 0) else decide (value_Alike.f a0_0 a0_1 a1_0 a1_1 = some false)
  | none => false
def ordLaw.f (k : Nat) (a0_0 : Int) (a0_1 : Int) (a0_2 : Bool) (a0_3 : Int) (a0_4 : ByteArray) (a1_0 : Int) (a1_1 : Int) (a1_2 : Bool) (a1_3 : Int) (a1_4 : ByteArray) (a2_0 : Int) (a2_1 : Int) (a2_2 : Bool) (a2_3 : Int) (a2_4 : ByteArray) : Option Bool := (value_Order.f k a0_0 a0_1 a0_2 a0_3 a0_4 a1_0 a1_1 a1_2 a1_3 a1_4).bind fun x => (value_Order.f k a1_0 a1_1 a1_2 a1_3 a1_4 a2_0 a2_1 a2_2 a2_3 a2_4).bind fun y => (value_Order.f k a0_0 a0_1 a0_2 a0_3 a0_4 a2_0 a2_1 a2_2 a2_3 a2_4).bind fun z =>
  if colonnadelaw02_begun.f k = some true ∧ value_Order.f k a1_0 a1_1 a1_2 a1_3 a1_4 a0_0 a0_1 a0_2 a0_3 a0_4 = some (-x) ∧ value_Order.f k a0_0 a0_1 a0_2 a0_3 a0_4 a0_0 a0_1 a0_2 a0_3 a0_4 = some 0 ∧ (-1 ≤ x ∧ x ≤ 1) ∧ ¬ (x ≤ 0 ∧ y ≤ 0 ∧ z > 0) ∧ ¬ (x ≥ 0 ∧ y ≥ 0 ∧ z < 0) ∧ ¬ (x = 0 ∧ y = 0 ∧ z ≠ 0) ∧
    ordLaw.op k 1 a0_0 a0_1 a0_2 a0_3 a0_4 a1_0 a1_1 a1_2 a1_3 a1_4 x = true ∧ ordLaw.op k 2 a0_0 a0_1 a0_2 a0_3 a0_4 a1_0 a1_1 a1_2 a1_3 a1_4 x = true ∧ ordLaw.op k 3 a0_0 a0_1 a0_2 a0_3 a0_4 a1_0 a1_1 a1_2 a1_3 a1_4 x = true ∧ ordLaw.op k 4 a0_0 a0_1 a0_2 a0_3 a0_4 a1_0 a1_1 a1_2 a1_3 a1_4 x = true ∧ ordLaw.op k 5 a0_0 a0_1 a0_2 a0_3 a0_4 a1_0 a1_1 a1_2 a1_3 a1_4 x = true ∧ ordLaw.op k 6 a0_0 a0_1 a0_2 a0_3 a0_4 a1_0 a1_1 a1_2 a1_3 a1_4 x = true then some true else none
/-- the three values lie where they were boxed -/
structure ordLaw.Bx (w : World) (a0_0 : Int) (a0_1 : Int) (a0_2 : Bool) (a0_3 : Int) (a0_4 : ByteArray) (a1_0 : Int) (a1_1 : Int) (a1_2 : Bool) (a1_3 : Int) (a1_4 : ByteArray) (a2_0 : Int) (a2_1 : Int) (a2_2 : Bool) (a2_3 : Int) (a2_4 : ByteArray) (W : World) : Prop where
  below : Below w.heap.size w W
  b0 : W.heap[w.heap.size]? = some (.cells #[.int .i64 a0_0, .int .i64 a0_1, .bool a0_2, .int .i64 a0_3, .string a0_4] 25 (0, 0))
  b1 : W.heap[w.heap.size + 1]? = some (.cells #[.int .i64 a1_0, .int .i64 a1_1, .bool a1_2, .int .i64 a1_3, .string a1_4] 25 (0, 0))
  b2 : W.heap[w.heap.size + 1 + 1]? = some (.cells #[.int .i64 a2_0, .int .i64 a2_1, .bool a2_2, .int .i64 a2_3, .string a2_4] 25 (0, 0))
theorem ordLaw.Bx.of_below {w : World} {a0_0 : Int} {a0_1 : Int} {a0_2 : Bool} {a0_3 : Int} {a0_4 : ByteArray} {a1_0 : Int} {a1_1 : Int} {a1_2 : Bool} {a1_3 : Int} {a1_4 : ByteArray} {a2_0 : Int} {a2_1 : Int} {a2_2 : Bool} {a2_3 : Int} {a2_4 : ByteArray} {W W' : World} (h : ordLaw.Bx w a0_0 a0_1 a0_2 a0_3 a0_4 a1_0 a1_1 a1_2 a1_3 a1_4 a2_0 a2_1 a2_2 a2_3 a2_4 W) (hb : Below W.heap.size W W') : ordLaw.Bx w a0_0 a0_1 a0_2 a0_3 a0_4 a1_0 a1_1 a1_2 a1_3 a1_4 a2_0 a2_1 a2_2 a2_3 a2_4 W' :=
  ⟨h.below.trans (hb.mono h.below.size), (hb.block _ (Array.getElem?_eq_some_iff.1 h.b0).1).trans h.b0, (hb.block _ (Array.getElem?_eq_some_iff.1 h.b1).1).trans h.b1, (hb.block _ (Array.getElem?_eq_some_iff.1 h.b2).1).trans h.b2⟩
theorem ordLaw.alloc_new (w : World) (o : Obj) : (w.alloc o).heap[w.heap.size]? = some o := by first | exact heap_alloc_new w o | exact Lib.heap_alloc_new w o
theorem ordLaw.alloc_old (w : World) (o : Obj) (i : Nat) (h : i < w.heap.size) : (w.alloc o).heap[i]? = w.heap[i]? := Below.heap_alloc w o i h
theorem ordLaw.Bx.start (w : World) (a0_0 : Int) (a0_1 : Int) (a0_2 : Bool) (a0_3 : Int) (a0_4 : ByteArray) (a1_0 : Int) (a1_1 : Int) (a1_2 : Bool) (a1_3 : Int) (a1_4 : ByteArray) (a2_0 : Int) (a2_1 : Int) (a2_2 : Bool) (a2_3 : Int) (a2_4 : ByteArray) : ordLaw.Bx w a0_0 a0_1 a0_2 a0_3 a0_4 a1_0 a1_1 a1_2 a1_3 a1_4 a2_0 a2_1 a2_2 a2_3 a2_4 (((w.alloc (.cells #[.int .i64 a0_0, .int .i64 a0_1, .bool a0_2, .int .i64 a0_3, .string a0_4] 25)).alloc (.cells #[.int .i64 a1_0, .int .i64 a1_1, .bool a1_2, .int .i64 a1_3, .string a1_4] 25)).alloc (.cells #[.int .i64 a2_0, .int .i64 a2_1, .bool a2_2, .int .i64 a2_3, .string a2_4] 25)) := by
  have s1 : (w.alloc (.cells #[.int .i64 a0_0, .int .i64 a0_1, .bool a0_2, .int .i64 a0_3, .string a0_4] 25)).heap.size = w.heap.size + 1 := by simp
  have s2 : ((w.alloc (.cells #[.int .i64 a0_0, .int .i64 a0_1, .bool a0_2, .int .i64 a0_3, .string a0_4] 25)).alloc (.cells #[.int .i64 a1_0, .int .i64 a1_1, .bool a1_2, .int .i64 a1_3, .string a1_4] 25)).heap.size = w.heap.size + 1 + 1 := by simp
  refine ⟨(((Below.refl _ w).alloc (Nat.le_refl _) _).alloc (by simp) _).alloc (by simp; omega) _, ?_, ?_, ?_⟩
  · rw [ordLaw.alloc_old _ _ _ (by omega), ordLaw.alloc_old _ _ _ (by omega), ordLaw.alloc_new]
  · rw [ordLaw.alloc_old _ _ _ (by omega), ← s1, ordLaw.alloc_new]
  · rw [← s2, ordLaw.alloc_new]
theorem ordLaw.Bx.cells {w : World} {a0_0 : Int} {a0_1 : Int} {a0_2 : Bool} {a0_3 : Int} {a0_4 : ByteArray} {a1_0 : Int} {a1_1 : Int} {a1_2 : Bool} {a1_3 : Int} {a1_4 : ByteArray} {a2_0 : Int} {a2_1 : Int} {a2_2 : Bool} {a2_3 : Int} {a2_4 : ByteArray} {W : World} (h : ordLaw.Bx w a0_0 a0_1 a0_2 a0_3 a0_4 a1_0 a1_1 a1_2 a1_3 a1_4 a2_0 a2_1 a2_2 a2_3 a2_4 W) : W.cell? ⟨w.heap.size, 0, none⟩ = some (.int .i64 a0_0) ∧ W.cell? ⟨w.heap.size, 1, none⟩ = some (.int .i64 a0_1) ∧ W.cell? ⟨w.heap.size, 2, none⟩ = some (.bool a0_2) ∧ W.cell? ⟨w.heap.size, 3, none⟩ = some (.int .i64 a0_3) ∧ W.cell? ⟨w.heap.size, 4, none⟩ = some (.string a0_4) ∧ W.cell? ⟨w.heap.size + 1, 0, none⟩ = some (.int .i64 a1_0) ∧ W.cell? ⟨w.heap.size + 1, 1, none⟩ = some (.int .i64 a1_1) ∧ W.cell? ⟨w.heap.size + 1, 2, none⟩ = some (.bool a1_2) ∧ W.cell? ⟨w.heap.size + 1, 3, none⟩ = some (.int .i64 a1_3) ∧ W.cell? ⟨w.heap.size + 1, 4, none⟩ = some (.string a1_4) ∧ W.cell? ⟨w.heap.size + 1 + 1, 0, none⟩ = some (.int .i64 a2_0) ∧ W.cell? ⟨w.heap.size + 1 + 1, 1, none⟩ = some (.int .i64 a2_1) ∧ W.cell? ⟨w.heap.size + 1 + 1, 2, none⟩ = some (.bool a2_2) ∧ W.cell? ⟨w.heap.size + 1 + 1, 3, none⟩ = some (.int .i64 a2_3) ∧ W.cell? ⟨w.heap.size + 1 + 1, 4, none⟩ = some (.string a2_4) := by
  have h0 := h.b0
  have h1 := h.b1
  have h2 := h.b2
  refine ⟨?_, ?_, ?_, ?_, ?_, ?_, ?_, ?_, ?_, ?_, ?_, ?_, ?_, ?_, ?_⟩ <;> simp [World.cell?, h0, h1, h2]
set_option maxHeartbeats 32000000 in
set_option maxRecDepth 100000 in
theorem ordLaw.calls (k : Nat) (a0_0 : Int) (a0_1 : Int) (a0_2 : Bool) (a0_3 : Int) (a0_4 : ByteArray) (a1_0 : Int) (a1_1 : Int) (a1_2 : Bool) (a1_3 : Int) (a1_4 : ByteArray) (a2_0 : Int) (a2_1 : Int) (a2_2 : Bool) (a2_3 : Int) (a2_4 : ByteArray) (r : Bool) (w : World) (h : ordLaw.f k a0_0 a0_1 a0_2 a0_3 a0_4 a1_0 a1_1 a1_2 a1_3 a1_4 a2_0 a2_1 a2_2 a2_3 a2_4 = some r) (hG : Gl w) :
    Calls Tryd.prog 3 #[.agg #[.int .i64 a0_0, .int .i64 a0_1, .bool a0_2, .int .i64 a0_3, .string a0_4], .agg #[.int .i64 a1_0, .int .i64 a1_1, .bool a1_2, .int .i64 a1_3, .string a1_4], .agg #[.int .i64 a2_0, .int .i64 a2_1, .bool a2_2, .int .i64 a2_3, .string a2_4]] w fun e w' => e = .returned (.bool r) ∧ Below w.heap.size w w' := by
  unfold ordLaw.f at h
  obtain ⟨x, hx, h⟩ := Option.bind_eq_some_iff.mp h
  obtain ⟨y, hy, h⟩ := Option.bind_eq_some_iff.mp h
  obtain ⟨z, hz, h⟩ := Option.bind_eq_some_iff.mp h
  split at h
  case isFalse => cases h
  rename_i hall
  obtain ⟨hbeg, hba, haa, ⟨x0, x1⟩, hc1, hc2, hc3, o1, o2, o3, o4, o5, o6⟩ := hall
  obtain rfl := Option.some.inj h
  clear h
  have AB := Aside0.mk hx
  have BC := Aside0.mk hy
  have AC := Aside0.mk hz
  have BG := Aside0.mk hbeg
  have BA := Aside0.mk hba
  have AA := Aside0.mk haa
  have C1 := Aside0.mk hc1
  have C2 := Aside0.mk hc2
  have C3 := Aside0.mk hc3
  have O1 := Aside0.mk o1
  have O2 := Aside0.mk o2
  have O3 := Aside0.mk o3
  have O4 := Aside0.mk o4
  have O5 := Aside0.mk o5
  have O6 := Aside0.mk o6
  have HG := Aside0.mk hG
  clear hx hy hz hbeg hba haa hc1 hc2 hc3 o1 o2 o3 o4 o5 o6 hG
  have HX := Aside0.mk (ordLaw.Bx.start w a0_0 a0_1 a0_2 a0_3 a0_4 a1_0 a1_1 a1_2 a1_3 a1_4 a2_0 a2_1 a2_2 a2_3 a2_4)
  have hu25 := Tryd.underlying25
  go_enter Tryd.func3, Tryd.ntmps3
  go_upto_region 1 with fail
  go_cut [7, 8, 9] (fun s7 s8 s9 wx => s7 = .int .i64 x ∧ s8 = .int .i64 y ∧ s9 = .int .i64 z ∧ Aside0 (ordLaw.Bx w a0_0 a0_1 a0_2 a0_3 a0_4 a1_0 a1_1 a1_2 a1_3 a1_4 a2_0 a2_1 a2_2 a2_3 a2_4 wx))
  case first =>
    have hx_ := HX.out
    have hS_ := ordLaw.Bx.cells hx_
    go_region_held3 (fun w' => w'.cell? ⟨w.heap.size, 0, none⟩ = some (.int .i64 a0_0) ∧ w'.cell? ⟨w.heap.size, 1, none⟩ = some (.int .i64 a0_1) ∧ w'.cell? ⟨w.heap.size, 2, none⟩ = some (.bool a0_2) ∧ w'.cell? ⟨w.heap.size, 3, none⟩ = some (.int .i64 a0_3) ∧ w'.cell? ⟨w.heap.size, 4, none⟩ = some (.string a0_4) ∧ w'.cell? ⟨w.heap.size + 1, 0, none⟩ = some (.int .i64 a1_0) ∧ w'.cell? ⟨w.heap.size + 1, 1, none⟩ = some (.int .i64 a1_1) ∧ w'.cell? ⟨w.heap.size + 1, 2, none⟩ = some (.bool a1_2) ∧ w'.cell? ⟨w.heap.size + 1, 3, none⟩ = some (.int .i64 a1_3) ∧ w'.cell? ⟨w.heap.size + 1, 4, none⟩ = some (.string a1_4) ∧ w'.cell? ⟨w.heap.size + 1 + 1, 0, none⟩ = some (.int .i64 a2_0) ∧ w'.cell? ⟨w.heap.size + 1 + 1, 1, none⟩ = some (.int .i64 a2_1) ∧ w'.cell? ⟨w.heap.size + 1 + 1, 2, none⟩ = some (.bool a2_2) ∧ w'.cell? ⟨w.heap.size + 1 + 1, 3, none⟩ = some (.int .i64 a2_3) ∧ w'.cell? ⟨w.heap.size + 1 + 1, 4, none⟩ = some (.string a2_4)) (first | exact hS_ | exact ordLaw.Bx.cells hx_) (first | (go_at_call 8; (with_reducible refine (value_Order.calls k a0_0 a0_1 a0_2 a0_3 a0_4 a1_0 a1_1 a1_2 a1_3 a1_4 x _ AB.out).mono ?_); rintro e w9 ⟨rfl, hb⟩; have hx_ := ordLaw.Bx.of_below (ordLaw.Bx.of_below hx_ (by repeat (first | exact Below.refl _ _ | apply pw_below_drewN | apply below_drew1))) hb; have hS_ := ordLaw.Bx.cells hx_) | (go_at_call 8; (with_reducible refine (value_Order.calls k a1_0 a1_1 a1_2 a1_3 a1_4 a2_0 a2_1 a2_2 a2_3 a2_4 y _ BC.out).mono ?_); rintro e w9 ⟨rfl, hb⟩; have hx_ := ordLaw.Bx.of_below (ordLaw.Bx.of_below hx_ (by repeat (first | exact Below.refl _ _ | apply pw_below_drewN | apply below_drew1))) hb; have hS_ := ordLaw.Bx.cells hx_) | (go_at_call 8; (with_reducible refine (value_Order.calls k a0_0 a0_1 a0_2 a0_3 a0_4 a2_0 a2_1 a2_2 a2_3 a2_4 z _ AC.out).mono ?_); rintro e w9 ⟨rfl, hb⟩; have hx_ := ordLaw.Bx.of_below (ordLaw.Bx.of_below hx_ (by repeat (first | exact Below.refl _ _ | apply pw_below_drewN | apply below_drew1))) hb; have hS_ := ordLaw.Bx.cells hx_))
    all_goals (go_wp2_with fail; go_meet; exact ⟨rfl, rfl, rfl, ⟨ordLaw.Bx.of_below hx_ (by repeat (first | exact Below.refl _ _ | apply pw_below_drewN | apply below_drew1))⟩⟩)
  case rest =>
    obtain ⟨rfl, rfl, rfl, HX1⟩ := hcut
    clear HX
    have HX := HX1
    clear HX1
    obtain ⟨z0_0, z0_1, z0_2, z0_3, z0_4, z1_0, z1_1, z1_2, z1_3, z1_4, z2_0, z2_1, z2_2, z2_3, z2_4⟩ := ordLaw.Bx.cells HX.out
    go_upto_region 2 with fail
    go_cut [74] (fun s74 wx => s74 = .bool false ∧ Aside0 (ordLaw.Bx w a0_0 a0_1 a0_2 a0_3 a0_4 a1_0 a1_1 a1_2 a1_3 a1_4 a2_0 a2_1 a2_2 a2_3 a2_4 wx))
    case first =>
      have hx3 : x = -1 ∨ x = 0 ∨ x = 1 := by omega
      have c1 := C1.out
      have c2 := C2.out
      have c3 := C3.out
      clear C1 C2 C3 O1 O2 O3 O4 O5 O6 AB AC BC x0 x1
      rcases hx3 with rfl | rfl | rfl
      · have BA' : Aside0 (value_Order.f k a1_0 a1_1 a1_2 a1_3 a1_4 a0_0 a0_1 a0_2 a0_3 a0_4 = some 1) := ⟨BA.out⟩
        clear BA
        have BA := BA'
        clear BA'
        rcases Int.lt_trichotomy y 0 with hy | hy | hy
        · have y1 : decide (y ≤ 0) = true := decide_eq_true (by omega)
          have y2 : decide (0 ≤ y) = false := decide_eq_false (by omega)
          have y3 : (y == 0) = false := beq_eq_false_iff_ne.2 (by omega)
          have q1 : decide (0 < z) = false := decide_eq_false (by omega)
          clear c1 c2 c3 hy
          as_aux_lemma =>
            go_wp2_with (first | (go_at_call 9; (with_reducible refine (colonnadelaw02_begun.calls k true _ BG.out (Gl.of HG.out HX.out.below)).mono ?_); rintro e w9 ⟨rfl, hb⟩; have n0_ := Aside0.mk (HX.out.of_below hb); clear z0_0 z0_1 z0_2 z0_3 z0_4 z1_0 z1_1 z1_2 z1_3 z1_4 z2_0 z2_1 z2_2 z2_3 z2_4 HX hb; have HX := n0_; clear n0_; obtain ⟨z0_0, z0_1, z0_2, z0_3, z0_4, z1_0, z1_1, z1_2, z1_3, z1_4, z2_0, z2_1, z2_2, z2_3, z2_4⟩ := ordLaw.Bx.cells HX.out) | (go_at_call 8; (with_reducible refine (value_Order.calls k a1_0 a1_1 a1_2 a1_3 a1_4 a0_0 a0_1 a0_2 a0_3 a0_4 1 _ BA.out).mono ?_); rintro e w9 ⟨rfl, hb⟩; have n0_ := Aside0.mk (HX.out.of_below hb); clear z0_0 z0_1 z0_2 z0_3 z0_4 z1_0 z1_1 z1_2 z1_3 z1_4 z2_0 z2_1 z2_2 z2_3 z2_4 HX hb; have HX := n0_; clear n0_; obtain ⟨z0_0, z0_1, z0_2, z0_3, z0_4, z1_0, z1_1, z1_2, z1_3, z1_4, z2_0, z2_1, z2_2, z2_3, z2_4⟩ := ordLaw.Bx.cells HX.out) | (go_at_call 8; (with_reducible refine (value_Order.calls k a0_0 a0_1 a0_2 a0_3 a0_4 a0_0 a0_1 a0_2 a0_3 a0_4 0 _ AA.out).mono ?_); rintro e w9 ⟨rfl, hb⟩; have n0_ := Aside0.mk (HX.out.of_below hb); clear z0_0 z0_1 z0_2 z0_3 z0_4 z1_0 z1_1 z1_2 z1_3 z1_4 z2_0 z2_1 z2_2 z2_3 z2_4 HX hb; have HX := n0_; clear n0_; obtain ⟨z0_0, z0_1, z0_2, z0_3, z0_4, z1_0, z1_1, z1_2, z1_3, z1_4, z2_0, z2_1, z2_2, z2_3, z2_4⟩ := ordLaw.Bx.cells HX.out))
            go_meet
            exact ⟨by first | rfl | simp, HX⟩
        · subst hy
          have q1 : decide (0 < z) = false := decide_eq_false (by omega)
          clear c1 c2 c3
          as_aux_lemma =>
            go_wp2_with (first | (go_at_call 9; (with_reducible refine (colonnadelaw02_begun.calls k true _ BG.out (Gl.of HG.out HX.out.below)).mono ?_); rintro e w9 ⟨rfl, hb⟩; have n0_ := Aside0.mk (HX.out.of_below hb); clear z0_0 z0_1 z0_2 z0_3 z0_4 z1_0 z1_1 z1_2 z1_3 z1_4 z2_0 z2_1 z2_2 z2_3 z2_4 HX hb; have HX := n0_; clear n0_; obtain ⟨z0_0, z0_1, z0_2, z0_3, z0_4, z1_0, z1_1, z1_2, z1_3, z1_4, z2_0, z2_1, z2_2, z2_3, z2_4⟩ := ordLaw.Bx.cells HX.out) | (go_at_call 8; (with_reducible refine (value_Order.calls k a1_0 a1_1 a1_2 a1_3 a1_4 a0_0 a0_1 a0_2 a0_3 a0_4 1 _ BA.out).mono ?_); rintro e w9 ⟨rfl, hb⟩; have n0_ := Aside0.mk (HX.out.of_below hb); clear z0_0 z0_1 z0_2 z0_3 z0_4 z1_0 z1_1 z1_2 z1_3 z1_4 z2_0 z2_1 z2_2 z2_3 z2_4 HX hb; have HX := n0_; clear n0_; obtain ⟨z0_0, z0_1, z0_2, z0_3, z0_4, z1_0, z1_1, z1_2, z1_3, z1_4, z2_0, z2_1, z2_2, z2_3, z2_4⟩ := ordLaw.Bx.cells HX.out) | (go_at_call 8; (with_reducible refine (value_Order.calls k a0_0 a0_1 a0_2 a0_3 a0_4 a0_0 a0_1 a0_2 a0_3 a0_4 0 _ AA.out).mono ?_); rintro e w9 ⟨rfl, hb⟩; have n0_ := Aside0.mk (HX.out.of_below hb); clear z0_0 z0_1 z0_2 z0_3 z0_4 z1_0 z1_1 z1_2 z1_3 z1_4 z2_0 z2_1 z2_2 z2_3 z2_4 HX hb; have HX := n0_; clear n0_; obtain ⟨z0_0, z0_1, z0_2, z0_3, z0_4, z1_0, z1_1, z1_2, z1_3, z1_4, z2_0, z2_1, z2_2, z2_3, z2_4⟩ := ordLaw.Bx.cells HX.out))
            go_meet
            exact ⟨by first | rfl | simp, HX⟩
        · have y1 : decide (y ≤ 0) = false := decide_eq_false (by omega)
          have y2 : decide (0 ≤ y) = true := decide_eq_true (by omega)
          have y3 : (y == 0) = false := beq_eq_false_iff_ne.2 (by omega)
          clear c1 c2 c3 hy
          as_aux_lemma =>
            go_wp2_with (first | (go_at_call 9; (with_reducible refine (colonnadelaw02_begun.calls k true _ BG.out (Gl.of HG.out HX.out.below)).mono ?_); rintro e w9 ⟨rfl, hb⟩; have n0_ := Aside0.mk (HX.out.of_below hb); clear z0_0 z0_1 z0_2 z0_3 z0_4 z1_0 z1_1 z1_2 z1_3 z1_4 z2_0 z2_1 z2_2 z2_3 z2_4 HX hb; have HX := n0_; clear n0_; obtain ⟨z0_0, z0_1, z0_2, z0_3, z0_4, z1_0, z1_1, z1_2, z1_3, z1_4, z2_0, z2_1, z2_2, z2_3, z2_4⟩ := ordLaw.Bx.cells HX.out) | (go_at_call 8; (with_reducible refine (value_Order.calls k a1_0 a1_1 a1_2 a1_3 a1_4 a0_0 a0_1 a0_2 a0_3 a0_4 1 _ BA.out).mono ?_); rintro e w9 ⟨rfl, hb⟩; have n0_ := Aside0.mk (HX.out.of_below hb); clear z0_0 z0_1 z0_2 z0_3 z0_4 z1_0 z1_1 z1_2 z1_3 z1_4 z2_0 z2_1 z2_2 z2_3 z2_4 HX hb; have HX := n0_; clear n0_; obtain ⟨z0_0, z0_1, z0_2, z0_3, z0_4, z1_0, z1_1, z1_2, z1_3, z1_4, z2_0, z2_1, z2_2, z2_3, z2_4⟩ := ordLaw.Bx.cells HX.out) | (go_at_call 8; (with_reducible refine (value_Order.calls k a0_0 a0_1 a0_2 a0_3 a0_4 a0_0 a0_1 a0_2 a0_3 a0_4 0 _ AA.out).mono ?_); rintro e w9 ⟨rfl, hb⟩; have n0_ := Aside0.mk (HX.out.of_below hb); clear z0_0 z0_1 z0_2 z0_3 z0_4 z1_0 z1_1 z1_2 z1_3 z1_4 z2_0 z2_1 z2_2 z2_3 z2_4 HX hb; have HX := n0_; clear n0_; obtain ⟨z0_0, z0_1, z0_2, z0_3, z0_4, z1_0, z1_1, z1_2, z1_3, z1_4, z2_0, z2_1, z2_2, z2_3, z2_4⟩ := ordLaw.Bx.cells HX.out))
            go_meet
            exact ⟨by first | rfl | simp, HX⟩
      · have BA' : Aside0 (value_Order.f k a1_0 a1_1 a1_2 a1_3 a1_4 a0_0 a0_1 a0_2 a0_3 a0_4 = some 0) := ⟨BA.out⟩
        clear BA
        have BA := BA'
        clear BA'
        rcases Int.lt_trichotomy y 0 with hy | hy | hy
        · have y1 : decide (y ≤ 0) = true := decide_eq_true (by omega)
          have y2 : decide (0 ≤ y) = false := decide_eq_false (by omega)
          have y3 : (y == 0) = false := beq_eq_false_iff_ne.2 (by omega)
          have q1 : decide (0 < z) = false := decide_eq_false (by omega)
          clear c1 c2 c3 hy
          as_aux_lemma =>
            go_wp2_with (first | (go_at_call 9; (with_reducible refine (colonnadelaw02_begun.calls k true _ BG.out (Gl.of HG.out HX.out.below)).mono ?_); rintro e w9 ⟨rfl, hb⟩; have n0_ := Aside0.mk (HX.out.of_below hb); clear z0_0 z0_1 z0_2 z0_3 z0_4 z1_0 z1_1 z1_2 z1_3 z1_4 z2_0 z2_1 z2_2 z2_3 z2_4 HX hb; have HX := n0_; clear n0_; obtain ⟨z0_0, z0_1, z0_2, z0_3, z0_4, z1_0, z1_1, z1_2, z1_3, z1_4, z2_0, z2_1, z2_2, z2_3, z2_4⟩ := ordLaw.Bx.cells HX.out) | (go_at_call 8; (with_reducible refine (value_Order.calls k a1_0 a1_1 a1_2 a1_3 a1_4 a0_0 a0_1 a0_2 a0_3 a0_4 0 _ BA.out).mono ?_); rintro e w9 ⟨rfl, hb⟩; have n0_ := Aside0.mk (HX.out.of_below hb); clear z0_0 z0_1 z0_2 z0_3 z0_4 z1_0 z1_1 z1_2 z1_3 z1_4 z2_0 z2_1 z2_2 z2_3 z2_4 HX hb; have HX := n0_; clear n0_; obtain ⟨z0_0, z0_1, z0_2, z0_3, z0_4, z1_0, z1_1, z1_2, z1_3, z1_4, z2_0, z2_1, z2_2, z2_3, z2_4⟩ := ordLaw.Bx.cells HX.out) | (go_at_call 8; (with_reducible refine (value_Order.calls k a0_0 a0_1 a0_2 a0_3 a0_4 a0_0 a0_1 a0_2 a0_3 a0_4 0 _ AA.out).mono ?_); rintro e w9 ⟨rfl, hb⟩; have n0_ := Aside0.mk (HX.out.of_below hb); clear z0_0 z0_1 z0_2 z0_3 z0_4 z1_0 z1_1 z1_2 z1_3 z1_4 z2_0 z2_1 z2_2 z2_3 z2_4 HX hb; have HX := n0_; clear n0_; obtain ⟨z0_0, z0_1, z0_2, z0_3, z0_4, z1_0, z1_1, z1_2, z1_3, z1_4, z2_0, z2_1, z2_2, z2_3, z2_4⟩ := ordLaw.Bx.cells HX.out))
            go_meet
            exact ⟨by first | rfl | simp, HX⟩
        · subst hy
          obtain rfl : z = 0 := by omega
          clear c1 c2 c3
          as_aux_lemma =>
            go_wp2_with (first | (go_at_call 9; (with_reducible refine (colonnadelaw02_begun.calls k true _ BG.out (Gl.of HG.out HX.out.below)).mono ?_); rintro e w9 ⟨rfl, hb⟩; have n0_ := Aside0.mk (HX.out.of_below hb); clear z0_0 z0_1 z0_2 z0_3 z0_4 z1_0 z1_1 z1_2 z1_3 z1_4 z2_0 z2_1 z2_2 z2_3 z2_4 HX hb; have HX := n0_; clear n0_; obtain ⟨z0_0, z0_1, z0_2, z0_3, z0_4, z1_0, z1_1, z1_2, z1_3, z1_4, z2_0, z2_1, z2_2, z2_3, z2_4⟩ := ordLaw.Bx.cells HX.out) | (go_at_call 8; (with_reducible refine (value_Order.calls k a1_0 a1_1 a1_2 a1_3 a1_4 a0_0 a0_1 a0_2 a0_3 a0_4 0 _ BA.out).mono ?_); rintro e w9 ⟨rfl, hb⟩; have n0_ := Aside0.mk (HX.out.of_below hb); clear z0_0 z0_1 z0_2 z0_3 z0_4 z1_0 z1_1 z1_2 z1_3 z1_4 z2_0 z2_1 z2_2 z2_3 z2_4 HX hb; have HX := n0_; clear n0_; obtain ⟨z0_0, z0_1, z0_2, z0_3, z0_4, z1_0, z1_1, z1_2, z1_3, z1_4, z2_0, z2_1, z2_2, z2_3, z2_4⟩ := ordLaw.Bx.cells HX.out) | (go_at_call 8; (with_reducible refine (value_Order.calls k a0_0 a0_1 a0_2 a0_3 a0_4 a0_0 a0_1 a0_2 a0_3 a0_4 0 _ AA.out).mono ?_); rintro e w9 ⟨rfl, hb⟩; have n0_ := Aside0.mk (HX.out.of_below hb); clear z0_0 z0_1 z0_2 z0_3 z0_4 z1_0 z1_1 z1_2 z1_3 z1_4 z2_0 z2_1 z2_2 z2_3 z2_4 HX hb; have HX := n0_; clear n0_; obtain ⟨z0_0, z0_1, z0_2, z0_3, z0_4, z1_0, z1_1, z1_2, z1_3, z1_4, z2_0, z2_1, z2_2, z2_3, z2_4⟩ := ordLaw.Bx.cells HX.out))
            go_meet
            exact ⟨by first | rfl | simp, HX⟩
        · have y1 : decide (y ≤ 0) = false := decide_eq_false (by omega)
          have y2 : decide (0 ≤ y) = true := decide_eq_true (by omega)
          have y3 : (y == 0) = false := beq_eq_false_iff_ne.2 (by omega)
          have q2 : decide (z < 0) = false := decide_eq_false (by omega)
          clear c1 c2 c3 hy
          as_aux_lemma =>
            go_wp2_with (first | (go_at_call 9; (with_reducible refine (colonnadelaw02_begun.calls k true _ BG.out (Gl.of HG.out HX.out.below)).mono ?_); rintro e w9 ⟨rfl, hb⟩; have n0_ := Aside0.mk (HX.out.of_below hb); clear z0_0 z0_1 z0_2 z0_3 z0_4 z1_0 z1_1 z1_2 z1_3 z1_4 z2_0 z2_1 z2_2 z2_3 z2_4 HX hb; have HX := n0_; clear n0_; obtain ⟨z0_0, z0_1, z0_2, z0_3, z0_4, z1_0, z1_1, z1_2, z1_3, z1_4, z2_0, z2_1, z2_2, z2_3, z2_4⟩ := ordLaw.Bx.cells HX.out) | (go_at_call 8; (with_reducible refine (value_Order.calls k a1_0 a1_1 a1_2 a1_3 a1_4 a0_0 a0_1 a0_2 a0_3 a0_4 0 _ BA.out).mono ?_); rintro e w9 ⟨rfl, hb⟩; have n0_ := Aside0.mk (HX.out.of_below hb); clear z0_0 z0_1 z0_2 z0_3 z0_4 z1_0 z1_1 z1_2 z1_3 z1_4 z2_0 z2_1 z2_2 z2_3 z2_4 HX hb; have HX := n0_; clear n0_; obtain ⟨z0_0, z0_1, z0_2, z0_3, z0_4, z1_0, z1_1, z1_2, z1_3, z1_4, z2_0, z2_1, z2_2, z2_3, z2_4⟩ := ordLaw.Bx.cells HX.out) | (go_at_call 8; (with_reducible refine (value_Order.calls k a0_0 a0_1 a0_2 a0_3 a0_4 a0_0 a0_1 a0_2 a0_3 a0_4 0 _ AA.out).mono ?_); rintro e w9 ⟨rfl, hb⟩; have n0_ := Aside0.mk (HX.out.of_below hb); clear z0_0 z0_1 z0_2 z0_3 z0_4 z1_0 z1_1 z1_2 z1_3 z1_4 z2_0 z2_1 z2_2 z2_3 z2_4 HX hb; have HX := n0_; clear n0_; obtain ⟨z0_0, z0_1, z0_2, z0_3, z0_4, z1_0, z1_1, z1_2, z1_3, z1_4, z2_0, z2_1, z2_2, z2_3, z2_4⟩ := ordLaw.Bx.cells HX.out))
            go_meet
            exact ⟨by first | rfl | simp, HX⟩
      · have BA' : Aside0 (value_Order.f k a1_0 a1_1 a1_2 a1_3 a1_4 a0_0 a0_1 a0_2 a0_3 a0_4 = some (-1)) := ⟨BA.out⟩
        clear BA
        have BA := BA'
        clear BA'
        rcases Int.lt_trichotomy y 0 with hy | hy | hy
        · have y1 : decide (y ≤ 0) = true := decide_eq_true (by omega)
          have y2 : decide (0 ≤ y) = false := decide_eq_false (by omega)
          have y3 : (y == 0) = false := beq_eq_false_iff_ne.2 (by omega)
          clear c1 c2 c3 hy
          as_aux_lemma =>
            go_wp2_with (first | (go_at_call 9; (with_reducible refine (colonnadelaw02_begun.calls k true _ BG.out (Gl.of HG.out HX.out.below)).mono ?_); rintro e w9 ⟨rfl, hb⟩; have n0_ := Aside0.mk (HX.out.of_below hb); clear z0_0 z0_1 z0_2 z0_3 z0_4 z1_0 z1_1 z1_2 z1_3 z1_4 z2_0 z2_1 z2_2 z2_3 z2_4 HX hb; have HX := n0_; clear n0_; obtain ⟨z0_0, z0_1, z0_2, z0_3, z0_4, z1_0, z1_1, z1_2, z1_3, z1_4, z2_0, z2_1, z2_2, z2_3, z2_4⟩ := ordLaw.Bx.cells HX.out) | (go_at_call 8; (with_reducible refine (value_Order.calls k a1_0 a1_1 a1_2 a1_3 a1_4 a0_0 a0_1 a0_2 a0_3 a0_4 (-1) _ BA.out).mono ?_); rintro e w9 ⟨rfl, hb⟩; have n0_ := Aside0.mk (HX.out.of_below hb); clear z0_0 z0_1 z0_2 z0_3 z0_4 z1_0 z1_1 z1_2 z1_3 z1_4 z2_0 z2_1 z2_2 z2_3 z2_4 HX hb; have HX := n0_; clear n0_; obtain ⟨z0_0, z0_1, z0_2, z0_3, z0_4, z1_0, z1_1, z1_2, z1_3, z1_4, z2_0, z2_1, z2_2, z2_3, z2_4⟩ := ordLaw.Bx.cells HX.out) | (go_at_call 8; (with_reducible refine (value_Order.calls k a0_0 a0_1 a0_2 a0_3 a0_4 a0_0 a0_1 a0_2 a0_3 a0_4 0 _ AA.out).mono ?_); rintro e w9 ⟨rfl, hb⟩; have n0_ := Aside0.mk (HX.out.of_below hb); clear z0_0 z0_1 z0_2 z0_3 z0_4 z1_0 z1_1 z1_2 z1_3 z1_4 z2_0 z2_1 z2_2 z2_3 z2_4 HX hb; have HX := n0_; clear n0_; obtain ⟨z0_0, z0_1, z0_2, z0_3, z0_4, z1_0, z1_1, z1_2, z1_3, z1_4, z2_0, z2_1, z2_2, z2_3, z2_4⟩ := ordLaw.Bx.cells HX.out))
            go_meet
            exact ⟨by first | rfl | simp, HX⟩
        · subst hy
          have q2 : decide (z < 0) = false := decide_eq_false (by omega)
          clear c1 c2 c3
          as_aux_lemma =>
            go_wp2_with (first | (go_at_call 9; (with_reducible refine (colonnadelaw02_begun.calls k true _ BG.out (Gl.of HG.out HX.out.below)).mono ?_); rintro e w9 ⟨rfl, hb⟩; have n0_ := Aside0.mk (HX.out.of_below hb); clear z0_0 z0_1 z0_2 z0_3 z0_4 z1_0 z1_1 z1_2 z1_3 z1_4 z2_0 z2_1 z2_2 z2_3 z2_4 HX hb; have HX := n0_; clear n0_; obtain ⟨z0_0, z0_1, z0_2, z0_3, z0_4, z1_0, z1_1, z1_2, z1_3, z1_4, z2_0, z2_1, z2_2, z2_3, z2_4⟩ := ordLaw.Bx.cells HX.out) | (go_at_call 8; (with_reducible refine (value_Order.calls k a1_0 a1_1 a1_2 a1_3 a1_4 a0_0 a0_1 a0_2 a0_3 a0_4 (-1) _ BA.out).mono ?_); rintro e w9 ⟨rfl, hb⟩; have n0_ := Aside0.mk (HX.out.of_below hb); clear z0_0 z0_1 z0_2 z0_3 z0_4 z1_0 z1_1 z1_2 z1_3 z1_4 z2_0 z2_1 z2_2 z2_3 z2_4 HX hb; have HX := n0_; clear n0_; obtain ⟨z0_0, z0_1, z0_2, z0_3, z0_4, z1_0, z1_1, z1_2, z1_3, z1_4, z2_0, z2_1, z2_2, z2_3, z2_4⟩ := ordLaw.Bx.cells HX.out) | (go_at_call 8; (with_reducible refine (value_Order.calls k a0_0 a0_1 a0_2 a0_3 a0_4 a0_0 a0_1 a0_2 a0_3 a0_4 0 _ AA.out).mono ?_); rintro e w9 ⟨rfl, hb⟩; have n0_ := Aside0.mk (HX.out.of_below hb); clear z0_0 z0_1 z0_2 z0_3 z0_4 z1_0 z1_1 z1_2 z1_3 z1_4 z2_0 z2_1 z2_2 z2_3 z2_4 HX hb; have HX := n0_; clear n0_; obtain ⟨z0_0, z0_1, z0_2, z0_3, z0_4, z1_0, z1_1, z1_2, z1_3, z1_4, z2_0, z2_1, z2_2, z2_3, z2_4⟩ := ordLaw.Bx.cells HX.out))
            go_meet
            exact ⟨by first | rfl | simp, HX⟩
        · have y1 : decide (y ≤ 0) = false := decide_eq_false (by omega)
          have y2 : decide (0 ≤ y) = true := decide_eq_true (by omega)
          have y3 : (y == 0) = false := beq_eq_false_iff_ne.2 (by omega)
          have q2 : decide (z < 0) = false := decide_eq_false (by omega)
          clear c1 c2 c3 hy
          as_aux_lemma =>
            go_wp2_with (first | (go_at_call 9; (with_reducible refine (colonnadelaw02_begun.calls k true _ BG.out (Gl.of HG.out HX.out.below)).mono ?_); rintro e w9 ⟨rfl, hb⟩; have n0_ := Aside0.mk (HX.out.of_below hb); clear z0_0 z0_1 z0_2 z0_3 z0_4 z1_0 z1_1 z1_2 z1_3 z1_4 z2_0 z2_1 z2_2 z2_3 z2_4 HX hb; have HX := n0_; clear n0_; obtain ⟨z0_0, z0_1, z0_2, z0_3, z0_4, z1_0, z1_1, z1_2, z1_3, z1_4, z2_0, z2_1, z2_2, z2_3, z2_4⟩ := ordLaw.Bx.cells HX.out) | (go_at_call 8; (with_reducible refine (value_Order.calls k a1_0 a1_1 a1_2 a1_3 a1_4 a0_0 a0_1 a0_2 a0_3 a0_4 (-1) _ BA.out).mono ?_); rintro e w9 ⟨rfl, hb⟩; have n0_ := Aside0.mk (HX.out.of_below hb); clear z0_0 z0_1 z0_2 z0_3 z0_4 z1_0 z1_1 z1_2 z1_3 z1_4 z2_0 z2_1 z2_2 z2_3 z2_4 HX hb; have HX := n0_; clear n0_; obtain ⟨z0_0, z0_1, z0_2, z0_3, z0_4, z1_0, z1_1, z1_2, z1_3, z1_4, z2_0, z2_1, z2_2, z2_3, z2_4⟩ := ordLaw.Bx.cells HX.out) | (go_at_call 8; (with_reducible refine (value_Order.calls k a0_0 a0_1 a0_2 a0_3 a0_4 a0_0 a0_1 a0_2 a0_3 a0_4 0 _ AA.out).mono ?_); rintro e w9 ⟨rfl, hb⟩; have n0_ := Aside0.mk (HX.out.of_below hb); clear z0_0 z0_1 z0_2 z0_3 z0_4 z1_0 z1_1 z1_2 z1_3 z1_4 z2_0 z2_1 z2_2 z2_3 z2_4 HX hb; have HX := n0_; clear n0_; obtain ⟨z0_0, z0_1, z0_2, z0_3, z0_4, z1_0, z1_1, z1_2, z1_3, z1_4, z2_0, z2_1, z2_2, z2_3, z2_4⟩ := ordLaw.Bx.cells HX.out))
            go_meet
            exact ⟨by first | rfl | simp, HX⟩
    case rest =>
      obtain ⟨rfl, HX1⟩ := hcut
      clear z0_0 z0_1 z0_2 z0_3 z0_4 z1_0 z1_1 z1_2 z1_3 z1_4 z2_0 z2_1 z2_2 z2_3 z2_4 HX AB BC AC BA AA BG HG C1 C2 C3
      have HX := HX1
      clear HX1
      go_wp2
      go_loopg [10] 6 (fun kq v10 wr => ∃ op : Int, v10 = .int .i64 op ∧ Aside0 (op + kq = 7 ∧ 1 ≤ op) ∧ Aside0 (ordLaw.Bx w a0_0 a0_1 a0_2 a0_3 a0_4 a1_0 a1_1 a1_2 a1_3 a1_4 a2_0 a2_1 a2_2 a2_3 a2_4 wr))
      case atStart => exact ⟨1, rfl, ⟨by omega⟩, HX⟩
      case round =>
        clear HX
        obtain ⟨op, rfl, HK, HX⟩ := hrel
        obtain ⟨z0_0, z0_1, z0_2, z0_3, z0_4, z1_0, z1_1, z1_2, z1_3, z1_4, z2_0, z2_1, z2_2, z2_3, z2_4⟩ := ordLaw.Bx.cells HX.out
        cases gk with
        | zero =>
          obtain rfl : op = 7 := by have := HK.out; omega
          go_wp2
          go_ret
          exact ⟨by first | rfl | simp, HX.out.below⟩
        | succ k1 =>
          have hop : op = 1 ∨ op = 2 ∨ op = 3 ∨ op = 4 ∨ op = 5 ∨ op = 6 := by have := HK.out; omega
          rcases hop with rfl | rfl | rfl | rfl | rfl | rfl
          · have ho := O1.out
            clear O1 O2 O3 O4 O5 O6
            unfold ordLaw.op at ho
            split at ho
            case h_2 => cases ho
            rename_i t e ht
            have AT := Aside0.mk ht
            clear ht
            by_cases he : e = 0
            · subst he
              rw [if_pos rfl] at ho
              have ho' := of_decide_eq_true ho
              clear ho
              by_cases g : x = 0
              · have htr : value_Test.tr 1 x = true := by simp [value_Test.tr, g]
                rw [htr] at ho'
                clear htr
                have d1 : (x == 0) = true := beq_iff_eq.2 g
                have d2 : (x != 0) = false := bne_eq_false_iff_eq.2 g
                clear g
                by_cases n0 : a0_2 = true
                · rw [if_pos (.inl n0)] at ho'
                  subst ho'
                  subst n0
                  as_aux_lemma =>
                    go_wp2_with (first | (go_at_call 10; (with_reducible refine (value_Test.calls k 1 a0_0 a0_1 true a0_3 a0_4 a1_0 a1_1 a1_2 a1_3 a1_4 2 0 _ AT.out).mono ?_); rintro e' w9 ⟨rfl, hb⟩; have n0_ := Aside0.mk (HX.out.of_below hb); clear z0_0 z0_1 z0_2 z0_3 z0_4 z1_0 z1_1 z1_2 z1_3 z1_4 z2_0 z2_1 z2_2 z2_3 z2_4 HX hb; have HX := n0_; clear n0_; obtain ⟨z0_0, z0_1, z0_2, z0_3, z0_4, z1_0, z1_1, z1_2, z1_3, z1_4, z2_0, z2_1, z2_2, z2_3, z2_4⟩ := ordLaw.Bx.cells HX.out))
                    go_roundg k1
                    case measure => omega
                    case rel => exact ⟨_, (by first | rfl | (simp; done)), ⟨by have := HK.out; omega⟩, HX⟩
                · by_cases n1 : a1_2 = true
                  · rw [if_pos (.inr n1)] at ho'
                    subst ho'
                    subst n1
                    obtain rfl : a0_2 = false := Bool.eq_false_iff.2 n0
                    clear n0
                    as_aux_lemma =>
                      go_wp2_with (first | (go_at_call 10; (with_reducible refine (value_Test.calls k 1 a0_0 a0_1 false a0_3 a0_4 a1_0 a1_1 true a1_3 a1_4 2 0 _ AT.out).mono ?_); rintro e' w9 ⟨rfl, hb⟩; have n0_ := Aside0.mk (HX.out.of_below hb); clear z0_0 z0_1 z0_2 z0_3 z0_4 z1_0 z1_1 z1_2 z1_3 z1_4 z2_0 z2_1 z2_2 z2_3 z2_4 HX hb; have HX := n0_; clear n0_; obtain ⟨z0_0, z0_1, z0_2, z0_3, z0_4, z1_0, z1_1, z1_2, z1_3, z1_4, z2_0, z2_1, z2_2, z2_3, z2_4⟩ := ordLaw.Bx.cells HX.out))
                      go_roundg k1
                      case measure => omega
                      case rel => exact ⟨_, (by first | rfl | (simp; done)), ⟨by have := HK.out; omega⟩, HX⟩
                  · rw [if_neg (fun z => z.elim n0 n1)] at ho'
                    obtain rfl : a0_2 = false := Bool.eq_false_iff.2 n0
                    obtain rfl : a1_2 = false := Bool.eq_false_iff.2 n1
                    clear n0 n1
                    rw [if_pos rfl] at ho'
                    subst ho'
                    as_aux_lemma =>
                      go_wp2_with (first | (go_at_call 10; (with_reducible refine (value_Test.calls k 1 a0_0 a0_1 false a0_3 a0_4 a1_0 a1_1 false a1_3 a1_4 1 0 _ AT.out).mono ?_); rintro e' w9 ⟨rfl, hb⟩; have n0_ := Aside0.mk (HX.out.of_below hb); clear z0_0 z0_1 z0_2 z0_3 z0_4 z1_0 z1_1 z1_2 z1_3 z1_4 z2_0 z2_1 z2_2 z2_3 z2_4 HX hb; have HX := n0_; clear n0_; obtain ⟨z0_0, z0_1, z0_2, z0_3, z0_4, z1_0, z1_1, z1_2, z1_3, z1_4, z2_0, z2_1, z2_2, z2_3, z2_4⟩ := ordLaw.Bx.cells HX.out))
                      go_roundg k1
                      case measure => omega
                      case rel => exact ⟨_, (by first | rfl | (simp; done)), ⟨by have := HK.out; omega⟩, HX⟩
              · have htr : value_Test.tr 1 x = false := by simp [value_Test.tr, g]
                rw [htr] at ho'
                clear htr
                have d1 : (x == 0) = false := beq_eq_false_iff_ne.2 g
                have d2 : (x != 0) = true := bne_iff_ne.2 g
                clear g
                by_cases n0 : a0_2 = true
                · rw [if_pos (.inl n0)] at ho'
                  subst ho'
                  subst n0
                  as_aux_lemma =>
                    go_wp2_with (first | (go_at_call 10; (with_reducible refine (value_Test.calls k 1 a0_0 a0_1 true a0_3 a0_4 a1_0 a1_1 a1_2 a1_3 a1_4 2 0 _ AT.out).mono ?_); rintro e' w9 ⟨rfl, hb⟩; have n0_ := Aside0.mk (HX.out.of_below hb); clear z0_0 z0_1 z0_2 z0_3 z0_4 z1_0 z1_1 z1_2 z1_3 z1_4 z2_0 z2_1 z2_2 z2_3 z2_4 HX hb; have HX := n0_; clear n0_; obtain ⟨z0_0, z0_1, z0_2, z0_3, z0_4, z1_0, z1_1, z1_2, z1_3, z1_4, z2_0, z2_1, z2_2, z2_3, z2_4⟩ := ordLaw.Bx.cells HX.out))
                    go_roundg k1
                    case measure => omega
                    case rel => exact ⟨_, (by first | rfl | (simp; done)), ⟨by have := HK.out; omega⟩, HX⟩
                · by_cases n1 : a1_2 = true
                  · rw [if_pos (.inr n1)] at ho'
                    subst ho'
                    subst n1
                    obtain rfl : a0_2 = false := Bool.eq_false_iff.2 n0
                    clear n0
                    as_aux_lemma =>
                      go_wp2_with (first | (go_at_call 10; (with_reducible refine (value_Test.calls k 1 a0_0 a0_1 false a0_3 a0_4 a1_0 a1_1 true a1_3 a1_4 2 0 _ AT.out).mono ?_); rintro e' w9 ⟨rfl, hb⟩; have n0_ := Aside0.mk (HX.out.of_below hb); clear z0_0 z0_1 z0_2 z0_3 z0_4 z1_0 z1_1 z1_2 z1_3 z1_4 z2_0 z2_1 z2_2 z2_3 z2_4 HX hb; have HX := n0_; clear n0_; obtain ⟨z0_0, z0_1, z0_2, z0_3, z0_4, z1_0, z1_1, z1_2, z1_3, z1_4, z2_0, z2_1, z2_2, z2_3, z2_4⟩ := ordLaw.Bx.cells HX.out))
                      go_roundg k1
                      case measure => omega
                      case rel => exact ⟨_, (by first | rfl | (simp; done)), ⟨by have := HK.out; omega⟩, HX⟩
                  · rw [if_neg (fun z => z.elim n0 n1)] at ho'
                    obtain rfl : a0_2 = false := Bool.eq_false_iff.2 n0
                    obtain rfl : a1_2 = false := Bool.eq_false_iff.2 n1
                    clear n0 n1
                    rw [if_neg (by decide)] at ho'
                    subst ho'
                    as_aux_lemma =>
                      go_wp2_with (first | (go_at_call 10; (with_reducible refine (value_Test.calls k 1 a0_0 a0_1 false a0_3 a0_4 a1_0 a1_1 false a1_3 a1_4 0 0 _ AT.out).mono ?_); rintro e' w9 ⟨rfl, hb⟩; have n0_ := Aside0.mk (HX.out.of_below hb); clear z0_0 z0_1 z0_2 z0_3 z0_4 z1_0 z1_1 z1_2 z1_3 z1_4 z2_0 z2_1 z2_2 z2_3 z2_4 HX hb; have HX := n0_; clear n0_; obtain ⟨z0_0, z0_1, z0_2, z0_3, z0_4, z1_0, z1_1, z1_2, z1_3, z1_4, z2_0, z2_1, z2_2, z2_3, z2_4⟩ := ordLaw.Bx.cells HX.out))
                      go_roundg k1
                      case measure => omega
                      case rel => exact ⟨_, (by first | rfl | (simp; done)), ⟨by have := HK.out; omega⟩, HX⟩
            · rw [if_neg he] at ho
              have AK := Aside0.mk (of_decide_eq_true ho)
              have e1 : (e == 0) = false := beq_eq_false_iff_ne.2 he
              have e2 : (e != 0) = true := bne_iff_ne.2 he
              clear ho he
              as_aux_lemma =>
                go_wp2_with (first | (go_at_call 10; (with_reducible refine (value_Test.calls k 1 a0_0 a0_1 a0_2 a0_3 a0_4 a1_0 a1_1 a1_2 a1_3 a1_4 t e _ AT.out).mono ?_); rintro e' w9 ⟨rfl, hb⟩; have n0_ := Aside0.mk (HX.out.of_below hb); clear z0_0 z0_1 z0_2 z0_3 z0_4 z1_0 z1_1 z1_2 z1_3 z1_4 z2_0 z2_1 z2_2 z2_3 z2_4 HX hb; have HX := n0_; clear n0_; obtain ⟨z0_0, z0_1, z0_2, z0_3, z0_4, z1_0, z1_1, z1_2, z1_3, z1_4, z2_0, z2_1, z2_2, z2_3, z2_4⟩ := ordLaw.Bx.cells HX.out) | (go_at_call 11; (with_reducible refine (value_Alike.calls a0_0 a0_1 a1_0 a1_1 false _ AK.out).mono ?_); rintro e' w9 ⟨rfl, hb⟩; have n0_ := Aside0.mk (HX.out.of_below hb); clear z0_0 z0_1 z0_2 z0_3 z0_4 z1_0 z1_1 z1_2 z1_3 z1_4 z2_0 z2_1 z2_2 z2_3 z2_4 HX hb; have HX := n0_; clear n0_; obtain ⟨z0_0, z0_1, z0_2, z0_3, z0_4, z1_0, z1_1, z1_2, z1_3, z1_4, z2_0, z2_1, z2_2, z2_3, z2_4⟩ := ordLaw.Bx.cells HX.out))
                go_roundg k1
                case measure => omega
                case rel => exact ⟨_, (by first | rfl | (simp; done)), ⟨by have := HK.out; omega⟩, HX⟩
          · have ho := O2.out
            clear O1 O2 O3 O4 O5 O6
            unfold ordLaw.op at ho
            split at ho
            case h_2 => cases ho
            rename_i t e ht
            have AT := Aside0.mk ht
            clear ht
            by_cases he : e = 0
            · subst he
              rw [if_pos rfl] at ho
              have ho' := of_decide_eq_true ho
              clear ho
              by_cases g : x ≠ 0
              · have htr : value_Test.tr 2 x = true := by simp [value_Test.tr, g]
                rw [htr] at ho'
                clear htr
                have d1 : (x == 0) = false := beq_eq_false_iff_ne.2 g
                have d2 : (x != 0) = true := bne_iff_ne.2 g
                clear g
                by_cases n0 : a0_2 = true
                · rw [if_pos (.inl n0)] at ho'
                  subst ho'
                  subst n0
                  as_aux_lemma =>
                    go_wp2_with (first | (go_at_call 10; (with_reducible refine (value_Test.calls k 2 a0_0 a0_1 true a0_3 a0_4 a1_0 a1_1 a1_2 a1_3 a1_4 2 0 _ AT.out).mono ?_); rintro e' w9 ⟨rfl, hb⟩; have n0_ := Aside0.mk (HX.out.of_below hb); clear z0_0 z0_1 z0_2 z0_3 z0_4 z1_0 z1_1 z1_2 z1_3 z1_4 z2_0 z2_1 z2_2 z2_3 z2_4 HX hb; have HX := n0_; clear n0_; obtain ⟨z0_0, z0_1, z0_2, z0_3, z0_4, z1_0, z1_1, z1_2, z1_3, z1_4, z2_0, z2_1, z2_2, z2_3, z2_4⟩ := ordLaw.Bx.cells HX.out))
                    go_roundg k1
                    case measure => omega
                    case rel => exact ⟨_, (by first | rfl | (simp; done)), ⟨by have := HK.out; omega⟩, HX⟩
                · by_cases n1 : a1_2 = true
                  · rw [if_pos (.inr n1)] at ho'
                    subst ho'
                    subst n1
                    obtain rfl : a0_2 = false := Bool.eq_false_iff.2 n0
                    clear n0
                    as_aux_lemma =>
                      go_wp2_with (first | (go_at_call 10; (with_reducible refine (value_Test.calls k 2 a0_0 a0_1 false a0_3 a0_4 a1_0 a1_1 true a1_3 a1_4 2 0 _ AT.out).mono ?_); rintro e' w9 ⟨rfl, hb⟩; have n0_ := Aside0.mk (HX.out.of_below hb); clear z0_0 z0_1 z0_2 z0_3 z0_4 z1_0 z1_1 z1_2 z1_3 z1_4 z2_0 z2_1 z2_2 z2_3 z2_4 HX hb; have HX := n0_; clear n0_; obtain ⟨z0_0, z0_1, z0_2, z0_3, z0_4, z1_0, z1_1, z1_2, z1_3, z1_4, z2_0, z2_1, z2_2, z2_3, z2_4⟩ := ordLaw.Bx.cells HX.out))
                      go_roundg k1
                      case measure => omega
                      case rel => exact ⟨_, (by first | rfl | (simp; done)), ⟨by have := HK.out; omega⟩, HX⟩
                  · rw [if_neg (fun z => z.elim n0 n1)] at ho'
                    obtain rfl : a0_2 = false := Bool.eq_false_iff.2 n0
                    obtain rfl : a1_2 = false := Bool.eq_false_iff.2 n1
                    clear n0 n1
                    rw [if_pos rfl] at ho'
                    subst ho'
                    as_aux_lemma =>
                      go_wp2_with (first | (go_at_call 10; (with_reducible refine (value_Test.calls k 2 a0_0 a0_1 false a0_3 a0_4 a1_0 a1_1 false a1_3 a1_4 1 0 _ AT.out).mono ?_); rintro e' w9 ⟨rfl, hb⟩; have n0_ := Aside0.mk (HX.out.of_below hb); clear z0_0 z0_1 z0_2 z0_3 z0_4 z1_0 z1_1 z1_2 z1_3 z1_4 z2_0 z2_1 z2_2 z2_3 z2_4 HX hb; have HX := n0_; clear n0_; obtain ⟨z0_0, z0_1, z0_2, z0_3, z0_4, z1_0, z1_1, z1_2, z1_3, z1_4, z2_0, z2_1, z2_2, z2_3, z2_4⟩ := ordLaw.Bx.cells HX.out))
                      go_roundg k1
                      case measure => omega
                      case rel => exact ⟨_, (by first | rfl | (simp; done)), ⟨by have := HK.out; omega⟩, HX⟩
              · have htr : value_Test.tr 2 x = false := by simp [value_Test.tr, g]
                rw [htr] at ho'
                clear htr
                have d1 : (x == 0) = true := beq_iff_eq.2 (Classical.not_not.1 g)
                have d2 : (x != 0) = false := bne_eq_false_iff_eq.2 (Classical.not_not.1 g)
                clear g
                by_cases n0 : a0_2 = true
                · rw [if_pos (.inl n0)] at ho'
                  subst ho'
                  subst n0
                  as_aux_lemma =>
                    go_wp2_with (first | (go_at_call 10; (with_reducible refine (value_Test.calls k 2 a0_0 a0_1 true a0_3 a0_4 a1_0 a1_1 a1_2 a1_3 a1_4 2 0 _ AT.out).mono ?_); rintro e' w9 ⟨rfl, hb⟩; have n0_ := Aside0.mk (HX.out.of_below hb); clear z0_0 z0_1 z0_2 z0_3 z0_4 z1_0 z1_1 z1_2 z1_3 z1_4 z2_0 z2_1 z2_2 z2_3 z2_4 HX hb; have HX := n0_; clear n0_; obtain ⟨z0_0, z0_1, z0_2, z0_3, z0_4, z1_0, z1_1, z1_2, z1_3, z1_4, z2_0, z2_1, z2_2, z2_3, z2_4⟩ := ordLaw.Bx.cells HX.out))
                    go_roundg k1
                    case measure => omega
                    case rel => exact ⟨_, (by first | rfl | (simp; done)), ⟨by have := HK.out; omega⟩, HX⟩
                · by_cases n1 : a1_2 = true
                  · rw [if_pos (.inr n1)] at ho'
                    subst ho'
                    subst n1
                    obtain rfl : a0_2 = false := Bool.eq_false_iff.2 n0
                    clear n0
                    as_aux_lemma =>
                      go_wp2_with (first | (go_at_call 10; (with_reducible refine (value_Test.calls k 2 a0_0 a0_1 false a0_3 a0_4 a1_0 a1_1 true a1_3 a1_4 2 0 _ AT.out).mono ?_); rintro e' w9 ⟨rfl, hb⟩; have n0_ := Aside0.mk (HX.out.of_below hb); clear z0_0 z0_1 z0_2 z0_3 z0_4 z1_0 z1_1 z1_2 z1_3 z1_4 z2_0 z2_1 z2_2 z2_3 z2_4 HX hb; have HX := n0_; clear n0_; obtain ⟨z0_0, z0_1, z0_2, z0_3, z0_4, z1_0, z1_1, z1_2, z1_3, z1_4, z2_0, z2_1, z2_2, z2_3, z2_4⟩ := ordLaw.Bx.cells HX.out))
                      go_roundg k1
                      case measure => omega
                      case rel => exact ⟨_, (by first | rfl | (simp; done)), ⟨by have := HK.out; omega⟩, HX⟩
                  · rw [if_neg (fun z => z.elim n0 n1)] at ho'
                    obtain rfl : a0_2 = false := Bool.eq_false_iff.2 n0
                    obtain rfl : a1_2 = false := Bool.eq_false_iff.2 n1
                    clear n0 n1
                    rw [if_neg (by decide)] at ho'
                    subst ho'
                    as_aux_lemma =>
                      go_wp2_with (first | (go_at_call 10; (with_reducible refine (value_Test.calls k 2 a0_0 a0_1 false a0_3 a0_4 a1_0 a1_1 false a1_3 a1_4 0 0 _ AT.out).mono ?_); rintro e' w9 ⟨rfl, hb⟩; have n0_ := Aside0.mk (HX.out.of_below hb); clear z0_0 z0_1 z0_2 z0_3 z0_4 z1_0 z1_1 z1_2 z1_3 z1_4 z2_0 z2_1 z2_2 z2_3 z2_4 HX hb; have HX := n0_; clear n0_; obtain ⟨z0_0, z0_1, z0_2, z0_3, z0_4, z1_0, z1_1, z1_2, z1_3, z1_4, z2_0, z2_1, z2_2, z2_3, z2_4⟩ := ordLaw.Bx.cells HX.out))
                      go_roundg k1
                      case measure => omega
                      case rel => exact ⟨_, (by first | rfl | (simp; done)), ⟨by have := HK.out; omega⟩, HX⟩
            · rw [if_neg he] at ho
              have AK := Aside0.mk (of_decide_eq_true ho)
              have e1 : (e == 0) = false := beq_eq_false_iff_ne.2 he
              have e2 : (e != 0) = true := bne_iff_ne.2 he
              clear ho he
              as_aux_lemma =>
                go_wp2_with (first | (go_at_call 10; (with_reducible refine (value_Test.calls k 2 a0_0 a0_1 a0_2 a0_3 a0_4 a1_0 a1_1 a1_2 a1_3 a1_4 t e _ AT.out).mono ?_); rintro e' w9 ⟨rfl, hb⟩; have n0_ := Aside0.mk (HX.out.of_below hb); clear z0_0 z0_1 z0_2 z0_3 z0_4 z1_0 z1_1 z1_2 z1_3 z1_4 z2_0 z2_1 z2_2 z2_3 z2_4 HX hb; have HX := n0_; clear n0_; obtain ⟨z0_0, z0_1, z0_2, z0_3, z0_4, z1_0, z1_1, z1_2, z1_3, z1_4, z2_0, z2_1, z2_2, z2_3, z2_4⟩ := ordLaw.Bx.cells HX.out) | (go_at_call 11; (with_reducible refine (value_Alike.calls a0_0 a0_1 a1_0 a1_1 false _ AK.out).mono ?_); rintro e' w9 ⟨rfl, hb⟩; have n0_ := Aside0.mk (HX.out.of_below hb); clear z0_0 z0_1 z0_2 z0_3 z0_4 z1_0 z1_1 z1_2 z1_3 z1_4 z2_0 z2_1 z2_2 z2_3 z2_4 HX hb; have HX := n0_; clear n0_; obtain ⟨z0_0, z0_1, z0_2, z0_3, z0_4, z1_0, z1_1, z1_2, z1_3, z1_4, z2_0, z2_1, z2_2, z2_3, z2_4⟩ := ordLaw.Bx.cells HX.out))
                go_roundg k1
                case measure => omega
                case rel => exact ⟨_, (by first | rfl | (simp; done)), ⟨by have := HK.out; omega⟩, HX⟩
          · have ho := O3.out
            clear O1 O2 O3 O4 O5 O6
            unfold ordLaw.op at ho
            split at ho
            case h_2 => cases ho
            rename_i t e ht
            have AT := Aside0.mk ht
            clear ht
            by_cases he : e = 0
            · subst he
              rw [if_pos rfl] at ho
              have ho' := of_decide_eq_true ho
              clear ho
              by_cases g : x < 0
              · have htr : value_Test.tr 3 x = true := by simp [value_Test.tr, g]
                rw [htr] at ho'
                clear htr
                have d1 : decide (x < 0) = true := decide_eq_true g
                clear g
                by_cases n0 : a0_2 = true
                · rw [if_pos (.inl n0)] at ho'
                  subst ho'
                  subst n0
                  as_aux_lemma =>
                    go_wp2_with (first | (go_at_call 10; (with_reducible refine (value_Test.calls k 3 a0_0 a0_1 true a0_3 a0_4 a1_0 a1_1 a1_2 a1_3 a1_4 2 0 _ AT.out).mono ?_); rintro e' w9 ⟨rfl, hb⟩; have n0_ := Aside0.mk (HX.out.of_below hb); clear z0_0 z0_1 z0_2 z0_3 z0_4 z1_0 z1_1 z1_2 z1_3 z1_4 z2_0 z2_1 z2_2 z2_3 z2_4 HX hb; have HX := n0_; clear n0_; obtain ⟨z0_0, z0_1, z0_2, z0_3, z0_4, z1_0, z1_1, z1_2, z1_3, z1_4, z2_0, z2_1, z2_2, z2_3, z2_4⟩ := ordLaw.Bx.cells HX.out))
                    go_roundg k1
                    case measure => omega
                    case rel => exact ⟨_, (by first | rfl | (simp; done)), ⟨by have := HK.out; omega⟩, HX⟩
                · by_cases n1 : a1_2 = true
                  · rw [if_pos (.inr n1)] at ho'
                    subst ho'
                    subst n1
                    obtain rfl : a0_2 = false := Bool.eq_false_iff.2 n0
                    clear n0
                    as_aux_lemma =>
                      go_wp2_with (first | (go_at_call 10; (with_reducible refine (value_Test.calls k 3 a0_0 a0_1 false a0_3 a0_4 a1_0 a1_1 true a1_3 a1_4 2 0 _ AT.out).mono ?_); rintro e' w9 ⟨rfl, hb⟩; have n0_ := Aside0.mk (HX.out.of_below hb); clear z0_0 z0_1 z0_2 z0_3 z0_4 z1_0 z1_1 z1_2 z1_3 z1_4 z2_0 z2_1 z2_2 z2_3 z2_4 HX hb; have HX := n0_; clear n0_; obtain ⟨z0_0, z0_1, z0_2, z0_3, z0_4, z1_0, z1_1, z1_2, z1_3, z1_4, z2_0, z2_1, z2_2, z2_3, z2_4⟩ := ordLaw.Bx.cells HX.out))
                      go_roundg k1
                      case measure => omega
                      case rel => exact ⟨_, (by first | rfl | (simp; done)), ⟨by have := HK.out; omega⟩, HX⟩
                  · rw [if_neg (fun z => z.elim n0 n1)] at ho'
                    obtain rfl : a0_2 = false := Bool.eq_false_iff.2 n0
                    obtain rfl : a1_2 = false := Bool.eq_false_iff.2 n1
                    clear n0 n1
                    rw [if_pos rfl] at ho'
                    subst ho'
                    as_aux_lemma =>
                      go_wp2_with (first | (go_at_call 10; (with_reducible refine (value_Test.calls k 3 a0_0 a0_1 false a0_3 a0_4 a1_0 a1_1 false a1_3 a1_4 1 0 _ AT.out).mono ?_); rintro e' w9 ⟨rfl, hb⟩; have n0_ := Aside0.mk (HX.out.of_below hb); clear z0_0 z0_1 z0_2 z0_3 z0_4 z1_0 z1_1 z1_2 z1_3 z1_4 z2_0 z2_1 z2_2 z2_3 z2_4 HX hb; have HX := n0_; clear n0_; obtain ⟨z0_0, z0_1, z0_2, z0_3, z0_4, z1_0, z1_1, z1_2, z1_3, z1_4, z2_0, z2_1, z2_2, z2_3, z2_4⟩ := ordLaw.Bx.cells HX.out))
                      go_roundg k1
                      case measure => omega
                      case rel => exact ⟨_, (by first | rfl | (simp; done)), ⟨by have := HK.out; omega⟩, HX⟩
              · have htr : value_Test.tr 3 x = false := by simp [value_Test.tr, g]
                rw [htr] at ho'
                clear htr
                have d1 : decide (x < 0) = false := decide_eq_false g
                clear g
                by_cases n0 : a0_2 = true
                · rw [if_pos (.inl n0)] at ho'
                  subst ho'
                  subst n0
                  as_aux_lemma =>
                    go_wp2_with (first | (go_at_call 10; (with_reducible refine (value_Test.calls k 3 a0_0 a0_1 true a0_3 a0_4 a1_0 a1_1 a1_2 a1_3 a1_4 2 0 _ AT.out).mono ?_); rintro e' w9 ⟨rfl, hb⟩; have n0_ := Aside0.mk (HX.out.of_below hb); clear z0_0 z0_1 z0_2 z0_3 z0_4 z1_0 z1_1 z1_2 z1_3 z1_4 z2_0 z2_1 z2_2 z2_3 z2_4 HX hb; have HX := n0_; clear n0_; obtain ⟨z0_0, z0_1, z0_2, z0_3, z0_4, z1_0, z1_1, z1_2, z1_3, z1_4, z2_0, z2_1, z2_2, z2_3, z2_4⟩ := ordLaw.Bx.cells HX.out))
                    go_roundg k1
                    case measure => omega
                    case rel => exact ⟨_, (by first | rfl | (simp; done)), ⟨by have := HK.out; omega⟩, HX⟩
                · by_cases n1 : a1_2 = true
                  · rw [if_pos (.inr n1)] at ho'
                    subst ho'
                    subst n1
                    obtain rfl : a0_2 = false := Bool.eq_false_iff.2 n0
                    clear n0
                    as_aux_lemma =>
                      go_wp2_with (first | (go_at_call 10; (with_reducible refine (value_Test.calls k 3 a0_0 a0_1 false a0_3 a0_4 a1_0 a1_1 true a1_3 a1_4 2 0 _ AT.out).mono ?_); rintro e' w9 ⟨rfl, hb⟩; have n0_ := Aside0.mk (HX.out.of_below hb); clear z0_0 z0_1 z0_2 z0_3 z0_4 z1_0 z1_1 z1_2 z1_3 z1_4 z2_0 z2_1 z2_2 z2_3 z2_4 HX hb; have HX := n0_; clear n0_; obtain ⟨z0_0, z0_1, z0_2, z0_3, z0_4, z1_0, z1_1, z1_2, z1_3, z1_4, z2_0, z2_1, z2_2, z2_3, z2_4⟩ := ordLaw.Bx.cells HX.out))
                      go_roundg k1
                      case measure => omega
                      case rel => exact ⟨_, (by first | rfl | (simp; done)), ⟨by have := HK.out; omega⟩, HX⟩
                  · rw [if_neg (fun z => z.elim n0 n1)] at ho'
                    obtain rfl : a0_2 = false := Bool.eq_false_iff.2 n0
                    obtain rfl : a1_2 = false := Bool.eq_false_iff.2 n1
                    clear n0 n1
                    rw [if_neg (by decide)] at ho'
                    subst ho'
                    as_aux_lemma =>
                      go_wp2_with (first | (go_at_call 10; (with_reducible refine (value_Test.calls k 3 a0_0 a0_1 false a0_3 a0_4 a1_0 a1_1 false a1_3 a1_4 0 0 _ AT.out).mono ?_); rintro e' w9 ⟨rfl, hb⟩; have n0_ := Aside0.mk (HX.out.of_below hb); clear z0_0 z0_1 z0_2 z0_3 z0_4 z1_0 z1_1 z1_2 z1_3 z1_4 z2_0 z2_1 z2_2 z2_3 z2_4 HX hb; have HX := n0_; clear n0_; obtain ⟨z0_0, z0_1, z0_2, z0_3, z0_4, z1_0, z1_1, z1_2, z1_3, z1_4, z2_0, z2_1, z2_2, z2_3, z2_4⟩ := ordLaw.Bx.cells HX.out))
                      go_roundg k1
                      case measure => omega
                      case rel => exact ⟨_, (by first | rfl | (simp; done)), ⟨by have := HK.out; omega⟩, HX⟩
            · rw [if_neg he] at ho
              have AK := Aside0.mk (of_decide_eq_true ho)
              have e1 : (e == 0) = false := beq_eq_false_iff_ne.2 he
              have e2 : (e != 0) = true := bne_iff_ne.2 he
              clear ho he
              as_aux_lemma =>
                go_wp2_with (first | (go_at_call 10; (with_reducible refine (value_Test.calls k 3 a0_0 a0_1 a0_2 a0_3 a0_4 a1_0 a1_1 a1_2 a1_3 a1_4 t e _ AT.out).mono ?_); rintro e' w9 ⟨rfl, hb⟩; have n0_ := Aside0.mk (HX.out.of_below hb); clear z0_0 z0_1 z0_2 z0_3 z0_4 z1_0 z1_1 z1_2 z1_3 z1_4 z2_0 z2_1 z2_2 z2_3 z2_4 HX hb; have HX := n0_; clear n0_; obtain ⟨z0_0, z0_1, z0_2, z0_3, z0_4, z1_0, z1_1, z1_2, z1_3, z1_4, z2_0, z2_1, z2_2, z2_3, z2_4⟩ := ordLaw.Bx.cells HX.out) | (go_at_call 11; (with_reducible refine (value_Alike.calls a0_0 a0_1 a1_0 a1_1 false _ AK.out).mono ?_); rintro e' w9 ⟨rfl, hb⟩; have n0_ := Aside0.mk (HX.out.of_below hb); clear z0_0 z0_1 z0_2 z0_3 z0_4 z1_0 z1_1 z1_2 z1_3 z1_4 z2_0 z2_1 z2_2 z2_3 z2_4 HX hb; have HX := n0_; clear n0_; obtain ⟨z0_0, z0_1, z0_2, z0_3, z0_4, z1_0, z1_1, z1_2, z1_3, z1_4, z2_0, z2_1, z2_2, z2_3, z2_4⟩ := ordLaw.Bx.cells HX.out))
                go_roundg k1
                case measure => omega
                case rel => exact ⟨_, (by first | rfl | (simp; done)), ⟨by have := HK.out; omega⟩, HX⟩
          · have ho := O4.out
            clear O1 O2 O3 O4 O5 O6
            unfold ordLaw.op at ho
            split at ho
            case h_2 => cases ho
            rename_i t e ht
            have AT := Aside0.mk ht
            clear ht
            by_cases he : e = 0
            · subst he
              rw [if_pos rfl] at ho
              have ho' := of_decide_eq_true ho
              clear ho
              by_cases g : x ≤ 0
              · have htr : value_Test.tr 4 x = true := by simp [value_Test.tr, g]
                rw [htr] at ho'
                clear htr
                have d1 : decide (x ≤ 0) = true := decide_eq_true g
                clear g
                by_cases n0 : a0_2 = true
                · rw [if_pos (.inl n0)] at ho'
                  subst ho'
                  subst n0
                  as_aux_lemma =>
                    go_wp2_with (first | (go_at_call 10; (with_reducible refine (value_Test.calls k 4 a0_0 a0_1 true a0_3 a0_4 a1_0 a1_1 a1_2 a1_3 a1_4 2 0 _ AT.out).mono ?_); rintro e' w9 ⟨rfl, hb⟩; have n0_ := Aside0.mk (HX.out.of_below hb); clear z0_0 z0_1 z0_2 z0_3 z0_4 z1_0 z1_1 z1_2 z1_3 z1_4 z2_0 z2_1 z2_2 z2_3 z2_4 HX hb; have HX := n0_; clear n0_; obtain ⟨z0_0, z0_1, z0_2, z0_3, z0_4, z1_0, z1_1, z1_2, z1_3, z1_4, z2_0, z2_1, z2_2, z2_3, z2_4⟩ := ordLaw.Bx.cells HX.out))
                    go_roundg k1
                    case measure => omega
                    case rel => exact ⟨_, (by first | rfl | (simp; done)), ⟨by have := HK.out; omega⟩, HX⟩
                · by_cases n1 : a1_2 = true
                  · rw [if_pos (.inr n1)] at ho'
                    subst ho'
                    subst n1
                    obtain rfl : a0_2 = false := Bool.eq_false_iff.2 n0
                    clear n0
                    as_aux_lemma =>
                      go_wp2_with (first | (go_at_call 10; (with_reducible refine (value_Test.calls k 4 a0_0 a0_1 false a0_3 a0_4 a1_0 a1_1 true a1_3 a1_4 2 0 _ AT.out).mono ?_); rintro e' w9 ⟨rfl, hb⟩; have n0_ := Aside0.mk (HX.out.of_below hb); clear z0_0 z0_1 z0_2 z0_3 z0_4 z1_0 z1_1 z1_2 z1_3 z1_4 z2_0 z2_1 z2_2 z2_3 z2_4 HX hb; have HX := n0_; clear n0_; obtain ⟨z0_0, z0_1, z0_2, z0_3, z0_4, z1_0, z1_1, z1_2, z1_3, z1_4, z2_0, z2_1, z2_2, z2_3, z2_4⟩ := ordLaw.Bx.cells HX.out))
                      go_roundg k1
                      case measure => omega
                      case rel => exact ⟨_, (by first | rfl | (simp; done)), ⟨by have := HK.out; omega⟩, HX⟩
                  · rw [if_neg (fun z => z.elim n0 n1)] at ho'
                    obtain rfl : a0_2 = false := Bool.eq_false_iff.2 n0
                    obtain rfl : a1_2 = false := Bool.eq_false_iff.2 n1
                    clear n0 n1
                    rw [if_pos rfl] at ho'
                    subst ho'
                    as_aux_lemma =>
                      go_wp2_with (first | (go_at_call 10; (with_reducible refine (value_Test.calls k 4 a0_0 a0_1 false a0_3 a0_4 a1_0 a1_1 false a1_3 a1_4 1 0 _ AT.out).mono ?_); rintro e' w9 ⟨rfl, hb⟩; have n0_ := Aside0.mk (HX.out.of_below hb); clear z0_0 z0_1 z0_2 z0_3 z0_4 z1_0 z1_1 z1_2 z1_3 z1_4 z2_0 z2_1 z2_2 z2_3 z2_4 HX hb; have HX := n0_; clear n0_; obtain ⟨z0_0, z0_1, z0_2, z0_3, z0_4, z1_0, z1_1, z1_2, z1_3, z1_4, z2_0, z2_1, z2_2, z2_3, z2_4⟩ := ordLaw.Bx.cells HX.out))
                      go_roundg k1
                      case measure => omega
                      case rel => exact ⟨_, (by first | rfl | (simp; done)), ⟨by have := HK.out; omega⟩, HX⟩
              · have htr : value_Test.tr 4 x = false := by simp [value_Test.tr, g]
                rw [htr] at ho'
                clear htr
                have d1 : decide (x ≤ 0) = false := decide_eq_false g
                clear g
                by_cases n0 : a0_2 = true
                · rw [if_pos (.inl n0)] at ho'
                  subst ho'
                  subst n0
                  as_aux_lemma =>
                    go_wp2_with (first | (go_at_call 10; (with_reducible refine (value_Test.calls k 4 a0_0 a0_1 true a0_3 a0_4 a1_0 a1_1 a1_2 a1_3 a1_4 2 0 _ AT.out).mono ?_); rintro e' w9 ⟨rfl, hb⟩; have n0_ := Aside0.mk (HX.out.of_below hb); clear z0_0 z0_1 z0_2 z0_3 z0_4 z1_0 z1_1 z1_2 z1_3 z1_4 z2_0 z2_1 z2_2 z2_3 z2_4 HX hb; have HX := n0_; clear n0_; obtain ⟨z0_0, z0_1, z0_2, z0_3, z0_4, z1_0, z1_1, z1_2, z1_3, z1_4, z2_0, z2_1, z2_2, z2_3, z2_4⟩ := ordLaw.Bx.cells HX.out))
                    go_roundg k1
                    case measure => omega
                    case rel => exact ⟨_, (by first | rfl | (simp; done)), ⟨by have := HK.out; omega⟩, HX⟩
                · by_cases n1 : a1_2 = true
                  · rw [if_pos (.inr n1)] at ho'
                    subst ho'
                    subst n1
                    obtain rfl : a0_2 = false := Bool.eq_false_iff.2 n0
                    clear n0
                    as_aux_lemma =>
                      go_wp2_with (first | (go_at_call 10; (with_reducible refine (value_Test.calls k 4 a0_0 a0_1 false a0_3 a0_4 a1_0 a1_1 true a1_3 a1_4 2 0 _ AT.out).mono ?_); rintro e' w9 ⟨rfl, hb⟩; have n0_ := Aside0.mk (HX.out.of_below hb); clear z0_0 z0_1 z0_2 z0_3 z0_4 z1_0 z1_1 z1_2 z1_3 z1_4 z2_0 z2_1 z2_2 z2_3 z2_4 HX hb; have HX := n0_; clear n0_; obtain ⟨z0_0, z0_1, z0_2, z0_3, z0_4, z1_0, z1_1, z1_2, z1_3, z1_4, z2_0, z2_1, z2_2, z2_3, z2_4⟩ := ordLaw.Bx.cells HX.out))
                      go_roundg k1
                      case measure => omega
                      case rel => exact ⟨_, (by first | rfl | (simp; done)), ⟨by have := HK.out; omega⟩, HX⟩
                  · rw [if_neg (fun z => z.elim n0 n1)] at ho'
                    obtain rfl : a0_2 = false := Bool.eq_false_iff.2 n0
                    obtain rfl : a1_2 = false := Bool.eq_false_iff.2 n1
                    clear n0 n1
                    rw [if_neg (by decide)] at ho'
                    subst ho'
                    as_aux_lemma =>
                      go_wp2_with (first | (go_at_call 10; (with_reducible refine (value_Test.calls k 4 a0_0 a0_1 false a0_3 a0_4 a1_0 a1_1 false a1_3 a1_4 0 0 _ AT.out).mono ?_); rintro e' w9 ⟨rfl, hb⟩; have n0_ := Aside0.mk (HX.out.of_below hb); clear z0_0 z0_1 z0_2 z0_3 z0_4 z1_0 z1_1 z1_2 z1_3 z1_4 z2_0 z2_1 z2_2 z2_3 z2_4 HX hb; have HX := n0_; clear n0_; obtain ⟨z0_0, z0_1, z0_2, z0_3, z0_4, z1_0, z1_1, z1_2, z1_3, z1_4, z2_0, z2_1, z2_2, z2_3, z2_4⟩ := ordLaw.Bx.cells HX.out))
                      go_roundg k1
                      case measure => omega
                      case rel => exact ⟨_, (by first | rfl | (simp; done)), ⟨by have := HK.out; omega⟩, HX⟩
            · rw [if_neg he] at ho
              have AK := Aside0.mk (of_decide_eq_true ho)
              have e1 : (e == 0) = false := beq_eq_false_iff_ne.2 he
              have e2 : (e != 0) = true := bne_iff_ne.2 he
              clear ho he
              as_aux_lemma =>
                go_wp2_with (first | (go_at_call 10; (with_reducible refine (value_Test.calls k 4 a0_0 a0_1 a0_2 a0_3 a0_4 a1_0 a1_1 a1_2 a1_3 a1_4 t e _ AT.out).mono ?_); rintro e' w9 ⟨rfl, hb⟩; have n0_ := Aside0.mk (HX.out.of_below hb); clear z0_0 z0_1 z0_2 z0_3 z0_4 z1_0 z1_1 z1_2 z1_3 z1_4 z2_0 z2_1 z2_2 z2_3 z2_4 HX hb; have HX := n0_; clear n0_; obtain ⟨z0_0, z0_1, z0_2, z0_3, z0_4, z1_0, z1_1, z1_2, z1_3, z1_4, z2_0, z2_1, z2_2, z2_3, z2_4⟩ := ordLaw.Bx.cells HX.out) | (go_at_call 11; (with_reducible refine (value_Alike.calls a0_0 a0_1 a1_0 a1_1 false _ AK.out).mono ?_); rintro e' w9 ⟨rfl, hb⟩; have n0_ := Aside0.mk (HX.out.of_below hb); clear z0_0 z0_1 z0_2 z0_3 z0_4 z1_0 z1_1 z1_2 z1_3 z1_4 z2_0 z2_1 z2_2 z2_3 z2_4 HX hb; have HX := n0_; clear n0_; obtain ⟨z0_0, z0_1, z0_2, z0_3, z0_4, z1_0, z1_1, z1_2, z1_3, z1_4, z2_0, z2_1, z2_2, z2_3, z2_4⟩ := ordLaw.Bx.cells HX.out))
                go_roundg k1
                case measure => omega
                case rel => exact ⟨_, (by first | rfl | (simp; done)), ⟨by have := HK.out; omega⟩, HX⟩
          · have ho := O5.out
            clear O1 O2 O3 O4 O5 O6
            unfold ordLaw.op at ho
            split at ho
            case h_2 => cases ho
            rename_i t e ht
            have AT := Aside0.mk ht
            clear ht
            by_cases he : e = 0
            · subst he
              rw [if_pos rfl] at ho
              have ho' := of_decide_eq_true ho
              clear ho
              by_cases g : x > 0
              · have htr : value_Test.tr 5 x = true := by simp [value_Test.tr, g]
                rw [htr] at ho'
                clear htr
                have d1 : decide (0 < x) = true := decide_eq_true g
                clear g
                by_cases n0 : a0_2 = true
                · rw [if_pos (.inl n0)] at ho'
                  subst ho'
                  subst n0
                  as_aux_lemma =>
                    go_wp2_with (first | (go_at_call 10; (with_reducible refine (value_Test.calls k 5 a0_0 a0_1 true a0_3 a0_4 a1_0 a1_1 a1_2 a1_3 a1_4 2 0 _ AT.out).mono ?_); rintro e' w9 ⟨rfl, hb⟩; have n0_ := Aside0.mk (HX.out.of_below hb); clear z0_0 z0_1 z0_2 z0_3 z0_4 z1_0 z1_1 z1_2 z1_3 z1_4 z2_0 z2_1 z2_2 z2_3 z2_4 HX hb; have HX := n0_; clear n0_; obtain ⟨z0_0, z0_1, z0_2, z0_3, z0_4, z1_0, z1_1, z1_2, z1_3, z1_4, z2_0, z2_1, z2_2, z2_3, z2_4⟩ := ordLaw.Bx.cells HX.out))
                    go_roundg k1
                    case measure => omega
                    case rel => exact ⟨_, (by first | rfl | (simp; done)), ⟨by have := HK.out; omega⟩, HX⟩
                · by_cases n1 : a1_2 = true
                  · rw [if_pos (.inr n1)] at ho'
                    subst ho'
                    subst n1
                    obtain rfl : a0_2 = false := Bool.eq_false_iff.2 n0
                    clear n0
                    as_aux_lemma =>
                      go_wp2_with (first | (go_at_call 10; (with_reducible refine (value_Test.calls k 5 a0_0 a0_1 false a0_3 a0_4 a1_0 a1_1 true a1_3 a1_4 2 0 _ AT.out).mono ?_); rintro e' w9 ⟨rfl, hb⟩; have n0_ := Aside0.mk (HX.out.of_below hb); clear z0_0 z0_1 z0_2 z0_3 z0_4 z1_0 z1_1 z1_2 z1_3 z1_4 z2_0 z2_1 z2_2 z2_3 z2_4 HX hb; have HX := n0_; clear n0_; obtain ⟨z0_0, z0_1, z0_2, z0_3, z0_4, z1_0, z1_1, z1_2, z1_3, z1_4, z2_0, z2_1, z2_2, z2_3, z2_4⟩ := ordLaw.Bx.cells HX.out))
                      go_roundg k1
                      case measure => omega
                      case rel => exact ⟨_, (by first | rfl | (simp; done)), ⟨by have := HK.out; omega⟩, HX⟩
                  · rw [if_neg (fun z => z.elim n0 n1)] at ho'
                    obtain rfl : a0_2 = false := Bool.eq_false_iff.2 n0
                    obtain rfl : a1_2 = false := Bool.eq_false_iff.2 n1
                    clear n0 n1
                    rw [if_pos rfl] at ho'
                    subst ho'
                    as_aux_lemma =>
                      go_wp2_with (first | (go_at_call 10; (with_reducible refine (value_Test.calls k 5 a0_0 a0_1 false a0_3 a0_4 a1_0 a1_1 false a1_3 a1_4 1 0 _ AT.out).mono ?_); rintro e' w9 ⟨rfl, hb⟩; have n0_ := Aside0.mk (HX.out.of_below hb); clear z0_0 z0_1 z0_2 z0_3 z0_4 z1_0 z1_1 z1_2 z1_3 z1_4 z2_0 z2_1 z2_2 z2_3 z2_4 HX hb; have HX := n0_; clear n0_; obtain ⟨z0_0, z0_1, z0_2, z0_3, z0_4, z1_0, z1_1, z1_2, z1_3, z1_4, z2_0, z2_1, z2_2, z2_3, z2_4⟩ := ordLaw.Bx.cells HX.out))
                      go_roundg k1
                      case measure => omega
                      case rel => exact ⟨_, (by first | rfl | (simp; done)), ⟨by have := HK.out; omega⟩, HX⟩
              · have htr : value_Test.tr 5 x = false := by simp [value_Test.tr, g]
                rw [htr] at ho'
                clear htr
                have d1 : decide (0 < x) = false := decide_eq_false g
                clear g
                by_cases n0 : a0_2 = true
                · rw [if_pos (.inl n0)] at ho'
                  subst ho'
                  subst n0
                  as_aux_lemma =>
                    go_wp2_with (first | (go_at_call 10; (with_reducible refine (value_Test.calls k 5 a0_0 a0_1 true a0_3 a0_4 a1_0 a1_1 a1_2 a1_3 a1_4 2 0 _ AT.out).mono ?_); rintro e' w9 ⟨rfl, hb⟩; have n0_ := Aside0.mk (HX.out.of_below hb); clear z0_0 z0_1 z0_2 z0_3 z0_4 z1_0 z1_1 z1_2 z1_3 z1_4 z2_0 z2_1 z2_2 z2_3 z2_4 HX hb; have HX := n0_; clear n0_; obtain ⟨z0_0, z0_1, z0_2, z0_3, z0_4, z1_0, z1_1, z1_2, z1_3, z1_4, z2_0, z2_1, z2_2, z2_3, z2_4⟩ := ordLaw.Bx.cells HX.out))
                    go_roundg k1
                    case measure => omega
                    case rel => exact ⟨_, (by first | rfl | (simp; done)), ⟨by have := HK.out; omega⟩, HX⟩
                · by_cases n1 : a1_2 = true
                  · rw [if_pos (.inr n1)] at ho'
                    subst ho'
                    subst n1
                    obtain rfl : a0_2 = false := Bool.eq_false_iff.2 n0
                    clear n0
                    as_aux_lemma =>
                      go_wp2_with (first | (go_at_call 10; (with_reducible refine (value_Test.calls k 5 a0_0 a0_1 false a0_3 a0_4 a1_0 a1_1 true a1_3 a1_4 2 0 _ AT.out).mono ?_); rintro e' w9 ⟨rfl, hb⟩; have n0_ := Aside0.mk (HX.out.of_below hb); clear z0_0 z0_1 z0_2 z0_3 z0_4 z1_0 z1_1 z1_2 z1_3 z1_4 z2_0 z2_1 z2_2 z2_3 z2_4 HX hb; have HX := n0_; clear n0_; obtain ⟨z0_0, z0_1, z0_2, z0_3, z0_4, z1_0, z1_1, z1_2, z1_3, z1_4, z2_0, z2_1, z2_2, z2_3, z2_4⟩ := ordLaw.Bx.cells HX.out))
                      go_roundg k1
                      case measure => omega
                      case rel => exact ⟨_, (by first | rfl | (simp; done)), ⟨by have := HK.out; omega⟩, HX⟩
                  · rw [if_neg (fun z => z.elim n0 n1)] at ho'
                    obtain rfl : a0_2 = false := Bool.eq_false_iff.2 n0
                    obtain rfl : a1_2 = false := Bool.eq_false_iff.2 n1
                    clear n0 n1
                    rw [if_neg (by decide)] at ho'
                    subst ho'
                    as_aux_lemma =>
                      go_wp2_with (first | (go_at_call 10; (with_reducible refine (value_Test.calls k 5 a0_0 a0_1 false a0_3 a0_4 a1_0 a1_1 false a1_3 a1_4 0 0 _ AT.out).mono ?_); rintro e' w9 ⟨rfl, hb⟩; have n0_ := Aside0.mk (HX.out.of_below hb); clear z0_0 z0_1 z0_2 z0_3 z0_4 z1_0 z1_1 z1_2 z1_3 z1_4 z2_0 z2_1 z2_2 z2_3 z2_4 HX hb; have HX := n0_; clear n0_; obtain ⟨z0_0, z0_1, z0_2, z0_3, z0_4, z1_0, z1_1, z1_2, z1_3, z1_4, z2_0, z2_1, z2_2, z2_3, z2_4⟩ := ordLaw.Bx.cells HX.out))
                      go_roundg k1
                      case measure => omega
                      case rel => exact ⟨_, (by first | rfl | (simp; done)), ⟨by have := HK.out; omega⟩, HX⟩
            · rw [if_neg he] at ho
              have AK := Aside0.mk (of_decide_eq_true ho)
              have e1 : (e == 0) = false := beq_eq_false_iff_ne.2 he
              have e2 : (e != 0) = true := bne_iff_ne.2 he
              clear ho he
              as_aux_lemma =>
                go_wp2_with (first | (go_at_call 10; (with_reducible refine (value_Test.calls k 5 a0_0 a0_1 a0_2 a0_3 a0_4 a1_0 a1_1 a1_2 a1_3 a1_4 t e _ AT.out).mono ?_); rintro e' w9 ⟨rfl, hb⟩; have n0_ := Aside0.mk (HX.out.of_below hb); clear z0_0 z0_1 z0_2 z0_3 z0_4 z1_0 z1_1 z1_2 z1_3 z1_4 z2_0 z2_1 z2_2 z2_3 z2_4 HX hb; have HX := n0_; clear n0_; obtain ⟨z0_0, z0_1, z0_2, z0_3, z0_4, z1_0, z1_1, z1_2, z1_3, z1_4, z2_0, z2_1, z2_2, z2_3, z2_4⟩ := ordLaw.Bx.cells HX.out) | (go_at_call 11; (with_reducible refine (value_Alike.calls a0_0 a0_1 a1_0 a1_1 false _ AK.out).mono ?_); rintro e' w9 ⟨rfl, hb⟩; have n0_ := Aside0.mk (HX.out.of_below hb); clear z0_0 z0_1 z0_2 z0_3 z0_4 z1_0 z1_1 z1_2 z1_3 z1_4 z2_0 z2_1 z2_2 z2_3 z2_4 HX hb; have HX := n0_; clear n0_; obtain ⟨z0_0, z0_1, z0_2, z0_3, z0_4, z1_0, z1_1, z1_2, z1_3, z1_4, z2_0, z2_1, z2_2, z2_3, z2_4⟩ := ordLaw.Bx.cells HX.out))
                go_roundg k1
                case measure => omega
                case rel => exact ⟨_, (by first | rfl | (simp; done)), ⟨by have := HK.out; omega⟩, HX⟩
          · have ho := O6.out
            clear O1 O2 O3 O4 O5 O6
            unfold ordLaw.op at ho
            split at ho
            case h_2 => cases ho
            rename_i t e ht
            have AT := Aside0.mk ht
            clear ht
            by_cases he : e = 0
            · subst he
              rw [if_pos rfl] at ho
              have ho' := of_decide_eq_true ho
              clear ho
              by_cases g : x ≥ 0
              · have htr : value_Test.tr 6 x = true := by simp [value_Test.tr, g]
                rw [htr] at ho'
                clear htr
                have d1 : decide (0 ≤ x) = true := decide_eq_true g
                clear g
                by_cases n0 : a0_2 = true
                · rw [if_pos (.inl n0)] at ho'
                  subst ho'
                  subst n0
                  as_aux_lemma =>
                    go_wp2_with (first | (go_at_call 10; (with_reducible refine (value_Test.calls k 6 a0_0 a0_1 true a0_3 a0_4 a1_0 a1_1 a1_2 a1_3 a1_4 2 0 _ AT.out).mono ?_); rintro e' w9 ⟨rfl, hb⟩; have n0_ := Aside0.mk (HX.out.of_below hb); clear z0_0 z0_1 z0_2 z0_3 z0_4 z1_0 z1_1 z1_2 z1_3 z1_4 z2_0 z2_1 z2_2 z2_3 z2_4 HX hb; have HX := n0_; clear n0_; obtain ⟨z0_0, z0_1, z0_2, z0_3, z0_4, z1_0, z1_1, z1_2, z1_3, z1_4, z2_0, z2_1, z2_2, z2_3, z2_4⟩ := ordLaw.Bx.cells HX.out))
                    go_roundg k1
                    case measure => omega
                    case rel => exact ⟨_, (by first | rfl | (simp; done)), ⟨by have := HK.out; omega⟩, HX⟩
                · by_cases n1 : a1_2 = true
                  · rw [if_pos (.inr n1)] at ho'
                    subst ho'
                    subst n1
                    obtain rfl : a0_2 = false := Bool.eq_false_iff.2 n0
                    clear n0
                    as_aux_lemma =>
                      go_wp2_with (first | (go_at_call 10; (with_reducible refine (value_Test.calls k 6 a0_0 a0_1 false a0_3 a0_4 a1_0 a1_1 true a1_3 a1_4 2 0 _ AT.out).mono ?_); rintro e' w9 ⟨rfl, hb⟩; have n0_ := Aside0.mk (HX.out.of_below hb); clear z0_0 z0_1 z0_2 z0_3 z0_4 z1_0 z1_1 z1_2 z1_3 z1_4 z2_0 z2_1 z2_2 z2_3 z2_4 HX hb; have HX := n0_; clear n0_; obtain ⟨z0_0, z0_1, z0_2, z0_3, z0_4, z1_0, z1_1, z1_2, z1_3, z1_4, z2_0, z2_1, z2_2, z2_3, z2_4⟩ := ordLaw.Bx.cells HX.out))
                      go_roundg k1
                      case measure => omega
                      case rel => exact ⟨_, (by first | rfl | (simp; done)), ⟨by have := HK.out; omega⟩, HX⟩
                  · rw [if_neg (fun z => z.elim n0 n1)] at ho'
                    obtain rfl : a0_2 = false := Bool.eq_false_iff.2 n0
                    obtain rfl : a1_2 = false := Bool.eq_false_iff.2 n1
                    clear n0 n1
                    rw [if_pos rfl] at ho'
                    subst ho'
                    as_aux_lemma =>
                      go_wp2_with (first | (go_at_call 10; (with_reducible refine (value_Test.calls k 6 a0_0 a0_1 false a0_3 a0_4 a1_0 a1_1 false a1_3 a1_4 1 0 _ AT.out).mono ?_); rintro e' w9 ⟨rfl, hb⟩; have n0_ := Aside0.mk (HX.out.of_below hb); clear z0_0 z0_1 z0_2 z0_3 z0_4 z1_0 z1_1 z1_2 z1_3 z1_4 z2_0 z2_1 z2_2 z2_3 z2_4 HX hb; have HX := n0_; clear n0_; obtain ⟨z0_0, z0_1, z0_2, z0_3, z0_4, z1_0, z1_1, z1_2, z1_3, z1_4, z2_0, z2_1, z2_2, z2_3, z2_4⟩ := ordLaw.Bx.cells HX.out))
                      go_roundg k1
                      case measure => omega
                      case rel => exact ⟨_, (by first | rfl | (simp; done)), ⟨by have := HK.out; omega⟩, HX⟩
              · have htr : value_Test.tr 6 x = false := by simp [value_Test.tr, g]
                rw [htr] at ho'
                clear htr
                have d1 : decide (0 ≤ x) = false := decide_eq_false g
                clear g
                by_cases n0 : a0_2 = true
                · rw [if_pos (.inl n0)] at ho'
                  subst ho'
                  subst n0
                  as_aux_lemma =>
                    go_wp2_with (first | (go_at_call 10; (with_reducible refine (value_Test.calls k 6 a0_0 a0_1 true a0_3 a0_4 a1_0 a1_1 a1_2 a1_3 a1_4 2 0 _ AT.out).mono ?_); rintro e' w9 ⟨rfl, hb⟩; have n0_ := Aside0.mk (HX.out.of_below hb); clear z0_0 z0_1 z0_2 z0_3 z0_4 z1_0 z1_1 z1_2 z1_3 z1_4 z2_0 z2_1 z2_2 z2_3 z2_4 HX hb; have HX := n0_; clear n0_; obtain ⟨z0_0, z0_1, z0_2, z0_3, z0_4, z1_0, z1_1, z1_2, z1_3, z1_4, z2_0, z2_1, z2_2, z2_3, z2_4⟩ := ordLaw.Bx.cells HX.out))
                    go_roundg k1
                    case measure => omega
                    case rel => exact ⟨_, (by first | rfl | (simp; done)), ⟨by have := HK.out; omega⟩, HX⟩
                · by_cases n1 : a1_2 = true
                  · rw [if_pos (.inr n1)] at ho'
                    subst ho'
                    subst n1
                    obtain rfl : a0_2 = false := Bool.eq_false_iff.2 n0
                    clear n0
                    as_aux_lemma =>
                      go_wp2_with (first | (go_at_call 10; (with_reducible refine (value_Test.calls k 6 a0_0 a0_1 false a0_3 a0_4 a1_0 a1_1 true a1_3 a1_4 2 0 _ AT.out).mono ?_); rintro e' w9 ⟨rfl, hb⟩; have n0_ := Aside0.mk (HX.out.of_below hb); clear z0_0 z0_1 z0_2 z0_3 z0_4 z1_0 z1_1 z1_2 z1_3 z1_4 z2_0 z2_1 z2_2 z2_3 z2_4 HX hb; have HX := n0_; clear n0_; obtain ⟨z0_0, z0_1, z0_2, z0_3, z0_4, z1_0, z1_1, z1_2, z1_3, z1_4, z2_0, z2_1, z2_2, z2_3, z2_4⟩ := ordLaw.Bx.cells HX.out))
                      go_roundg k1
                      case measure => omega
                      case rel => exact ⟨_, (by first | rfl | (simp; done)), ⟨by have := HK.out; omega⟩, HX⟩
                  · rw [if_neg (fun z => z.elim n0 n1)] at ho'
                    obtain rfl : a0_2 = false := Bool.eq_false_iff.2 n0
                    obtain rfl : a1_2 = false := Bool.eq_false_iff.2 n1
                    clear n0 n1
                    rw [if_neg (by decide)] at ho'
                    subst ho'
                    as_aux_lemma =>
                      go_wp2_with (first | (go_at_call 10; (with_reducible refine (value_Test.calls k 6 a0_0 a0_1 false a0_3 a0_4 a1_0 a1_1 false a1_3 a1_4 0 0 _ AT.out).mono ?_); rintro e' w9 ⟨rfl, hb⟩; have n0_ := Aside0.mk (HX.out.of_below hb); clear z0_0 z0_1 z0_2 z0_3 z0_4 z1_0 z1_1 z1_2 z1_3 z1_4 z2_0 z2_1 z2_2 z2_3 z2_4 HX hb; have HX := n0_; clear n0_; obtain ⟨z0_0, z0_1, z0_2, z0_3, z0_4, z1_0, z1_1, z1_2, z1_3, z1_4, z2_0, z2_1, z2_2, z2_3, z2_4⟩ := ordLaw.Bx.cells HX.out))
                      go_roundg k1
                      case measure => omega
                      case rel => exact ⟨_, (by first | rfl | (simp; done)), ⟨by have := HK.out; omega⟩, HX⟩
            · rw [if_neg he] at ho
              have AK := Aside0.mk (of_decide_eq_true ho)
              have e1 : (e == 0) = false := beq_eq_false_iff_ne.2 he
              have e2 : (e != 0) = true := bne_iff_ne.2 he
              clear ho he
              as_aux_lemma =>
                go_wp2_with (first | (go_at_call 10; (with_reducible refine (value_Test.calls k 6 a0_0 a0_1 a0_2 a0_3 a0_4 a1_0 a1_1 a1_2 a1_3 a1_4 t e _ AT.out).mono ?_); rintro e' w9 ⟨rfl, hb⟩; have n0_ := Aside0.mk (HX.out.of_below hb); clear z0_0 z0_1 z0_2 z0_3 z0_4 z1_0 z1_1 z1_2 z1_3 z1_4 z2_0 z2_1 z2_2 z2_3 z2_4 HX hb; have HX := n0_; clear n0_; obtain ⟨z0_0, z0_1, z0_2, z0_3, z0_4, z1_0, z1_1, z1_2, z1_3, z1_4, z2_0, z2_1, z2_2, z2_3, z2_4⟩ := ordLaw.Bx.cells HX.out) | (go_at_call 11; (with_reducible refine (value_Alike.calls a0_0 a0_1 a1_0 a1_1 false _ AK.out).mono ?_); rintro e' w9 ⟨rfl, hb⟩; have n0_ := Aside0.mk (HX.out.of_below hb); clear z0_0 z0_1 z0_2 z0_3 z0_4 z1_0 z1_1 z1_2 z1_3 z1_4 z2_0 z2_1 z2_2 z2_3 z2_4 HX hb; have HX := n0_; clear n0_; obtain ⟨z0_0, z0_1, z0_2, z0_3, z0_4, z1_0, z1_1, z1_2, z1_3, z1_4, z2_0, z2_1, z2_2, z2_3, z2_4⟩ := ordLaw.Bx.cells HX.out))
                go_roundg k1
                case measure => omega
                case rel => exact ⟨_, (by first | rfl | (simp; done)), ⟨by have := HK.out; omega⟩, HX⟩
end Go.Proofs.YtjpgjggbanpegaaDoor.R
