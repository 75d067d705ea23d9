/- schema.at, Lookup, Drop: a directory's rows by name. -/
import Derived.Test.YtmeopdjdjmjngaaGreatDoorRows11
set_option linter.unusedVariables false
set_option linter.unusedSimpArgs false
namespace Go.Proofs.YtmeopdjdjmjngaaGreatDoor.J
open Go.RowKit Go.Lib Go.Proofs.YtmeopdjdjmjngaaGreatDoorW.PrintWords Go.Proofs.YtmeopdjdjmjngaaGreatDoorW.PrintLast Go.Proofs.YtmeopdjdjmjngaaGreatDoorW.PrintMore Go.Proofs.YtmeopdjdjmjngaaGreatDoor.Ins
abbrev Df := S24
def rawC (x : ByteArray × Value) : List Value := [.string x.1, x.2]
theorem getBangR (i : Inhabited (ByteArray × Value)) (l : List (ByteArray × Value)) (j : Nat) (h : j < l.length) (z : ByteArray × Value) : @getElem! (List (ByteArray × Value)) Nat (ByteArray × Value) _ _ i l j = l.getD j z := by
  rw [List.getElem!_eq_getElem?_getD, List.getD_eq_getElem?_getD, List.getElem?_eq_getElem h]
  rfl
theorem plainR {w : World} {b o : Nat} {sp : Option Nat} {v : Value} (h : w.cell? ⟨b, o, sp⟩ = some v) : sp = none ∧ b < w.heap.size := by
  unfold World.cell? at h
  cases ho : w.heap[b]? with
  | none => simp [ho] at h
  | some ob =>
    refine ⟨?_, (Array.getElem?_eq_some_iff.1 ho).1⟩
    cases ob <;> simp [ho] at h
    cases sp with
    | none => rfl
    | some q => simp at h
/-- the rows' raw cells, a pair a row -/
theorem raws_of {w : World} {A : Option Addr} {l : List Df} (h : Kd.C k24 w A l.length l) (hl : 0 < l.length) : ∃ b off, A = some ⟨b, off, none⟩ ∧ b < w.heap.size ∧ ∃ raws : List (ByteArray × Value), raws.map (·.1) = l.map (·.f0) ∧
    ∀ j, j < raws.length → ∀ i v, (rawC (raws.getD j (ByteArray.empty, .bool false)))[i]? = some v → w.cell? ⟨b, off + j * 2 + i, none⟩ = some v := by
  obtain ⟨ad, A1, c1, e0, h0, _⟩ := at_T24 h 0 (by omega) (by omega)
  obtain ⟨b, off, sp⟩ := ad
  obtain ⟨rfl, hb⟩ := plainR h0
  refine ⟨b, off, e0, hb, ?_⟩
  have hf : ∀ j : Fin l.length, ∃ v : Value, w.cell? ⟨b, off + j.val * 2, none⟩ = some (.string (l[j.val]).f0) ∧ w.cell? ⟨b, off + j.val * 2 + 1, none⟩ = some v := by
    intro j
    obtain ⟨ad, A1, c1, e1, h1, h2, _⟩ := at_T24 h (j.val : Int) (by omega) (by omega)
    obtain rfl := Option.some.inj (e0.symm.trans e1)
    unfold rd_T24 at h1 h2
    rw [show ((j.val : Int).toNat) = j.val from rfl] at h1 h2
    rw [show (⟨b, off, none⟩ : Addr).add (j.val * 2) = ⟨b, off + j.val * 2, none⟩ from by unfold Addr.add; first | rfl | (simp; done) | (split <;> simp_all)] at h1 h2
    rw [List.getD_eq_getElem?_getD, List.getElem?_eq_getElem j.isLt] at h1 h2
    exact ⟨_, h1, h2⟩
  have hg : ∃ g : Fin l.length → Value, ∀ j, w.cell? ⟨b, off + j.val * 2, none⟩ = some (.string (l[j.val]).f0) ∧ w.cell? ⟨b, off + j.val * 2 + 1, none⟩ = some (g j) := ⟨fun j => (hf j).choose, fun j => (hf j).choose_spec⟩
  obtain ⟨g, hg⟩ := hg
  refine ⟨List.ofFn fun j : Fin l.length => ((l[j.val]).f0, g j), ?_, ?_⟩
  · rw [List.map_ofFn]
    apply List.ext_getElem
    · simp
    · intro i h1 h2; simp
  · intro j hj i v hi
    rw [List.length_ofFn] at hj
    have eq : (List.ofFn fun j : Fin l.length => ((l[j.val]).f0, g j)).getD j (ByteArray.empty, .bool false) = ((l[j]).f0, g ⟨j, hj⟩) := by
      rw [List.getD_eq_getElem?_getD, List.getElem?_eq_getElem (show j < (List.ofFn fun j : Fin l.length => ((l[j.val]).f0, g j)).length by rw [List.length_ofFn]; exact hj), Option.getD_some, List.getElem_ofFn]
    rw [eq] at hi
    unfold rawC at hi
    obtain ⟨g1, g2⟩ := hg ⟨j, hj⟩
    match i, hi with
    | 0, hi => rw [← Option.some.inj hi]; exact g1
    | 1, hi => rw [← Option.some.inj hi]; exact g2
    | i + 2, hi => simp at hi
theorem ix_map {α β : Type} (f : α → β) (q : β → Bool) (za : α) (zb : β) : ∀ (l : List α) (i : Nat), Lib.idxByFrom (fun _ y => q (f y)) za l i = Lib.idxByFrom (fun _ y => q y) zb (l.map f) i
  | [], _ => rfl
  | y :: r, i => by
    rw [List.map_cons, Lib.idxByFrom, Lib.idxByFrom, ix_map f q za zb r]
/-- the place of the first name that is so -/
def ixN (q : ByteArray → Bool) (l : List Df) : Int := Lib.idxByFrom (fun _ (s : ByteArray) => q s) ByteArray.empty (l.map (·.f0)) 0
set_option maxHeartbeats 4000000 in
theorem idxD0 (g : Nat) (lb : Array Value) (A : Option Addr) (c : Nat) (w : World) :
    Calls Tryz.prog 61 #[.slice A 0 c, .func (.func g) #[] lb] w fun e w' => e = .returned (.int .i64 (-1)) ∧ Below w.heap.size w w' := by
  have hb := Aside0.mk (Below.refl w.heap.size w)
  go_enter Tryz.func61, Tryz.ntmps61
  go_wp2
  go_loopg [8] 1 (fun kq v w' => v = .int .i64 0 ∧ Aside0 (Below w.heap.size w w'))
  case atStart => exact ⟨rfl, hb⟩
  case round =>
    obtain ⟨rfl, HB⟩ := hrel
    go_wp2
    go_ret
    exact ⟨rfl, HB.out⟩
theorem idxD (g : Nat) (lb : Array Value) (eg : ∀ args w, (callFunc g args).run Tryz.prog w = .ok (.enter g args) w) (q : ByteArray → Bool) (A : Option Addr) (c : Nat) (l : List Df) (w : World) (hr : Kd.C k24 w A l.length l) (hbig : l.length ≤ 9223372036854775807)
    (hp : ∀ (W : World) (x : ByteArray × Value), Below w.heap.size w W → Calls Tryz.prog g (#[.agg (rawC x).toArray] ++ lb) W fun e w' => e = .returned (.bool (q x.1)) ∧ Below w.heap.size w w') :
    Calls Tryz.prog 61 #[.slice A l.length c, .func (.func g) #[] lb] w fun e w' => e = .returned (.int .i64 (ixN q l)) ∧ Below w.heap.size w w' := by
  by_cases hl : 0 < l.length
  · obtain ⟨b, off, rfl, hb, raws, hm, hc⟩ := raws_of hr hl
    have hlen : raws.length = l.length := by have := congrArg List.length hm; simpa using this
    have := @AnyQ.slices_IndexFunc Tryz.prog Tryz.laysQ61_ren (ByteArray × Value) ⟨(ByteArray.empty, .bool false)⟩ Tryz.laysQ61 2 Tryz.isAgg24 Tryz.sizeOf24 rawC (fun _ => rfl) (fun x => q x.1) g lb eg b off l.length c raws w hp (by omega) hbig hb (fun j hj i v hi => hc j hj i v (by rw [getBangR ⟨(ByteArray.empty, .bool false)⟩ raws j hj (ByteArray.empty, .bool false)] at hi; exact hi))
    rw [← hlen, List.take_length, hlen] at this
    have e : Lib.idxBy (fun _ (y : ByteArray × Value) => q y.1) raws (@default (ByteArray × Value) ⟨(ByteArray.empty, .bool false)⟩) = ixN q l := by
      unfold Lib.idxBy ixN
      rw [ix_map (fun x : ByteArray × Value => x.1) q _ ByteArray.empty, hm]
    rw [e] at this
    exact this
  · obtain rfl := List.eq_nil_of_length_eq_zero (show l.length = 0 by omega)
    exact idxD0 g lb A c w
theorem at_lit (name : ByteArray) (B : Nat) (w : World) (hB : B < w.heap.size) (hcell : w.cell? ⟨B, 0, none⟩ = some (.string name)) (W : World) (x : ByteArray × Value) (hb : Below w.heap.size w W) :
    Calls Tryz.prog 106 (#[.agg (rawC x).toArray] ++ #[.pointer (some ⟨B, 0, none⟩)]) W fun e w' => e = .returned (.bool (x.1.toList == name.toList)) ∧ Below w.heap.size w w' := by
  have hc : W.cell? ⟨B, 0, none⟩ = some (.string name) := (hb.cell (p := ⟨B, 0, none⟩) hB).trans hcell
  have hBW : B < W.heap.size := Nat.lt_of_lt_of_le hB hb.size
  have hne : B ≠ W.heap.size := by omega
  have HB := Aside0.mk hb
  obtain ⟨s, v⟩ := x
  show Calls Tryz.prog 106 #[.agg #[.string s, v], .pointer (some ⟨B, 0, none⟩)] W _
  go_enter Tryz.func106, Tryz.ntmps106
  go_wp2
  go_ret
  exact ⟨rfl, below_alloc HB.out _⟩
def atI (l : List Df) (name : ByteArray) : Int := ixN (fun s => s.toList == name.toList) l
set_option maxHeartbeats 8000000 in
set_option maxRecDepth 100000 in
theorem at_calls (A : Option Addr) (c : Nat) (l : List Df) (name : ByteArray) (w : World) (hr : Kd.C k24 w A l.length l) (hl : l.length ≤ 9223372036854775807) :
    Calls Tryz.prog 60 #[.slice A l.length c, .string name] w fun e w' => e = .returned (.int .i64 (atI l name)) ∧ Below w.heap.size w w' := by
  have eg : ∀ args w, (callFunc 106 args).run Tryz.prog w = .ok (.enter 106 args) w := enters_of Tryz.func106 (by kernel_rfl) rfl
  let W0 : World := w.alloc (.cells #[.string name] 9)
  have hW : Below w.heap.size w W0 := below_alloc (Below.refl _ _) _
  have hcon := idxD 106 #[.pointer (some ⟨w.heap.size, 0, none⟩)] eg (fun s => s.toList == name.toList) A c l W0 (Kd.C_below hr hW) hl
    (fun W x hb => at_lit name w.heap.size W0 (by simp [W0]) (by simp [W0]) W x hb)
  have hcon2 := Aside0.mk (hcon.mono (fun e w' (z : _ ∧ _) => (⟨z.1, hW.trans (z.2.mono hW.size)⟩ : e = .returned (.int .i64 (atI l name)) ∧ Below w.heap.size w w')))
  clear hcon
  generalize atI l name = i at hcon2 ⊢
  clear hl hr eg
  go_enter Tryz.func60, Tryz.ntmps60
  go_wp2_with (go_at_call 61; refine hcon2.out.mono ?_; rintro e w1 ⟨rfl, hb⟩; have HB := Aside0.mk hb; clear hb)
  go_ret
  exact ⟨rfl, HB.out⟩
end Go.Proofs.YtmeopdjdjmjngaaGreatDoor.J
