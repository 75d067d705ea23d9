/- LexPlaces: the law's walk: true, where the tokens stand as the law says. Conditions: those of the theorem. -/
import Derived.Test.YtmpamcfeijnafaaDoorLexIterE
import Derived.Maps.OwnIn
import Derived.Test.YtmpamcfeijnafaaDoorP3
namespace Go.Proofs.YtmpamcfeijnafaaDoor.P
open Go.RowKit Go.Proofs.YtmpamcfeijnafaaDoor.Iter Go.Proofs.YtmpamcfeijnafaaDoorW.PrintWords Go.Proofs.YtmpamcfeijnafaaDoorW.PrintLast Go.Proofs.YtmpamcfeijnafaaDoorW.PrintMore
attribute [local go_sem] Oper.semAt_some

def placesLaw.last : Int → List Tk → Int
  | z, [] => z
  | _, x :: r => placesLaw.last x.f2 r
theorem placesLaw.last_snoc : ∀ (z : Int) (l : List Tk) (x : Tk), placesLaw.last z (l ++ [x]) = x.f2
  | _, [], _ => rfl
  | _, y :: l, x => placesLaw.last_snoc y.f2 l x
theorem placesLaw.info : (Tryd.prog.info? 25).map (fun i => (i.zero, i.size, i.bytes)) = some (some (.agg #[.int .i64 0, .string ⟨#[]⟩, .int .i64 0]), 3, 32) := by kernel_rfl
theorem placesLaw.box_below {W W' : World} {b : Nat} {t : TypeId} {v : Value} (h : Boxed W b t v) (hb : Below W.heap.size W W') : Boxed W' b t v := (hb.block b h.lt).trans h
/-- what holds between rounds -/
def placesLaw.I (w : World) (a0 : ByteArray) (b3 : Nat) (xs : List Tk) (E : Nat) (pre : List (Mem xs)) (W : World) : Prop :=
  (Boxed W w.heap.size 9 (.string a0) ∧ Boxed W (w.heap.size + 1) 4 (.bool false) ∧ Boxed W b3 3 (.int .i64 (placesLaw.last (-1) (pre.map (·.1)))) ∧
    ∃ v, Boxed W (b3 + 1) 22 v ∧ Kd.R kTk 25 W w.heap.size (fun _ => True) v (pre.map (·.1)) ∧ ∀ r, v.ownBlock = some r → E ≤ r) ∧ Below w.heap.size w W
theorem placesLaw.I_own (w : World) (a0 : ByteArray) (b3 : Nat) (xs : List Tk) (E B : Nat) (hB : w.heap.size ≤ B) : OwnFrom B (placesLaw.I w a0 b3 xs E) := by
  rintro s X Y row ⟨⟨h0, h1, h3, v, h4, hR, hE⟩, hb⟩ hg hr
  have hr' : ∀ r, row = some r → ∃ o : Obj, X.heap[r]? = some o ∧ o.isCells = false := fun r e => (hr r e).2
  have box : ∀ {b : Nat} {t : TypeId} {u : Value}, Boxed X b t u → Boxed Y b t u := fun h => (grownBy_keeps_cells hg hr' h rfl).trans h
  exact ⟨⟨box h0, box h1, box h3, v, box h4, Kd_up hR (cells_grown hg hr'), hE⟩, ownFrom_below (Nat.le_refl _) hB s X Y row hb hg hr⟩
def placesLaw.Ix (w : World) (xs : List Tk) (c : Code) (pre : List (Mem xs)) (W : World) : Prop := ¬ pre <+: xs.attach ∧ Below w.heap.size w W
theorem placesLaw.Ix_own (w : World) (xs : List Tk) (c : Code) (B : Nat) (hB : w.heap.size ≤ B) : OwnFrom B (placesLaw.Ix w xs c) := fun s X Y row hs hg hr => ⟨hs.1, ownFrom_below (Nat.le_refl _) hB s X Y row hs.2 hg hr⟩
/-- a round's frame -/
def placesLaw.fr (a0 : ByteArray) (g b3 bT : Nat) (t5 t22 : Value) : Array Value :=
  #[.string a0, .pointer (some ⟨g, 0, none⟩), .pointer (some ⟨g + 1, 0, none⟩), .pointer (some ⟨b3, 0, none⟩), .pointer (some ⟨b3 + 1, 0, none⟩), t5, undef, undef, undef, undef, undef, undef, .bool true, .bool false, .bool false, .string a0, .int .i64 a0.size, .bool false, .bool false, undef, .string a0,
    .func (.func 23) #[] #[.pointer (some ⟨bT, 0, none⟩)], t22, undef, undef, undef, undef, undef, undef, undef, undef, undef, undef, undef, undef, undef, undef, undef, undef, undef, undef, undef, undef, undef, undef, undef, undef, undef, undef, undef, undef, undef, undef, undef, undef, undef, undef, undef, undef, undef, undef, undef, undef, undef, undef, undef, undef, undef, undef, undef, undef, undef, undef, undef, undef, undef, undef, undef, undef, undef, undef, undef, undef, undef, undef, undef, undef, undef, undef, undef, undef, undef, undef]

set_option maxRecDepth 100000 in
set_option maxHeartbeats 16000000 in
theorem placesLaw.main (k : Nat) (a0 : ByteArray) (xs : List Tk) (hz : a0.size ≤ 65536) (hall : allOf k a0 = some xs) (hchk : ∀ x ∈ xs, lex_Check.f k x.f0 x.f1 x.f2 = some 0) (hin : ∀ x ∈ xs, x.f2 < (a0.size : Int))
    (hord : ∀ (pre : List (Mem xs)) (x : Mem xs), pre ++ [x] <+: xs.attach → placesLaw.last (-1) (pre.map (·.1)) < x.1.f2) (hlen : xs.length ≤ 65536) (hbeg : colonnadelaw16_begun.f k = some true)
    (hfin : (∃ m, lex_Tokens.f k a0 = some (m, 0, 0) ∧ api_Token.f k xs m = some true) ∨ ∃ (p : Nat) (q : List Tk) (q2 : Int), lex_Tokens.f k a0 = some ([], (p : Int), 160) ∧ placesLaw.last (-1) xs < (p : Int) ∧ p < a0.size ∧ lex_Tokens.f k (a0.extract 0 p) = some (q, q2, 0) ∧ api_Token.f k q xs = some true) (w : World) (hG : Gl w) :
    Calls Tryd.prog 5 #[.string a0] w fun e w' => e = .returned (.bool true) ∧ Below w.heap.size w w' := by
  have c1 : decide (65536 < (a0.size : Int)) = false := decide_eq_false (by omega)
  have c2 : decide (65536 < a0.size) = false := decide_eq_false (by omega)
  have HALL := Aside0.mk hall
  have HCHK := Aside0.mk hchk
  have HIN := Aside0.mk hin
  have HORD := Aside0.mk hord
  have HBEG := Aside0.mk hbeg
  have HG := Aside0.mk hG
  have HFIN := Aside0.mk hfin
  clear hall hchk hin hord hbeg hG hfin
  refine (callsIn_wide (n := 9)).1 ?_
  refine callsIn_of_wp_marks Tryd.func5 rfl trivial ?_ rfl
  simp only [Tryd.ntmps5, List.size_toArray, List.length_cons, List.length_nil, Nat.reduceAdd, Nat.reduceSub, Array.replicate_succ, Array.replicate_zero, List.push_toArray, List.append_toArray, List.nil_append, List.cons_append]
  have e0 := (Boxed.new w 9 (.string a0)).alloc (.cells #[.bool false] 4)
  have e1 := Boxed.new (w.alloc (.cells #[.string a0] 9)) 4 (.bool false)
  simp only [World.size_alloc] at e1
  have hB0 : Below w.heap.size w ((w.alloc (.cells #[.string a0] 9)).alloc (.cells #[.bool false] 4)) := ((Below.refl _ w).alloc (Nat.le_refl _) _).alloc (by simp) _
  have E0 := Aside0.mk e0
  have E1 := Aside0.mk e1
  have HB0 := Aside0.mk hB0
  clear e0 e1 hB0
  gi_wp2_with first | (refine ⟨trivial, ?_⟩; gi_at_call 6; refine (callsIn_wide.2 (colonnadelaw16_begun.calls k true _ HBEG.out)).mono ?_; rintro e w1 ⟨rfl, hb1⟩; have B0 := Aside0.mk (placesLaw.box_below E0.out hb1); have B1 := Aside0.mk (placesLaw.box_below E1.out hb1); have HB := Aside0.mk (HB0.out.trans (hb1.mono HB0.out.size)); clear hb1 E0 E1 HB0; have hcA := B0.out.cell; have hcB := ((B0.out.alloc (.cells #[.int .i64 (-1)] 3)).alloc (.cells #[.slice none 0 0] 22)).cell) | (refine ⟨trivial, ?_⟩; gi_at_call 14; refine (callsIn_wide.2 (all_calls a0 _)).mono ?_; rintro e w2 ⟨rfl, rfl⟩)
  have hs1 : w.heap.size + 1 < w1.heap.size := B1.out.lt
  have q0 := ((B0.out.alloc (.cells #[.int .i64 (-1)] 3)).alloc (.cells #[.slice none 0 0] 22)).alloc (.cells #[.string a0] 9)
  have q1 := ((B1.out.alloc (.cells #[.int .i64 (-1)] 3)).alloc (.cells #[.slice none 0 0] 22)).alloc (.cells #[.string a0] 9)
  have q3 := ((Boxed.new w1 3 (.int .i64 (-1))).alloc (.cells #[.slice none 0 0] 22)).alloc (.cells #[.string a0] 9)
  have q4 := (Boxed.new (w1.alloc (.cells #[.int .i64 (-1)] 3)) 22 (.slice none 0 0)).alloc (.cells #[.string a0] 9)
  have q5 := Boxed.new ((w1.alloc (.cells #[.int .i64 (-1)] 3)).alloc (.cells #[.slice none 0 0] 22)) 9 (.string a0)
  simp only [World.size_alloc] at q4 q5
  have hV := ((HB.out.alloc HB.out.size (.cells #[.int .i64 (-1)] 3)).alloc (by have := HB.out.size; simp; omega) (.cells #[.slice none 0 0] 22)).alloc (by have := HB.out.size; simp; omega) (.cells #[.string a0] 9)
  have hszV : (((w1.alloc (.cells #[.int .i64 (-1)] 3)).alloc (.cells #[.slice none 0 0] 22)).alloc (.cells #[.string a0] 9)).heap.size = w1.heap.size + 1 + 1 + 1 := by simp
  obtain ⟨V, hVe⟩ : ∃ V, ((w1.alloc (.cells #[.int .i64 (-1)] 3)).alloc (.cells #[.slice none 0 0] 22)).alloc (.cells #[.string a0] 9) = V := ⟨_, rfl⟩
  try simp only [World.size_alloc]
  rw [hVe] at q0 q1 q3 q4 q5 hV hszV ⊢
  clear hVe hcA hcB B0 B1 HB
  obtain ⟨b3, hb3⟩ : ∃ b3, w1.heap.size = b3 := ⟨_, rfl⟩
  rw [hb3] at q3 q4 q5 hszV hs1 ⊢
  clear hb3
  have hwV : w.heap.size ≤ V.heap.size := hV.size
  refine rangeE (n := 9) (gf := 23) (lb := #[.pointer (some ⟨b3 + 1 + 1, 0, none⟩)]) rfl (enters_of Tryd.func23 (by kernel_rfl) rfl)
    (all_upE k a0 xs HALL.out (b3 + 1 + 1) V q5.lt q5.cell) (Below.refl _ _) (fun _ => rfl)
    (placesLaw.I w a0 b3 xs) (placesLaw.Ix w xs) (fun E => placesLaw.I_own w a0 b3 xs E _ hwV) (fun c => placesLaw.Ix_own w xs c _ hwV)
    (fun E => ⟨⟨q0, q1, q3, .slice none 0 0, q4, Kd.R_nil _ _ _ _ _, fun r h => by simp [Value.ownBlock] at h⟩, hV⟩)
    (fun x a' W => ∃ Bx, b3 + 1 < Bx ∧ W.heap[Bx]? = some (.cells #[.int .i64 x.1.f0, .string x.1.f1, .int .i64 x.1.f2] 25 (0, 0)) ∧ a' = { tmps := placesLaw.fr a0 w.heap.size b3 (b3 + 1 + 1) (.pointer (some ⟨Bx, 0, none⟩)) (tkV x.1), defers := [] })
    (fun x a' _ X Y row hs hg hr => by
      obtain ⟨Bx, h0, h1, h2⟩ := hs
      exact ⟨Bx, h0, (grownBy_keeps_cells hg (fun r e => (hr r e).2) h1 rfl).trans h1, h2⟩)
    ?assign ?body ?done ?stop
  case assign =>
    rintro E l pre x W K ⟨⟨b0, b1, b3', v, b4, hR, hE⟩, hB⟩ hK
    simp only [tkV]
    gi_wp2
    have ha := (Below.refl W.heap.size W).alloc (Nat.le_refl _) (.cells #[.int .i64 x.1.f0, .string x.1.f1, .int .i64 x.1.f2] 25)
    exact hK _ _ (KeepsE.alloc _ _ _ _) ⟨⟨b0.alloc _, b1.alloc _, b3'.alloc _, v, b4.alloc _, Kd.R_below hR ha, hE⟩, hB.alloc hB.size _⟩ ⟨W.heap.size, b4.lt, World.alloc_heap_new W _, rfl⟩
  case body =>
    rintro E l pre ⟨x, hx⟩ a' W hl2 hE0 hEW ⟨⟨b0, b1, b3', v, b4, hR, hE⟩, hB⟩ ⟨Bx, hBx, hbx, rfl⟩ hlt
    have hch := HCHK.out x hx
    have hi := HIN.out x hx
    simp only at hbx
    have t0 : W.cell? ⟨Bx, 0, none⟩ = some (.int .i64 x.f0) := by simp [World.cell?, hbx]
    have t1 : W.cell? ⟨Bx, 1, none⟩ = some (.string x.f1) := by simp [World.cell?, hbx]
    have t2 : W.cell? ⟨Bx, 2, none⟩ = some (.int .i64 x.f2) := by simp [World.cell?, hbx]
    have d0 := b0.cell
    have d3 := b3'.cell
    have f1 := b1.frozen
    have d1 := b1.cell
    obtain ⟨z, hzz⟩ : ∃ z, placesLaw.last (-1) (pre.map (·.1)) = z := ⟨_, rfl⟩
    rw [hzz] at d3
    have l2 : decide ((a0.size : Int) ≤ x.f2) = false := decide_eq_false (by omega)
    by_cases hle : x.f2 ≤ z
    · have hnp : ¬ pre ++ [(⟨x, hx⟩ : Mem xs)] <+: xs.attach := fun hp => by
        have := HORD.out pre ⟨x, hx⟩ hp
        rw [hzz] at this
        simp only at this
        omega
      have HNP := Aside0.mk hnp
      have l1 : decide (x.f2 ≤ z) = true := decide_eq_true hle
      clear hnp hle hi hzz
      simp only [placesLaw.fr]
      gi_wp2
      refine ⟨trivial, ?_⟩
      gi_wp2
      exact ⟨KeepsE.setCell _ _ (by show w.heap.size + 1 < _; omega), HNP.out, hB.setCell (p := ⟨w.heap.size + 1, 0, none⟩) (by show w.heap.size ≤ w.heap.size + 1; omega) _⟩
    · have l1 : decide (x.f2 ≤ z) = false := decide_eq_false hle
      have HCH := Aside0.mk hch
      have HZZ := Aside0.mk hzz
      have HGW := Aside0.mk (Gl.of HG.out hB)
      clear hle hi hzz hch
      simp only [placesLaw.fr]
      obtain ⟨i0, hi0, hz0, hz1, hz2⟩ := info_parts placesLaw.info
      gi_wp2
      refine ⟨trivial, ?_⟩
      gi_at_call 7
      refine (CallsIn.inRound l (callsIn_wide.2 (lex_Check.calls k x.f0 x.f1 x.f2 0 _ HCH.out HGW.out))).mono ?_
      rintro e w3 ⟨rfl, hb⟩
      have m0 := placesLaw.box_below b0 hb
      have m1 := placesLaw.box_below b1 hb
      have m3 := placesLaw.box_below b3' hb
      have m4 := placesLaw.box_below b4 hb
      have mx := (hb.block Bx (Array.getElem?_eq_some_iff.1 hbx).1).trans hbx
      have HB3 := Aside0.mk (hB.trans (hb.mono hB.size))
      have HK3 := Aside0.mk (KeepsE.of_below (B := V.heap.size) (E := E) hb)
      have hsz3 := hb.size
      have mx' := (Below.heap_setCell w3 ⟨b3, 0, none⟩ (.int .i64 x.f2) Bx (by show Bx ≠ b3; omega)).trans mx
      have g3 := m3.cell
      have f3 := m3.frozen
      have y0 : (w3.setCell ⟨b3, 0, none⟩ (.int .i64 x.f2)).cell? ⟨Bx, 0, none⟩ = some (.int .i64 x.f0) := by simp [World.cell?, mx']
      have y1 : (w3.setCell ⟨b3, 0, none⟩ (.int .i64 x.f2)).cell? ⟨Bx, 1, none⟩ = some (.string x.f1) := by simp [World.cell?, mx']
      have y2 : (w3.setCell ⟨b3, 0, none⟩ (.int .i64 x.f2)).cell? ⟨Bx, 2, none⟩ = some (.int .i64 x.f2) := by simp [World.cell?, mx']
      have x2 : w3.cell? ⟨Bx, 2, none⟩ = some (.int .i64 x.f2) := by simp [World.cell?, mx]
      have x0 : w3.cell? ⟨Bx, 0, none⟩ = some (.int .i64 x.f0) := by simp [World.cell?, mx]
      have x1 : w3.cell? ⟨Bx, 1, none⟩ = some (.string x.f1) := by simp [World.cell?, mx]
      have k4 := Boxed.other m4 (B' := b3) (by omega) (.int .i64 x.f2)
      have g4 := k4.cell
      have hR4 := Kd.R_mono (Kd.R_far (p := ⟨b3, 0, none⟩) (Kd.R_types (Kd.R_below hR hb) m3 (by decide)) (fun _ hk => hk.2) (.int .i64 x.f2)) (ok' := fun _ => True) (fun _ _ => trivial)
      have hR5 := Kd.R_below hR4 ((Below.refl _ _).alloc (Nat.le_refl _) (.cells #[.int .i64 x.f0, .string x.f1, .int .i64 x.f2] 25))
      obtain ⟨h0_, inner, hown, hr_⟩ := hR5
      have HR_ := Aside0.mk hr_
      have HH_ := Aside0.mk h0_
      have M0 := Aside0.mk m0
      have M1 := Aside0.mk m1
      have M3 := Aside0.mk m3
      have K4 := Aside0.mk k4
      have HOWN : Aside0 (World.ownsRow ((w3.setCell ⟨b3, 0, none⟩ (.int .i64 x.f2)).alloc (.cells #[.int .i64 x.f0, .string x.f1, .int .i64 x.f2] 25)) w.heap.size 25 3 v (pre.map (fun x : Mem xs => x.1)).length inner) := ⟨hown⟩
      have hn1 : (pre.map (fun x : Mem xs => x.1)).length ≤ 65536 := by (rw [List.length_map]; have := hlt; rw [List.length_attach] at this; omega)
      clear hr_ h0_ m0 m1 m3 m4 k4 mx mx' hR4 hown hb
      gi_wp2_with (gi_at_builtin; refine wpListIn_append_own_at _ rfl _ _ 22 rfl w.heap.size 25 i0 (.agg #[.int .i64 0, .string ⟨#[]⟩, .int .i64 0]) 3 32 Tryd.underlying22 hi0 hz0 hz1 hz2 rfl (by decide) v (pre.map (fun x : Mem xs => x.1)).length inner rfl HOWN.out ⟨w3.heap.size, 0, none⟩ 1 1 [.int .i64 x.f0, .string x.f1, .int .i64 x.f2] rfl rfl ?c1 ?c2 ?c3 ?c4 ?c5 ?_; (case c1 => simpa using World.news_of_block (cs := #[.int .i64 x.f0, .string x.f1, .int .i64 x.f2]) (t := 25) (fr := (0, 0)) (World.alloc_heap_new (w3.setCell ⟨b3, 0, none⟩ (.int .i64 x.f2)) (.cells #[.int .i64 x.f0, .string x.f1, .int .i64 x.f2] 25))); (case c2 => simp [Value.oneCell']); (case c3 => unfold maxLen; omega); (case c4 => omega); (case c5 => have := HB3.out.size; simp; omega); intro v5 w5 hown5 hg5 _ hat5; obtain ⟨ao, n5, cc5, rfl⟩ : ∃ ao n5 cc5, v5 = .slice ao n5 cc5 := (by rcases hown5.2 with ⟨hv, _⟩ | ⟨g, cap, cur, hv, _⟩ <;> exact ⟨_, _, _, hv⟩); have P4 := Aside0.mk ((K4.out.alloc (.cells #[.int .i64 x.f0, .string x.f1, .int .i64 x.f2] 25)).kept hg5 (Boxed.not_row (K4.out.alloc (.cells #[.int .i64 x.f0, .string x.f1, .int .i64 x.f2] 25)) (by decide) HOWN.out)); have HO5 : Aside0 (w5.ownsRow w.heap.size 25 3 (.slice ao n5 cc5) ((pre.map (fun x : Mem xs => x.1)).length + 1) (inner ++ [.int .i64 x.f0, .string x.f1, .int .i64 x.f2])) := ⟨by simpa using hown5⟩; have HG5 := Aside0.mk hg5; have HAT := Aside0.mk hat5; clear hown5 hg5 hat5; have g5 := P4.out.cell; have f5 := P4.out.frozen)
      have ne0 := Boxed.not_row ((Boxed.other M0.out (B' := b3) (by omega) (.int .i64 x.f2)).alloc (.cells #[.int .i64 x.f0, .string x.f1, .int .i64 x.f2] 25)) (by decide) HOWN.out
      have ne1 := Boxed.not_row ((Boxed.other M1.out (B' := b3) (by omega) (.int .i64 x.f2)).alloc (.cells #[.int .i64 x.f0, .string x.f1, .int .i64 x.f2] 25)) (by decide) HOWN.out
      have ne3 := Boxed.not_row ((Boxed.set (.int .i64 x.f2) M3.out).alloc (.cells #[.int .i64 x.f0, .string x.f1, .int .i64 x.f2] 25)) (by decide) HOWN.out
      have hmap : (pre ++ [(⟨x, hx⟩ : Mem xs)]).map (fun x => x.1) = pre.map (fun x => x.1) ++ [x] := by rw [List.map_append]; rfl
      have hR6 := Kd.R_appended (d := kTk) (okp := fun _ => False) (ok := fun _ => True) (p := x) (cs := [.int .i64 x.f0, .string x.f1, .int .i64 x.f2]) HH_.out HR_.out (k25_mkM _ _ _ x) (fun _ h => h.elim) (fun _ _ => trivial) HO5.out HG5.out (HAT.out.imp id (fun h => ⟨_, h, by simp⟩))
      have hsz5 := HG5.out.size
      have hWA : Below w.heap.size w w5 := ((HB3.out.setCell (p := ⟨b3, 0, none⟩) (by show w.heap.size ≤ b3; omega) (.int .i64 x.f2)).alloc (by have := HB3.out.size; simp; omega) (.cells #[.int .i64 x.f0, .string x.f1, .int .i64 x.f2] 25)).grown HG5.out (by have := HB3.out.size; simp; omega) (Kd.R_base (show Kd.R kTk 25 _ w.heap.size (fun _ => True) v _ from ⟨HH_.out, inner, HOWN.out, HR_.out⟩))
      refine ⟨?_, ⟨?_, ?_, ?_, .slice ao n5 cc5, Boxed.set _ P4.out, ?_, ?_⟩, hWA.setCell (p := ⟨b3 + 1, 0, none⟩) (by show w.heap.size ≤ b3 + 1; omega) _⟩
      · refine HK3.out.trans ((KeepsE.setCell _ _ (by show b3 < _; omega)).trans ((KeepsE.alloc _ _ _ _).trans ((KeepsE.grown HG5.out ?_).trans (KeepsE.setCell _ _ (by show b3 + 1 < _; omega)))))
        intro r hr
        refine ⟨.inl (hE r hr), ?_⟩
        obtain ⟨cells, hc⟩ := own_typed HOWN.out r hr
        exact ⟨_, hc, rfl⟩
      · exact Boxed.other (((Boxed.other M0.out (B' := b3) (by omega) _).alloc _).kept HG5.out ne0) (by omega) _
      · exact Boxed.other (((Boxed.other M1.out (B' := b3) (by omega) _).alloc _).kept HG5.out ne1) (by omega) _
      · rw [hmap, placesLaw.last_snoc]
        exact Boxed.other (((Boxed.set _ M3.out).alloc _).kept HG5.out ne3) (by omega) _
      · rw [hmap]
        exact Kd.R_mono (Kd.R_far (p := ⟨b3 + 1, 0, none⟩) (Kd.R_types hR6 P4.out (by decide)) (fun _ hk => hk.2) (.slice ao n5 cc5)) (fun _ _ => trivial)
      · intro r hr
        rcases HAT.out with h | h
        · exact hE r (h ▸ hr)
        · rw [h] at hr
          have hr' := Option.some.inj hr
          rw [← hr']
          simp
          omega
  case done =>
    rintro E D W hD ⟨⟨b0, b1, b3', v, b4, hR, hE⟩, hB⟩ hK
    obtain ⟨A0, c0, rfl, hl0, hC0⟩ := Kd.R_reads hR
    have hmap : xs.attach.map (fun x => x.1) = xs := List.attach_map_subtype_val xs
    rw [hmap] at b3' b4 hl0 hC0
    have B0 := Aside0.mk b0
    have B1 := Aside0.mk b1
    have B3 := Aside0.mk b3'
    have B4 := Aside0.mk b4
    have HC := Aside0.mk hC0
    have HL := Aside0.mk hl0
    have HB := Aside0.mk hB
    have HK := Aside0.mk hK
    have d0 := b0.cell
    have d1 := b1.cell
    have d3 := b3'.cell
    have d4 := b4.cell
    have f1 := b1.frozen
    clear b0 b1 b3' b4 hC0 hl0 hB hK hR hE hmap
    rcases HFIN.out with ⟨m, ht, he⟩ | ⟨p, q, q2, ht, hlast, hp, ht2, he⟩
    · have T1 := Aside0.mk ht
      have T2 := Aside0.mk he
      clear ht he HFIN
      gi_wp2_with first | (refine ⟨trivial, ?_⟩; gi_at_call 9; refine (callsIn_wide.2 (lex_Tokens.calls k a0 m 0 0 _ T1.out)).mono ?_; rintro e w2 ⟨v0, rfl, hRm, hb⟩; obtain ⟨A1, c1, rfl, hl1, hC1⟩ := Kd.R_reads hRm; have nB := Aside0.mk (HB.out.trans (hb.mono HB.out.size)); have n0 := Aside0.mk (placesLaw.box_below B0.out hb); have n1 := Aside0.mk (placesLaw.box_below B1.out hb); have n3 := Aside0.mk (placesLaw.box_below B3.out hb); have n4 := Aside0.mk (placesLaw.box_below B4.out hb); have nC := Aside0.mk (Kd.C_below HC.out hb); have nK := Aside0.mk ((hb.block D (Array.getElem?_eq_some_iff.1 HK.out).1).trans HK.out); have HC1 := Aside0.mk hC1; have HL1 := Aside0.mk hl1; clear HB B0 B1 B3 B4 HC HK d0 d1 d3 d4 f1 hRm hb hC1 hl1; have HB := nB; have B0 := n0; have B1 := n1; have B3 := n3; have B4 := n4; have HC := nC; have HK := nK; clear nB n0 n1 n3 n4 nC nK; have d0 := B0.out.cell; have d1 := B1.out.cell; have d3 := B3.out.cell; have d4 := B4.out.cell; have f1 := B1.out.frozen) | (refine ⟨trivial, ?_⟩; gi_at_call 15; refine (callsIn_wide.2 (api_Token.calls k A0 c0 xs A1 c1 m true _ HC.out HL.out HC1.out HL1.out T2.out)).mono ?_; rintro e w4 ⟨rfl, hdr⟩; obtain ⟨nd, rfl⟩ := hdr.out; clear hdr)
      have B1' : Boxed (w2.drewN nd) (w.heap.size + 1) 4 (.bool false) := B1.out
      have hK' := (KeepsOthers.setCell (w2.drewN nd) ⟨w.heap.size + 1, 0, none⟩ (.bool true)).same D _ HK.out rfl
      refine ⟨by simp, .inl ⟨_, _, rfl, run_takeDeferred hK', ?_⟩⟩
      have hc5 := cell_kept (Boxed.set (.bool true) B1').cell (grownBy_putObj' _ D (.deferred none)) (fun r e => by cases e; exact ⟨_, hK', rfl⟩)
      refine ⟨.bool true, ?_, rfl, ((pw_below_drewN HB.out nd).setCell (p := ⟨w.heap.size + 1, 0, none⟩) (show w.heap.size ≤ w.heap.size + 1 by omega) _).trans (belowK_b (w := w) (Nat.le_refl _) _ D _ _ (by omega) hK' rfl rfl)⟩
      simp [results, Tryd.f5, go_sem, hc5]
    · have T1 := Aside0.mk ht
      have T2 := Aside0.mk he
      have T3 := Aside0.mk ht2
      have a1 : decide ((p : Int) ≤ placesLaw.last (-1) xs) = false := decide_eq_false (by omega)
      have a2 : decide ((a0.size : Int) ≤ (p : Int)) = false := decide_eq_false (by omega)
      have a3 : decide (a0.size ≤ p) = false := decide_eq_false (by omega)
      have a4 : decide ((0 : Int) ≤ (p : Int)) = true := decide_eq_true (by omega)
      have a5 : decide ((p : Int) ≤ (a0.size : Int)) = true := decide_eq_true (by omega)
      have a6 : (p : Int) ≤ (a0.size : Int) := by omega
      have a7 : (0 : Int) ≤ (p : Int) := by omega
      obtain ⟨z, hzz⟩ : ∃ z, placesLaw.last (-1) xs = z := ⟨_, rfl⟩
      rw [hzz] at d3 B3 a1
      clear ht he ht2 HFIN hlast hzz
      gi_wp2_with first | (refine ⟨trivial, ?_⟩; gi_at_call 9; refine (callsIn_wide.2 (lex_Tokens.calls k a0 [] (p : Int) 160 _ T1.out)).mono ?_; rintro e w2 ⟨v0, rfl, hRm, hb⟩; clear T1; obtain ⟨A1, c1, rfl, hl1, hC1⟩ := Kd.R_reads hRm; have nB := Aside0.mk (HB.out.trans (hb.mono HB.out.size)); have n0 := Aside0.mk (placesLaw.box_below B0.out hb); have n1 := Aside0.mk (placesLaw.box_below B1.out hb); have n3 := Aside0.mk (placesLaw.box_below B3.out hb); have n4 := Aside0.mk (placesLaw.box_below B4.out hb); have nC := Aside0.mk (Kd.C_below HC.out hb); have nK := Aside0.mk ((hb.block D (Array.getElem?_eq_some_iff.1 HK.out).1).trans HK.out); have HC1 := Aside0.mk hC1; have HL1 := Aside0.mk hl1; clear HB B0 B1 B3 B4 HC HK d0 d1 d3 d4 f1 hRm hb hC1 hl1; have HB := nB; have B0 := n0; have B1 := n1; have B3 := n3; have B4 := n4; have HC := nC; have HK := nK; clear nB n0 n1 n3 n4 nC nK; have d0 := B0.out.cell; have d1 := B1.out.cell; have d3 := B3.out.cell; have d4 := B4.out.cell; have f1 := B1.out.frozen) | (refine ⟨trivial, ?_⟩; gi_at_call 9; refine (callsIn_wide.2 (lex_Tokens.calls k (a0.extract 0 p) q q2 0 _ T3.out)).mono ?_; rintro e w2 ⟨v0, rfl, hRm, hb⟩; obtain ⟨A1, c1, rfl, hl1, hC1⟩ := Kd.R_reads hRm; have nB := Aside0.mk (HB.out.trans (hb.mono HB.out.size)); have n0 := Aside0.mk (placesLaw.box_below B0.out hb); have n1 := Aside0.mk (placesLaw.box_below B1.out hb); have n3 := Aside0.mk (placesLaw.box_below B3.out hb); have n4 := Aside0.mk (placesLaw.box_below B4.out hb); have nC := Aside0.mk (Kd.C_below HC.out hb); have nK := Aside0.mk ((hb.block D (Array.getElem?_eq_some_iff.1 HK.out).1).trans HK.out); have HC1 := Aside0.mk hC1; have HL1 := Aside0.mk hl1; clear HB B0 B1 B3 B4 HC HK d0 d1 d3 d4 f1 hRm hb hC1 hl1; have HB := nB; have B0 := n0; have B1 := n1; have B3 := n3; have B4 := n4; have HC := nC; have HK := nK; clear nB n0 n1 n3 n4 nC nK; have d0 := B0.out.cell; have d1 := B1.out.cell; have d3 := B3.out.cell; have d4 := B4.out.cell; have f1 := B1.out.frozen) | (refine ⟨trivial, ?_⟩; gi_at_call 15; refine (callsIn_wide.2 (api_Token.calls k A1 c1 q A0 c0 xs true _ HC1.out HL1.out HC.out HL.out T2.out)).mono ?_; rintro e w4 ⟨rfl, hdr⟩; obtain ⟨nd, rfl⟩ := hdr.out; clear hdr)
      have B1' : Boxed (w2.drewN nd) (w.heap.size + 1) 4 (.bool false) := B1.out
      have hK' := (KeepsOthers.setCell (w2.drewN nd) ⟨w.heap.size + 1, 0, none⟩ (.bool true)).same D _ HK.out rfl
      refine ⟨by simp, .inl ⟨_, _, rfl, run_takeDeferred hK', ?_⟩⟩
      have hc5 := cell_kept (Boxed.set (.bool true) B1').cell (grownBy_putObj' _ D (.deferred none)) (fun r e => by cases e; exact ⟨_, hK', rfl⟩)
      refine ⟨.bool true, ?_, rfl, ((pw_below_drewN HB.out nd).setCell (p := ⟨w.heap.size + 1, 0, none⟩) (show w.heap.size ≤ w.heap.size + 1 by omega) _).trans (belowK_b (w := w) (Nat.le_refl _) _ D _ _ (by omega) hK' rfl rfl)⟩
      simp [results, Tryd.f5, go_sem, hc5]
  case stop =>
    rintro D c' pre W hD hpre ⟨hn, _⟩ hK
    exact absurd hpre hn

set_option maxRecDepth 100000 in
set_option maxHeartbeats 8000000 in
theorem placesLaw.long (k : Nat) (a0 : ByteArray) (hz : ¬ a0.size ≤ 65536) (hbeg : colonnadelaw16_begun.f k = some true) (w : World) :
    Calls Tryd.prog 5 #[.string a0] w fun e w' => e = .returned (.bool true) ∧ Below w.heap.size w w' := by
  have c1 : decide (65536 < (a0.size : Int)) = true := decide_eq_true (by omega)
  have c2 : decide (65536 < a0.size) = true := decide_eq_true (by omega)
  have HBEG := Aside0.mk hbeg
  clear hbeg
  refine (callsIn_wide (n := 9)).1 ?_
  refine callsIn_of_wp_marks Tryd.func5 rfl trivial ?_ rfl
  simp only [Tryd.ntmps5, List.size_toArray, List.length_cons, List.length_nil, Nat.reduceAdd, Nat.reduceSub, Array.replicate_succ, Array.replicate_zero, List.push_toArray, List.append_toArray, List.nil_append, List.cons_append]
  have e0 := (Boxed.new w 9 (.string a0)).alloc (.cells #[.bool false] 4)
  have e1 := Boxed.new (w.alloc (.cells #[.string a0] 9)) 4 (.bool false)
  simp only [World.size_alloc] at e1
  have hB0 : Below w.heap.size w ((w.alloc (.cells #[.string a0] 9)).alloc (.cells #[.bool false] 4)) := ((Below.refl _ w).alloc (Nat.le_refl _) _).alloc (by simp) _
  have B0 := Aside0.mk e0
  have B1 := Aside0.mk e1
  have HB := Aside0.mk hB0
  clear e0 e1 hB0
  gi_wp2_with first | (refine ⟨trivial, ?_⟩; gi_at_call 6; refine (callsIn_wide.2 (colonnadelaw16_begun.calls k true _ HBEG.out)).mono ?_; rintro e w1 ⟨rfl, hb1⟩; have n0 := Aside0.mk (placesLaw.box_below B0.out hb1); have n1 := Aside0.mk (placesLaw.box_below B1.out hb1); have n2 := Aside0.mk (HB.out.trans (hb1.mono HB.out.size)); clear hb1 B0 B1 HB; have B0 := n0; have B1 := n1; have HB := n2; clear n0 n1 n2; have hcA := B0.out.cell; have hcB := B1.out.cell; have hfB := B1.out.frozen)
  have hc5 := (Boxed.set (.bool true) B1.out).cell
  refine ⟨.bool true, ?_, rfl, HB.out.setCell (p := ⟨w.heap.size + 1, 0, none⟩) (show w.heap.size ≤ w.heap.size + 1 by omega) _⟩
  simp [results, Tryd.f5, go_sem, hc5]

def placesLaw.asc : Int → List Tk → Bool
  | _, [] => true
  | z, x :: r => decide (z < x.f2) && placesLaw.asc x.f2 r
theorem placesLaw.asc_at : ∀ (p l : List Tk) (x : Tk) (z : Int), placesLaw.asc z l = true → p ++ [x] <+: l → placesLaw.last z p < x.f2
  | [], [], x, z, _, h => by simp at h
  | [], y :: l, x, z, ha, h => by
    simp only [placesLaw.asc, Bool.and_eq_true, decide_eq_true_eq] at ha
    rw [List.nil_append, List.cons_prefix_cons] at h
    rw [h.1]
    exact ha.1
  | q :: p, [], x, z, _, h => by simp at h
  | q :: p, y :: l, x, z, ha, h => by
    simp only [placesLaw.asc, Bool.and_eq_true, decide_eq_true_eq] at ha
    rw [List.cons_append, List.cons_prefix_cons] at h
    rw [h.1]
    exact placesLaw.asc_at p l x y.f2 ha.2 h.2
def placesLaw.fin (k : Nat) (a0 : ByteArray) (xs : List Tk) : Bool := match lex_Tokens.f k a0 with
  | some (m, n, e) => if e = 0 then decide (n = 0) && (api_Token.f k xs m == some true)
      else decide (e = 160) && (m.isEmpty && (decide (placesLaw.last (-1) xs < n) && (decide (0 ≤ n) && (decide (n < (a0.size : Int)) && (match lex_Tokens.f k (a0.extract 0 n.toNat) with
        | some (q, _, e2) => decide (e2 = 0) && (api_Token.f k q xs == some true)
        | none => false)))))
  | none => false
def placesLaw.f (k : Nat) (a0 : ByteArray) : Option Bool := if colonnadelaw16_begun.f k = some true then
    if a0.size ≤ 65536 then (allOf k a0).bind fun xs => if (xs.all fun x => lex_Check.f k x.f0 x.f1 x.f2 == some 0) = true ∧ (xs.all fun x => decide (x.f2 < (a0.size : Int))) = true ∧ placesLaw.asc (-1) xs = true ∧ xs.length ≤ 65536 ∧ placesLaw.fin k a0 xs = true then some true else none
    else some true
  else none
theorem placesLaw.calls (k : Nat) (a0 : ByteArray) (r : Bool) (w : World) (h : placesLaw.f k a0 = some r) (hG : Gl w) :
    Calls Tryd.prog 5 #[.string a0] w fun e w' => e = .returned (.bool r) ∧ Below w.heap.size w w' := by
  unfold placesLaw.f at h
  split at h
  · rename_i hb
    split at h
    · rename_i hz
      obtain ⟨xs, hall, h⟩ := Option.bind_eq_some_iff.mp h
      split at h
      · rename_i hh
        obtain ⟨g1, g2, g3, g4, g5⟩ := hh
        obtain rfl := Option.some.inj h
        refine placesLaw.main k a0 xs hz hall (fun x hx => by simpa using List.all_eq_true.1 g1 x hx) (fun x hx => by simpa using List.all_eq_true.1 g2 x hx) ?_ g4 hb ?_ w hG
        · intro pre x hp
          obtain ⟨s, hs⟩ := hp
          refine placesLaw.asc_at (pre.map (fun x => x.1)) xs x.1 (-1) g3 ⟨s.map (fun x => x.1), ?_⟩
          have := congrArg (List.map (fun x : Mem xs => x.1)) hs
          rw [List.map_append, List.map_append, List.attach_map_subtype_val] at this
          exact this
        · unfold placesLaw.fin at g5
          split at g5
          · rename_i m n e ht
            by_cases he : e = 0
            · subst he
              rw [if_pos rfl, Bool.and_eq_true, decide_eq_true_eq, beq_iff_eq] at g5
              obtain ⟨rfl, g5⟩ := g5
              exact .inl ⟨m, ht, g5⟩
            · rw [if_neg he] at g5
              simp only [Bool.and_eq_true, decide_eq_true_eq, List.isEmpty_iff] at g5
              obtain ⟨rfl, rfl, p1, p2, p3, p4⟩ := g5
              split at p4
              · rename_i q q2 e2 ht2
                simp only [Bool.and_eq_true, decide_eq_true_eq, beq_iff_eq] at p4
                obtain ⟨rfl, p5⟩ := p4
                obtain ⟨p, rfl⟩ := Int.eq_ofNat_of_zero_le p2
                rw [Int.toNat_natCast] at ht2
                exact .inr ⟨p, q, q2, ht, p1, by omega, ht2, p5⟩
              · cases p4
          · cases g5
      · cases h
    · rename_i hz
      obtain rfl := Option.some.inj h
      exact placesLaw.long k a0 hz hb w
  · cases h
end Go.Proofs.YtmpamcfeijnafaaDoor.P
