/- A row that is fitted is, fitted again, the same: a value cast to its own type is itself. -/
import Derived.Test.YtmeopdjdjmjngaaGreatDoorPureFit
import Derived.Test.YtmeopdjdjmjngaaGreatDoorG3
import Derived.Test.YtmeopdjdjmjngaaGreatDoorG4
import Derived.Test.YtmeopdjdjmjngaaGreatDoorG5
namespace Go.Proofs.YtmeopdjdjmjngaaGreatDoor.Pure
open Go.RowKit Go.Proofs.YtmeopdjdjmjngaaGreatDoor.G Go.Proofs.YtmeopdjdjmjngaaGreatDoorW.PrintWords Go.Proofs.YtmeopdjdjmjngaaGreatDoorW.PrintLast Go.Proofs.YtmeopdjdjmjngaaGreatDoor.Str
theorem scale_enter (k : Nat) (v f t : Int) (hf : 0 ≤ f ∧ f ≤ 18) (ht : 0 ≤ t ∧ t ≤ 18) : num_Scale.f k v f t = num_Scale.j0 k v f t false := by
  unfold num_Scale.f
  rw [scale_is, scale_is, decide_eq_true hf, decide_eq_true ht]; rfl
theorem scale_fits {v : Int} (hv : In64 v) (k : Nat) (hk : 60 ≤ k) (f t n : Int) (h : num_Scale.f k v f t = some (n, 0)) : (0 ≤ t ∧ t ≤ 18) ∧ -999999999999999999 ≤ n ∧ n ≤ 999999999999999999 := by
  obtain ⟨k, rfl⟩ : ∃ j, k = j + 1 := ⟨k - 1, by omega⟩
  by_cases hs : (0 ≤ f ∧ f ≤ 18) ∧ (0 ≤ t ∧ t ≤ 18)
  · refine ⟨hs.2, ?_⟩
    rw [scale_enter _ _ _ _ hs.1 hs.2, num_Scale.j0, if_neg (by decide), (Fits_is v).1, Option.bind_some] at h
    obtain ⟨⟨f0, f1⟩, ⟨t0, t1⟩⟩ := hs
    by_cases cv : -999999999999999999 ≤ v ∧ v ≤ 999999999999999999
    · rw [decide_eq_true cv, if_pos rfl] at h
      by_cases cd : t ≥ f
      · have w : wrap64 (t - f) = t - f := by rw [w64_mod]; omega
        obtain ⟨p1, _⟩ := Pow10_is k (by omega) (t - f) (by omega) (by omega)
        have pb := p10_bd (n := t - f) (by omega) (by omega)
        obtain ⟨r, m1, _, _⟩ := Mul_is (a := v) (b := p10 (t - f)) hv ⟨by omega, by omega⟩ k (by omega)
        rw [if_pos cd, w, p1, Option.bind_some, m1, Option.bind_some] at h
        by_cases c1 : r.2 = 0
        · rw [if_pos c1, (Fits_is _).1, Option.bind_some] at h
          by_cases c2 : -999999999999999999 ≤ r.1 ∧ r.1 ≤ 999999999999999999
          · rw [decide_eq_true c2, if_pos rfl] at h
            have e : r.1 = n := congrArg Prod.fst (Option.some.inj h)
            rw [← e]; exact c2
          · rw [decide_eq_false c2, if_neg (by decide)] at h
            exact absurd (congrArg Prod.snd (Option.some.inj h)) (show ¬ ((10 : Int) = 0) by decide)
        · rw [if_neg c1] at h
          exact absurd (congrArg Prod.snd (Option.some.inj h)) (show ¬ ((10 : Int) = 0) by decide)
      · have w : wrap64 (f - t) = f - t := by rw [w64_mod]; omega
        obtain ⟨p1, _⟩ := Pow10_is k (by omega) (f - t) (by omega) (by omega)
        have pb := p10_bd (n := f - t) (by omega) (by omega)
        have p2 : 10 ≤ p10 (f - t) := by
          have e : p10 (f - t) = p10 (f - t - 1) * 10 := by
            have := p10_succ (n := f - t - 1) (by omega)
            rw [show f - t - 1 + 1 = f - t by omega] at this
            exact this
          have := p10_bd (n := f - t - 1) (by omega) (by omega)
          omega
        rw [if_neg cd, w, p1, Option.bind_some] at h
        obtain ⟨p, hp⟩ : ∃ z, z = p10 (f - t) := ⟨_, rfl⟩
        simp only [← hp] at h p2
        clear hp p1 pb
        have hq : (Int.tdiv v p).natAbs ≤ v.natAbs / 10 := by
          rw [Int.natAbs_tdiv]
          exact Nat.div_le_div_left (show 10 ≤ p.natAbs by omega) (by decide)
        rw [if_neg (by omega)] at h
        obtain ⟨q, hq2⟩ : ∃ z, z = Int.tdiv v p := ⟨_, rfl⟩
        rw [← hq2] at h hq
        have w1 : wrap64 q = q := by rw [w64_mod]; omega
        have w2 : wrap64 (q + 1) = q + 1 := by rw [w64_mod]; omega
        have w3 : wrap64 (q - 1) = q - 1 := by rw [w64_mod]; omega
        rw [w1, w2, w3] at h
        split at h
        · have e : q + 1 = n := congrArg Prod.fst (Option.some.inj h)
          omega
        · split at h
          · have e : q - 1 = n := congrArg Prod.fst (Option.some.inj h)
            omega
          · have e : q = n := congrArg Prod.fst (Option.some.inj h)
            omega
    · rw [decide_eq_false cv, if_neg (by decide)] at h
      exact absurd (congrArg Prod.snd (Option.some.inj h)) (show ¬ ((10 : Int) = 0) by decide)
  · have e : num_Scale.f (k + 1) v f t = num_Scale.j0 (k + 1) v f t true := by
      unfold num_Scale.f
      rw [scale_is, scale_is, Option.bind_some, Option.bind_some]
      by_cases hf : 0 ≤ f ∧ f ≤ 18
      · rw [decide_eq_true hf, decide_eq_false (fun ht => hs ⟨hf, ht⟩)]; rfl
      · rw [decide_eq_false hf]; rfl
    rw [e, num_Scale.j0, if_pos rfl] at h
    exact absurd (congrArg Prod.snd (Option.some.inj h)) (show ¬ ((1 : Int) = 0) by decide)
theorem scale_own (n t : Int) (k : Nat) (hk : 60 ≤ k) (ht : 0 ≤ t ∧ t ≤ 18) (hn : -999999999999999999 ≤ n ∧ n ≤ 999999999999999999) : num_Scale.f k n t t = some (n, 0) := by
  obtain ⟨k, rfl⟩ : ∃ j, k = j + 1 := ⟨k - 1, by omega⟩
  have w : wrap64 (t - t) = 0 := by rw [w64_mod]; omega
  obtain ⟨p1, _⟩ := Pow10_is k (by omega) 0 (by omega) (by omega)
  obtain ⟨r, m1, _, m2, _⟩ := Mul_is (a := n) (b := 1) ⟨by omega, by omega⟩ ⟨by omega, by omega⟩ k (by omega)
  have m3 := m2 ⟨by omega, by omega⟩
  rw [scale_enter _ _ _ _ ht ht, num_Scale.j0, if_neg (by decide), (Fits_is n).1, Option.bind_some, decide_eq_true hn, if_pos rfl, if_pos (Int.le_refl t), w, p1, p10_0, Option.bind_some, m1, m3, Option.bind_some, if_pos rfl]
  show ((num_Fits.f (n * 1)).bind fun t138 => _) = _
  rw [Int.mul_one, (Fits_is n).1, Option.bind_some, decide_eq_true hn, if_pos rfl]
theorem chk0 {a b : Int} (h : value_CheckType.f a b = some 0) : (1 ≤ a ∧ a ≤ 5) ∧ (0 ≤ b ∧ b ≤ 18) ∧ (b = 0 ∨ a = 3) := by
  unfold value_CheckType.f value_scaled.f at h
  by_cases h1 : a < 1
  · rw [if_pos h1] at h; exact absurd (Option.some.inj h) (by decide)
  · rw [if_neg h1] at h
    by_cases h2 : a > 5
    · rw [if_pos h2] at h; exact absurd (Option.some.inj h) (by decide)
    · rw [if_neg h2] at h
      by_cases h3 : b ≥ 0
      · rw [if_pos h3, Option.bind_some] at h
        by_cases h4 : b ≤ 18
        · rw [if_pos (decide_eq_true h4)] at h
          by_cases h5 : b = 0
          · exact ⟨by omega, by omega, Or.inl h5⟩
          · rw [if_neg h5] at h
            by_cases h6 : a = 3
            · exact ⟨by omega, by omega, Or.inr h6⟩
            · rw [if_neg h6] at h; exact absurd (Option.some.inj h) (by decide)
        · rw [if_neg (by simpa using h4)] at h; exact absurd (Option.some.inj h) (by decide)
      · rw [if_neg h3, Option.bind_some, if_neg (by decide)] at h; exact absurd (Option.some.inj h) (by decide)
/-- a value of its type's own form -/
def ownV (t0 t1 n : Int) (s : ByteArray) : Prop := value_CheckType.f t0 t1 = some 0 ∧ (t0 = 4 → n = 0 ∧ s.size ≤ 256) ∧ (t0 ≠ 4 → s = ⟨#[]⟩) ∧ (t0 = 3 → -999999999999999999 ≤ n ∧ n ≤ 999999999999999999)
theorem cast_self (k : Nat) (hk : 74 ≤ k) (t0 t1 n : Int) (s : ByteArray) (h : ownV t0 t1 n s) : value_Cast.f k t0 t1 false n s t0 t1 = some (t0, t1, false, n, s, 0) := by
  obtain ⟨hc, h4, hs, h3⟩ := h
  obtain ⟨c1, c2, c3⟩ := chk0 hc
  obtain ⟨k, rfl⟩ : ∃ j, k = j + 4 := ⟨k - 4, by omega⟩
  unfold value_Cast.f
  rw [hc, Option.bind_some, if_pos rfl, if_neg (by omega), if_neg (by omega), if_pos rfl, value_Cast.j0, if_neg (by decide), if_neg (by decide)]
  by_cases e4 : t0 = 4
  · obtain ⟨z1, z2⟩ := h4 e4
    have e1 : t1 = 0 := by omega
    subst z1; subst e1; subst e4
    unfold value_texted.f value_OfText.f value_of.f
    rw [if_pos rfl, if_pos rfl, if_neg (by omega)]
    rfl
  · have es := hs e4
    subst es
    rw [if_neg e4, if_neg e4]
    by_cases e3 : t0 = 3
    · subst e3
      rw [if_pos rfl, value_Cast.j1, if_neg (by decide), if_pos rfl]
      unfold value_scaled.f
      rw [if_pos (show t1 ≥ 0 by omega), Option.bind_some, if_pos (decide_eq_true c2.2), value_Cast.j2]
      unfold value_places.f
      rw [if_pos rfl, Option.bind_some, show mn (mx t1 0) 18 = t1 from by unfold mn mx; split <;> split <;> omega, scale_own n t1 _ (by omega) c2 (h3 rfl), Option.bind_some, if_pos rfl]
    · rw [if_neg e3, show (t0 != 3) = true from by simpa using e3, value_Cast.j1, if_pos rfl]
theorem cast_own (k : Nat) (hk : 74 ≤ k) (a0 a1 a3 t0 t1 : Int) (a4 : ByteArray) (h3 : In64 a3) (hal : alikeB a0 t0 = true) (r : Int × Int × Bool × Int × ByteArray × Int)
    (h : value_Cast.f k a0 a1 false a3 a4 t0 t1 = some r) (hr : r.2.2.2.2.2 = 0) : r = (t0, t1, false, r.2.2.2.1, r.2.2.2.2.1, 0) ∧ ownV t0 t1 r.2.2.2.1 r.2.2.2.2.1 := by
  obtain ⟨k, rfl⟩ : ∃ j, k = j + 4 := ⟨k - 4, by omega⟩
  obtain ⟨l1, l2, l3⟩ := alike_iff hal
  unfold value_Cast.f at h
  obtain ⟨c, c1, _⟩ := chk_same t0 t1
  rw [c1, Option.bind_some] at h
  by_cases hc : c = 0
  · subst hc
    rw [if_pos rfl] at h
    obtain ⟨b, _, b2⟩ := way_same (k + 4) a0 t0 a1 a3 false a4 t1
    rw [b2, value_Cast.j0] at h
    obtain ⟨d1, d2, d3⟩ := chk0 c1
    have dead : ∀ e : Int, e ≠ 0 → some ((0, 0, false, 0, (⟨#[]⟩ : ByteArray), e) : Int × Int × Bool × Int × ByteArray × Int) = some r → False := fun e he q => by
      obtain rfl := Option.some.inj q
      exact he hr
    cases b with
    | false => exact (dead 21 (by decide) h).elim
    | true =>
      simp only [Bool.not_true, Bool.false_eq_true, if_false] at h
      by_cases g4 : t0 = 4
      · have e4 : a0 = 4 := by unfold fam at l3; rw [g4] at l3; split at l3 <;> omega
        rw [if_pos g4] at h
        unfold value_texted.f value_OfText.f value_of.f at h
        rw [if_pos e4] at h
        by_cases z : (a4.size : Int) > 256
        · rw [if_pos z] at h
          exact (dead 10 (by decide) h).elim
        · rw [if_neg z] at h
          obtain rfl := Option.some.inj h
          subst g4
          have e1 : t1 = 0 := by omega
          subst e1
          exact ⟨rfl, c1, fun _ => ⟨rfl, by show a4.size ≤ 256; omega⟩, fun q => absurd rfl q, fun q => absurd q (by decide)⟩
      · have e4 : ¬ a0 = 4 := by intro z; unfold fam at l3; rw [z] at l3; split at l3 <;> first | omega | (split at l3 <;> omega)
        rw [if_neg g4, if_neg e4] at h
        have hj2 : value_Cast.j2 (k + 2) a0 a1 false a3 a4 t0 t1 = some r → r = (t0, t1, false, r.2.2.2.1, r.2.2.2.2.1, 0) ∧ ownV t0 t1 r.2.2.2.1 r.2.2.2.2.1 := by
          intro h
          obtain ⟨p, p1, _⟩ := places_is a0 a1 a3 false a4
          obtain ⟨q, q1, _⟩ := Scale_same (k + 1) (by omega) h3 p t1
          rw [value_Cast.j2, p1, Option.bind_some, q1, Option.bind_some] at h
          by_cases z : q.2 = 0
          · rw [if_pos z] at h
            obtain ⟨n, e⟩ := q
            have z : e = 0 := z
            subst z
            obtain ⟨_, s1⟩ := scale_fits h3 (k + 1) (by omega) p t1 n q1
            obtain rfl := Option.some.inj h
            exact ⟨rfl, c1, fun q => absurd q g4, fun _ => rfl, fun _ => s1⟩
          · rw [if_neg z] at h
            exact (dead _ z h).elim
        by_cases k3 : a0 = 3
        · rw [if_pos k3, value_Cast.j1, if_neg (by decide), if_pos k3] at h
          obtain ⟨b, hb, h⟩ := Option.bind_eq_some_iff.mp h
          by_cases hb1 : b = true
          · rw [if_pos hb1] at h; exact hj2 h
          · rw [if_neg hb1] at h; exact (dead 10 (by decide) h).elim
        · rw [if_neg k3, value_Cast.j1] at h
          by_cases g3 : t0 = 3
          · rw [show (t0 != 3) = false from by simp [g3], if_neg (by decide), if_neg k3] at h
            exact hj2 h
          · rw [show (t0 != 3) = true from by simpa using g3, if_pos rfl] at h
            obtain rfl := Option.some.inj h
            exact ⟨rfl, c1, fun q => absurd q g4, fun _ => rfl, fun q => absurd q g3⟩
  · rw [if_neg hc] at h
    obtain rfl := Option.some.inj h
    exact absurd hr hc
/-- a fitted value of its column -/
def ownC (v : Val) (c : Col) : Prop := v.f0 = c.f1 ∧ (v.f1 = true → c.f2 = false ∧ v.f2 = 0 ∧ v.f3 = ⟨#[]⟩) ∧ (v.f1 = false → ownV c.f1.f0 c.f1.f1 v.f2 v.f3)
def GoodF (l : List Val) (cols : List Col) (acc : List Val) : Prop := ∀ (j : Nat) (v : Val), acc[j]? = some v → ∃ c x, cols[j]? = some c ∧ l[j]? = some x ∧ ownC v c ∧ v.f1 = x.f1
theorem goodF_snoc {l : List Val} {cols : List Col} {acc : List Val} (h : GoodF l cols acc) {i : Nat} (ha : acc.length = i) {c : Col} {x v : Val} (hc : cols[i]? = some c) (hx : l[i]? = some x) (ho : ownC v c) (hn : v.f1 = x.f1) : GoodF l cols (acc ++ [v]) := by
  intro j y hy
  by_cases c1 : j < acc.length
  · rw [List.getElem?_append_left c1] at hy; exact h j y hy
  · rw [List.getElem?_append_right (by omega)] at hy
    have e : j = i := by
      have := (List.getElem?_eq_some_iff.mp hy).1
      simp at this
      omega
    subst e
    rw [ha, Nat.sub_self] at hy
    have e2 : v = y := by simpa using hy
    subst e2
    exact ⟨c, x, hc, hx, ho, hn⟩
theorem fit1_loop (l : List Val) (cols : List Col) (nm : ByteArray) (hl : l.length = cols.length) (hm : l.length ≤ 2932031007317) (hw : ∀ v ∈ l, In64 v.f2) : ∀ (d k1 i : Nat) (acc : List Val), i + d = l.length → acc.length = i → GoodF l cols acc → 2 * d + 100 < k1 →
    ∃ r, schema_Fit.l0 k1 acc l (l.length : Int) (i : Int) nm cols = some r ∧ (r.2 ≠ 0 → r.1 = []) ∧ (r.2 = 0 → r.1.length = l.length ∧ GoodF l cols r.1) := by
  intro d
  induction d with
  | zero =>
    intro k1 i acc hi ha hg h1
    obtain ⟨k1, rfl⟩ : ∃ m, k1 = m + 1 := ⟨k1 - 1, by omega⟩
    rw [schema_Fit.l0, if_neg (by omega)]
    exact ⟨_, rfl, fun q => absurd rfl q, fun _ => ⟨by show acc.length = l.length; omega, hg⟩⟩
  | succ d ih =>
    intro k1 i acc hi ha hg h1
    obtain ⟨k1, rfl⟩ : ∃ m, k1 = m + 2 := ⟨k1 - 2, by omega⟩
    have hlt : i < l.length := by omega
    have hltc : i < cols.length := by omega
    have hv := hw l[i] (List.getElem_mem hlt)
    have ge1 : l[i]? = some l[i] := List.getElem?_eq_getElem hlt
    have ge2 : cols[i]? = some cols[i] := List.getElem?_eq_getElem hltc
    have q1 : ((i : Int) < (l.length : Int)) = True := eq_true (by omega)
    have q2 : ((0 : Int) ≤ (i : Int)) = True := eq_true (by omega)
    have q3 : ((i : Int) < (cols.length : Int)) = True := eq_true (by omega)
    rw [schema_Fit.l0]
    simp only [q1, q2, q3, if_true]
    rw [rdV l i hlt, rdC cols i hltc]
    generalize l[i] = v at hv ge1 ⊢
    generalize cols[i] = c at ge2 ⊢
    have ih' := fun (x : Val) (ho : ownC x c) (hn : x.f1 = v.f1) => ih k1 (i + 1) (acc ++ [x]) (by omega) (by simp [ha]) (goodF_snoc hg ha ge2 ge1 ho hn) (by omega)
    by_cases n1 : v.f1 = true
    · rw [if_pos n1, schema_Fit.j1]
      by_cases n2 : c.f2 = true
      · rw [if_pos n2]; exact ⟨_, rfl, fun _ => rfl, fun q => absurd q (by decide)⟩
      · rw [if_neg n2, if_pos n1]
        unfold value_None.f
        rw [Option.bind_some, if_pos (by omega), w64v i (by omega)]
        exact ih' _ ⟨rfl, fun _ => ⟨Bool.eq_false_iff.mpr n2, rfl, rfl⟩, fun q => absurd q (show ¬ (true = false) by decide)⟩ n1.symm
    · have nf : v.f1 = false := Bool.eq_false_iff.mpr n1
      rw [if_neg n1, schema_Fit.j1, if_neg (by decide), if_neg n1, (Alike_is _ _ _ _).1, Option.bind_some]
      by_cases al : alikeB v.f0.f0 c.f1.f0 = true
      · rw [if_pos al]
        obtain ⟨r, hr⟩ := Cast_ev v.f0.f0 v.f0.f1 v.f2 c.f1.f0 c.f1.f1 v.f3 hv al
        have e1 := (hr k1 (by omega)).1
        rw [nf, e1, Option.bind_some]
        by_cases z : r.2.2.2.2.2 = 0
        · obtain ⟨o1, o2⟩ := cast_own k1 (by omega) _ _ _ _ _ _ hv al r e1 z
          rw [if_pos z, if_pos (by omega), w64v i (by omega)]
          obtain ⟨r0, r1, r2, r3, r4, r5⟩ := r
          obtain ⟨rfl, rfl, rfl, _⟩ : r0 = c.f1.f0 ∧ r1 = c.f1.f1 ∧ r2 = false ∧ r5 = 0 := by
            simp only [Prod.mk.injEq] at o1
            exact ⟨o1.1, o1.2.1, o1.2.2.1, z⟩
          exact ih' _ ⟨rfl, fun q => absurd q (show ¬ (false = true) by decide), fun _ => o2⟩ nf.symm
        · rw [if_neg z]; exact ⟨_, rfl, fun _ => rfl, fun q => absurd q z⟩
      · rw [if_neg al]; exact ⟨_, rfl, fun _ => rfl, fun q => absurd q (by decide)⟩
theorem Fit_first (l : List Val) (cols : List Col) (nm : ByteArray) (hm : l.length ≤ 2932031007317) (hw : ∀ v ∈ l, In64 v.f2) (k : Nat) (hk : 2 * l.length + 100 < k) :
    ∃ r, schema_Fit.f k nm cols l = some r ∧ (r.2 ≠ 0 → r.1 = []) ∧ (r.2 = 0 → r.1.length = l.length ∧ l.length = cols.length ∧ GoodF l cols r.1) := by
  unfold schema_Fit.f
  by_cases h : (l.length : Int) = (cols.length : Int)
  · rw [if_pos h]
    obtain ⟨r, e1, e2, e3⟩ := fit1_loop l cols nm (by omega) hm hw l.length k 0 [] (by omega) rfl (fun j v hj => by simp at hj) hk
    exact ⟨r, e1, e2, fun q => ⟨(e3 q).1, by omega, (e3 q).2⟩⟩
  · rw [if_neg h]; exact ⟨_, rfl, fun _ => rfl, fun q => absurd q (by decide)⟩
theorem fit2_loop (a : List Val) (cols : List Col) (nm : ByteArray) (hl : a.length = cols.length) (hm : a.length ≤ 2932031007317) (ho : ∀ (j : Nat) (v : Val) (c : Col), a[j]? = some v → cols[j]? = some c → ownC v c) : ∀ (d k1 i : Nat) (acc : List Val), i + d = a.length → acc = a.take i → 2 * d + 100 < k1 →
    schema_Fit.l0 k1 acc a (a.length : Int) (i : Int) nm cols = some (a, 0) := by
  intro d
  induction d with
  | zero =>
    intro k1 i acc hi ha h1
    obtain ⟨k1, rfl⟩ : ∃ m, k1 = m + 1 := ⟨k1 - 1, by omega⟩
    rw [schema_Fit.l0, if_neg (by omega), ha, List.take_of_length_le (by omega)]
  | succ d ih =>
    intro k1 i acc hi ha h1
    obtain ⟨k1, rfl⟩ : ∃ m, k1 = m + 2 := ⟨k1 - 2, by omega⟩
    have hlt : i < a.length := by omega
    have hltc : i < cols.length := by omega
    have al : acc.length = i := by rw [ha, List.length_take]; omega
    have o := ho i a[i] cols[i] (List.getElem?_eq_getElem hlt) (List.getElem?_eq_getElem hltc)
    have ih' : ∀ x : Val, x = a[i] → schema_Fit.l0 k1 (acc ++ [x]) a (a.length : Int) ((i + 1 : Nat) : Int) nm cols = some (a, 0) := fun x hx => ih k1 (i + 1) (acc ++ [x]) (by omega) (by rw [hx, ha, List.take_append_getElem hlt]) (by omega)
    have q1 : ((i : Int) < (a.length : Int)) = True := eq_true (by omega)
    have q2 : ((0 : Int) ≤ (i : Int)) = True := eq_true (by omega)
    have q3 : ((i : Int) < (cols.length : Int)) = True := eq_true (by omega)
    rw [schema_Fit.l0]
    simp only [q1, q2, q3, if_true]
    rw [rdV a i hlt, rdC cols i hltc]
    generalize a[i] = v at o ih' ⊢
    generalize cols[i] = c at o ⊢
    obtain ⟨o1, o2, o3⟩ := o
    obtain ⟨⟨v0, v1⟩, vn, v2, v3⟩ := v
    have o1 : (⟨v0, v1⟩ : S34) = c.f1 := o1
    cases vn with
    | true =>
      obtain ⟨p1, p2, p3⟩ := o2 rfl
      have p2 : v2 = 0 := p2
      have p3 : v3 = ⟨#[]⟩ := p3
      subst p2; subst p3
      rw [if_pos rfl, schema_Fit.j1, if_neg (by rw [p1]; decide), if_pos rfl]
      unfold value_None.f
      rw [Option.bind_some, if_pos (by omega), w64v i (by omega)]
      exact ih' _ (by rw [← o1])
    | false =>
      have p := o3 rfl
      rw [← o1] at p
      have p : ownV v0 v1 v2 v3 := p
      have al : alikeB v0 v0 = true := by
        obtain ⟨c1, _, _⟩ := chk0 p.1
        unfold alikeB
        simp [c1.1, c1.2]
      rw [if_neg (show ¬ (false = true) by decide), schema_Fit.j1, if_neg (by decide), if_neg (show ¬ (false = true) by decide), (Alike_is _ _ _ _).1, Option.bind_some, ← o1]
      rw [if_pos al, cast_self k1 (by omega) v0 v1 v2 v3 p, Option.bind_some, if_pos rfl, if_pos (by omega), w64v i (by omega)]
      exact ih' _ rfl
theorem Fit_again (l a : List Val) (cols : List Col) (nm : ByteArray) (hm : l.length ≤ 2932031007317) (h1 : a.length = l.length) (h2 : l.length = cols.length) (hg : GoodF l cols a) (k : Nat) (hk : 2 * l.length + 100 < k) : schema_Fit.f k nm cols a = some (a, 0) := by
  unfold schema_Fit.f
  rw [if_pos (by omega)]
  exact fit2_loop a cols nm (by omega) (by omega) (fun j v c hv hc => by
    obtain ⟨c', x, e1, _, e3, _⟩ := hg j v hv
    obtain rfl := Option.some.inj (hc.symm.trans e1)
    exact e3) a.length k 0 [] (by omega) rfl (by omega)
end Go.Proofs.YtmeopdjdjmjngaaGreatDoor.Pure
