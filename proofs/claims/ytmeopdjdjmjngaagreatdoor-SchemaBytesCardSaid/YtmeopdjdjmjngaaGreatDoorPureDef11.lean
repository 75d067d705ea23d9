/- A definition that may be has short names without a zero byte and small numbers; schema.Check always answers. -/
import Derived.Test.YtmeopdjdjmjngaaGreatDoorStrB
import Derived.Test.YtmeopdjdjmjngaaGreatDoorCodB11
import Derived.Test.YtmeopdjdjmjngaaGreatDoorI2
import Derived.Test.YtmeopdjdjmjngaaGreatDoorI5
set_option linter.unusedVariables false
set_option linter.unusedSimpArgs false
namespace Go.Proofs.YtmeopdjdjmjngaaGreatDoor.I
open Go.RowKit Go.Lib Go.Proofs.YtmeopdjdjmjngaaGreatDoorW.PrintWords Go.Proofs.YtmeopdjdjmjngaaGreatDoorW.PrintLast Go.Proofs.YtmeopdjdjmjngaaGreatDoor.Cod
theorem noZ_of (s : ByteArray) (h : ∀ c ∈ s.data.toList, c ≠ 0) : NoZ s := by
  unfold NoZ countByte
  rw [sb_back]
  exact List.count_eq_zero.2 (fun hm => h _ hm (by decide))
theorem nm_ok (s : ByteArray) (h : schema_Check.nm s = 0) : s.size ≤ 32 ∧ NoZ s := by
  refine ⟨schema_Check.nm_size s h, noZ_of s ?_⟩
  unfold schema_Check.nm schema_Name.f at h
  rw [Option.getD_some] at h
  split at h
  · exact absurd h (by decide)
  · split at h
    · exact absurd h (by decide)
    · split at h
      · exact absurd h (by decide)
      · split at h
        · rename_i ha
          intro c hc
          have h1 := List.all_eq_true.1 ha c hc
          rintro rfl
          exact absurd h1 (by decide)
        · exact absurd h (by decide)
theorem type_ok (a b : Int) (h : value_CheckType.f a b = some 0) : (0 ≤ a ∧ a < 120) ∧ (0 ≤ b ∧ b < 120) := by
  unfold value_CheckType.f value_scaled.f at h
  by_cases h1 : a < 1
  · rw [if_pos h1] at h; exact absurd h (by decide)
  · rw [if_neg h1] at h
    by_cases h2 : a > 5
    · rw [if_pos h2] at h; exact absurd h (by decide)
    · rw [if_neg h2] at h
      by_cases h3 : b ≥ 0
      · rw [if_pos h3, Option.bind_some] at h
        by_cases h4 : b ≤ 18
        · omega
        · rw [if_neg (by simpa using h4)] at h; exact absurd h (by decide)
      · rw [if_neg h3, Option.bind_some, if_neg (by decide)] at h; exact absurd h (by decide)
theorem lp_ok : ∀ (l : List AC) (seen : List (List UInt8)), schema_Check.lp l seen = some 0 → ∀ c ∈ l, value_CheckType.f c.f1.f0 c.f1.f1 = some 0
  | [], _, _ => fun c hc => by cases hc
  | x :: r, seen, h => by
    rw [schema_Check.lp] at h
    split at h
    · exact absurd h (by decide)
    · obtain ⟨t, ht, h⟩ := Option.bind_eq_some_iff.1 h
      split at h
      · rename_i h0
        subst h0
        intro c hc
        rcases List.mem_cons.1 hc with rfl | hc
        · exact ht
        · exact lp_ok r _ h c hc
      · exact absurd h (by decide)
theorem Check_ok (nm : ByteArray) (l : List AC) (h : schema_Check.f nm l = some 0) : DefOk nm l := by
  unfold schema_Check.f at h
  by_cases h1 : l.length ≤ 4611686018427387904
  · rw [if_pos h1] at h
    by_cases h2 : schema_Check.nm nm = 0
    · rw [if_pos h2] at h
      by_cases h3 : (l.any fun x => schema_Check.nm x.f0 != 0) = true
      · rw [if_pos h3] at h; exact absurd h (by decide)
      · rw [if_neg h3] at h
        obtain ⟨t, ht, h⟩ := Option.bind_eq_some_iff.1 h
        have h := Option.some.inj h
        by_cases h4 : t = 0
        · subst h4
          rw [if_pos rfl] at h
          by_cases h5 : l.length = 0 ∨ 32 < l.length
          · rw [if_pos h5] at h; exact absurd h (by decide)
          · have hn := nm_ok nm h2
            refine ⟨hn.1, hn.2, by omega, fun c hc => ?_⟩
            have ha := List.any_eq_false.1 (Bool.eq_false_iff.mpr h3) c hc
            have hc2 := nm_ok c.f0 (by simpa using ha)
            exact ⟨hc2.1, hc2.2, type_ok _ _ (lp_ok l [] ht c hc)⟩
        · rw [if_neg h4] at h
          exact absurd h h4
    · rw [if_neg h2] at h; exact absurd h (by decide)
  · rw [if_neg h1] at h; exact absurd h (by simp)
theorem chk_ends (a b : Int) : ∃ c, value_CheckType.f a b = some c := by
  unfold value_CheckType.f value_scaled.f
  by_cases h1 : a < 1
  · rw [if_pos h1]; exact ⟨_, rfl⟩
  · rw [if_neg h1]
    by_cases h2 : a > 5
    · rw [if_pos h2]; exact ⟨_, rfl⟩
    · rw [if_neg h2]
      by_cases h3 : b ≥ 0
      · rw [if_pos h3, Option.bind_some]
        repeat (first | exact ⟨_, rfl⟩ | split)
      · rw [if_neg h3]; exact ⟨_, rfl⟩
theorem lp_ends : ∀ (l : List AC) (seen : List (List UInt8)), ∃ x, schema_Check.lp l seen = some x
  | [], _ => ⟨_, rfl⟩
  | x :: r, seen => by
    rw [schema_Check.lp]
    split
    · exact ⟨_, rfl⟩
    · obtain ⟨t, ht⟩ := chk_ends x.f1.f0 x.f1.f1
      rw [ht, Option.bind_some]
      split
      · exact lp_ends r _
      · exact ⟨_, rfl⟩
theorem Check_ends (nm : ByteArray) (l : List AC) (hm : l.length ≤ 4611686018427387904) : ∃ r, schema_Check.f nm l = some r := by
  unfold schema_Check.f
  rw [if_pos hm]
  split
  · split
    · exact ⟨_, rfl⟩
    · obtain ⟨x, hx⟩ := lp_ends l []
      rw [hx]; exact ⟨_, rfl⟩
  · exact ⟨_, rfl⟩
end Go.Proofs.YtmeopdjdjmjngaaGreatDoor.I
