/- Capitals by runes and by bytes: a word of ASCII capitals comes of the same texts. -/
import Derived.Lib.MapLaws
import Derived.Lib.TrimAscii
import Derived.Test.YtjpgjggbanpegaaGreatDoorStrB
import Derived.Test.YtjpgjggbanpegaaGreatDoorE4
import Derived.Test.YtjpgjggbanpegaaGreatDoorE8
namespace Go.Proofs.YtjpgjggbanpegaaGreatDoor.Pure
open Go.RowKit Go.Proofs.YtjpgjggbanpegaaGreatDoor.E Go.Proofs.YtjpgjggbanpegaaGreatDoor.Str
theorem enc_low (r : Int) (h0 : 0 ≤ r) (h1 : r ≤ 127) : Lib.encodeRune r = [r.toNat.toUInt8] := by
  unfold Lib.encodeRune
  rw [Lib.encodeRuneZ_one h0 h1]
  rfl
theorem up_low (b : UInt8) (h : b.toNat < 128) : 0 ≤ value_capitals.up (b.toNat : Int) ∧ Lib.encodeRune (value_capitals.up (b.toNat : Int)) = [colonnaderef02_upper.up b] := by
  have h32 : (32 : UInt8).toNat = 32 := rfl
  unfold value_capitals.up colonnaderef02_upper.up
  by_cases c1 : 97 ≤ b.toNat
  · rw [if_pos (show (97 : Int) ≤ (b.toNat : Int) by omega)]
    by_cases c2 : b.toNat ≤ 122
    · rw [if_pos (show (b.toNat : Int) ≤ 122 by omega), if_pos ⟨c1, c2⟩, enc_low _ (by omega) (by omega)]
      refine ⟨by omega, ?_⟩
      congr 1
      apply UInt8.toNat_inj.1
      rw [UInt8.toNat_sub_of_le _ _ (by rw [UInt8.le_iff_toNat_le]; omega), h32]
      show (UInt8.ofNat ((b.toNat : Int) - 32).toNat).toNat = _
      rw [UInt8.toNat_ofNat']
      omega
    · rw [if_neg (show ¬ (b.toNat : Int) ≤ 122 by omega), if_neg (by omega), enc_low _ (by omega) (by omega)]
      refine ⟨by omega, ?_⟩
      congr 1
      show UInt8.ofNat ((b.toNat : Int)).toNat = b
      rw [Int.toNat_natCast]; exact UInt8.ofNat_toNat
  · rw [if_neg (show ¬ (97 : Int) ≤ (b.toNat : Int) by omega), if_neg (by omega), enc_low _ (by omega) (by omega)]
    refine ⟨by omega, ?_⟩
    congr 1
    show UInt8.ofNat ((b.toNat : Int)).toNat = b
    rw [Int.toNat_natCast]; exact UInt8.ofNat_toNat
theorem mapD_hi (b : UInt8) (t : List UInt8) (h : 128 ≤ b.toNat) : ∃ c r, Lib.mapD value_capitals.up (b :: t) = c :: r ∧ 128 ≤ c.toNat := by
  have hne : b :: t ≠ [] := by simp
  rw [Lib.mapD_step _ _ hne]
  by_cases hv : (Lib.decodeL (b :: t)).1 = 65533 ∧ (Lib.decodeL (b :: t)).2 = 1
  · rw [hv.1]
    have e : value_capitals.up ((65533 : Nat) : Int) = 65533 := by decide
    rw [e, if_pos (by decide)]
    exact ⟨239, _, rfl, by decide⟩
  · have he := Lib.encode_decode (b :: t) hne hv
    have hw := Lib.decodeL_width (b :: t)
    obtain ⟨m, hm⟩ : ∃ m, (Lib.decodeL (b :: t)).2 = m + 1 := ⟨(Lib.decodeL (b :: t)).2 - 1, by omega⟩
    rw [hm, List.take_succ_cons] at he
    have hr : 128 ≤ (Lib.decodeL (b :: t)).1 := by
      apply Classical.byContradiction
      intro z
      rw [enc_low _ (by omega) (by omega)] at he
      have := (List.cons.inj he).1
      rw [Int.toNat_natCast] at this
      have h2 : (UInt8.ofNat (Lib.decodeL (b :: t)).1).toNat = b.toNat := congrArg UInt8.toNat this
      rw [UInt8.toNat_ofNat'] at h2
      omega
    have e : value_capitals.up (((Lib.decodeL (b :: t)).1 : Nat) : Int) = (((Lib.decodeL (b :: t)).1 : Nat) : Int) := by
      unfold value_capitals.up
      rw [if_pos (by omega), if_neg (by omega)]
    rw [e, if_pos (by omega), he]
    exact ⟨b, _, rfl, h⟩
theorem caps_iff : ∀ (n : Nat) (l T : List UInt8), l.length ≤ n → (∀ c ∈ T, c.toNat < 128) → (Lib.mapD value_capitals.up l = T ↔ l.map colonnaderef02_upper.up = T) := by
  intro n
  induction n with
  | zero =>
    intro l T hl _
    have : l = [] := List.length_eq_zero_iff.1 (by omega)
    subst this
    rw [Lib.mapD_nil]
    rfl
  | succ n ih =>
    intro l T hl hT
    cases l with
    | nil => rw [Lib.mapD_nil]; rfl
    | cons b t =>
      rw [List.length_cons] at hl
      by_cases hb : b.toNat < 128
      · obtain ⟨u1, u2⟩ := up_low b hb
        rw [Lib.mapD_step _ _ (by simp), Lib.decodeL_ascii b t hb]
        simp only []
        rw [if_pos u1, u2, List.map_cons]
        cases T with
        | nil => exact ⟨fun z => by (cases z), fun z => by (cases z)⟩
        | cons c T =>
          have := ih t T (by omega) (fun x hx => hT x (List.mem_cons_of_mem _ hx))
          constructor
          · intro z
            obtain ⟨z1, z2⟩ := List.cons.inj z
            rw [z1, this.1 z2]
          · intro z
            obtain ⟨z1, z2⟩ := List.cons.inj z
            show colonnaderef02_upper.up b :: Lib.mapD value_capitals.up t = c :: T
            rw [z1, this.2 z2]
      · obtain ⟨c, r, e, hc⟩ := mapD_hi b t (by omega)
        have hu : colonnaderef02_upper.up b = b := by unfold colonnaderef02_upper.up; rw [if_neg (by omega)]
        rw [e, List.map_cons, hu]
        cases T with
        | nil => exact ⟨fun z => by (cases z), fun z => by (cases z)⟩
        | cons d T =>
          have := hT d (by simp)
          constructor
          · intro z
            have := (List.cons.inj z).1
            subst this
            omega
          · intro z
            have := (List.cons.inj z).1
            subst this
            omega
end Go.Proofs.YtjpgjggbanpegaaGreatDoor.Pure
