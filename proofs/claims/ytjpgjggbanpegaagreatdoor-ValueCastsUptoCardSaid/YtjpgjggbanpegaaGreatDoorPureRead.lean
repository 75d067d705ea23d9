/- A text as a value: value.read and the reference's say the same, for texts that are not too great. -/
import Derived.Test.YtjpgjggbanpegaaGreatDoorPureDecs
import Derived.Test.YtjpgjggbanpegaaGreatDoorPureScale
import Derived.Test.YtjpgjggbanpegaaGreatDoorPureCaps
import Derived.Test.YtjpgjggbanpegaaGreatDoorE10
import Derived.Test.YtjpgjggbanpegaaGreatDoorE4
import Derived.Test.YtjpgjggbanpegaaGreatDoorE5
import Derived.Test.YtjpgjggbanpegaaGreatDoorE8
namespace Go.Proofs.YtjpgjggbanpegaaGreatDoor.Pure
open Go.RowKit Go.Proofs.YtjpgjggbanpegaaGreatDoor.E Go.Proofs.YtjpgjggbanpegaaGreatDoorW.PrintWords Go.Proofs.YtjpgjggbanpegaaGreatDoorW.PrintLast Go.Proofs.YtjpgjggbanpegaaGreatDoor.Str Go.Proofs.YtjpgjggbanpegaaGreatDoor.Cal
theorem B_eq (x : List UInt8) (a : Array UInt8) : (B x = (⟨a⟩ : ByteArray)) ↔ x = a.toList := by
  rw [show (⟨a⟩ : ByteArray) = B a.toList from by simp [B]]
  exact ⟨fun h => B_inj h, fun h => by rw [h]⟩
theorem read_both (k : Nat) (hk : 1000000000 ≤ k) (l : List UInt8) (hl : l.length ≤ 67108864) (t0 t1 : Int) : ∃ r, value_read.f k (B l) t0 t1 = some r ∧ colonnaderef02_read.f k (B l) t0 t1 = some r := by
  unfold value_read.f colonnaderef02_read.f
  by_cases c1 : t0 = 1
  · subst c1
    rw [if_pos rfl, if_pos rfl]
    unfold value_capitals.f colonnaderef02_upper.f
    rw [if_pos (by rw [B_size]; omega), if_pos (by rw [B_size]; omega), Option.bind_some, Option.bind_some, B_data]
    have e1 := caps_iff l.length l [84, 82, 85, 69] (Nat.le_refl _) (by decide)
    have e2 := caps_iff l.length l [70, 65, 76, 83, 69] (Nat.le_refl _) (by decide)
    show ∃ r, (if B (Lib.mapD value_capitals.up l) = _ then _ else if B (Lib.mapD value_capitals.up l) = _ then _ else _) = some r ∧ (if (B (l.map colonnaderef02_upper.up)).toList = _ then _ else if (B (l.map colonnaderef02_upper.up)).toList = _ then _ else _) = some r
    rw [B_toList]
    by_cases d1 : l.map colonnaderef02_upper.up = [84, 82, 85, 69]
    · rw [if_pos d1, if_pos ((B_eq _ _).2 (e1.2 d1))]
      exact ⟨_, rfl, rfl⟩
    · rw [if_neg d1, if_neg (fun z => d1 (e1.1 ((B_eq _ _).1 z)))]
      by_cases d2 : l.map colonnaderef02_upper.up = [70, 65, 76, 83, 69]
      · rw [if_pos d2, if_pos ((B_eq _ _).2 (e2.2 d2))]
        exact ⟨_, rfl, rfl⟩
      · rw [if_neg d2, if_neg (fun z => d2 (e2.1 ((B_eq _ _).1 z)))]
        exact ⟨_, rfl, rfl⟩
  · rw [if_neg c1, if_neg c1]
    by_cases c2 : t0 = 2
    · subst c2
      obtain ⟨r, e1, e2⟩ := ParseInt_both k l (by omega) (by omega)
      rw [if_pos rfl, if_pos rfl, e1, e2, Option.bind_some, Option.bind_some]
      exact ⟨_, rfl, rfl⟩
    · rw [if_neg c2, if_neg c2]
      by_cases c3 : t0 = 3
      · subst c3
        obtain ⟨r, e1, e2, e3⟩ := ParseDec_both k l (by omega) (by omega)
        rw [if_pos rfl, if_pos rfl, e1, e2, Option.bind_some, Option.bind_some]
        by_cases d : r.2.2 = 0
        · rw [if_pos d, if_pos d]
          obtain ⟨q, q1, q2⟩ := Scale_same k (by omega) e3 r.2.1 t1
          rw [q1, q2, Option.bind_some, Option.bind_some]
          exact ⟨_, rfl, rfl⟩
        · rw [if_neg d, if_neg d]
          exact ⟨_, rfl, rfl⟩
      · rw [if_neg c3, if_neg c3]
        by_cases c5 : t0 = 5
        · subst c5
          obtain ⟨r, e1, e2⟩ := ParseDay_both k l (by omega)
          rw [if_pos rfl, if_pos rfl, e1, e2, Option.bind_some, Option.bind_some]
          exact ⟨_, rfl, rfl⟩
        · rw [if_neg c5, if_neg c5]
          exact ⟨_, rfl, rfl⟩
end Go.Proofs.YtjpgjggbanpegaaGreatDoor.Pure
