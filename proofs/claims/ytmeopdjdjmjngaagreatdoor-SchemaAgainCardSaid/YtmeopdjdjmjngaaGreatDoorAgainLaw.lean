/- SchemaAgain as a function: true, where the row that is fitted is, fitted again, the same. -/
import Derived.Test.YtmeopdjdjmjngaaGreatDoorAgainLaw11
import Derived.Test.YtmeopdjdjmjngaaGreatDoorG5
import Derived.Test.YtmeopdjdjmjngaaGreatDoorG6
namespace Go.Proofs.YtmeopdjdjmjngaaGreatDoor.G
open Go.RowKit Go.Lib Go.Proofs.YtmeopdjdjmjngaaGreatDoorW.PrintWords Go.Proofs.YtmeopdjdjmjngaaGreatDoorW.PrintLast
def colonnadelaw11_SchemaAgain.f (k : Nat) (a0_0 : ByteArray) (l0_1 : List AC) (l1 : List AV) : Option Bool :=
  (schema_Fit.f k a0_0 l0_1 l1).bind fun r => if colonnadelaw11_begun.f k = some true ∧ l1.length ≤ 1000000000000000000 then
    (if r.2 = 0 then (if r.1.length = l1.length ∧ l1.length = l0_1.length ∧ ((List.range l1.length).all fun (j : Nat) => rowOk (rd_T41 r.1 (j : Int)) (rd_T41 l1 (j : Int)) (rd_T36 l0_1 (j : Int))) = true then
      (schema_Check.f a0_0 l0_1).bind fun _ => (api_Value.f l1).bind fun _ => (schema_Fit.f k a0_0 l0_1 r.1).bind fun s => (if s.2 = 0 ∧ colonnaderef02_Same.f k r.1 s.1 = some true then some true else none) else none)
    else (if r.1.isEmpty = true then some true else none)) else none
theorem colonnadelaw11_SchemaAgain.calls (k : Nat) (a0_0 : ByteArray) (A0_1 : Option Addr) (c0_1 : Nat) (l0_1 : List (S36)) (A1 : Option Addr) (c1 : Nat) (l1 : List (S41)) (r : Bool) (w : World) (hr0_1 : Kd.C k36 w A0_1 l0_1.length l0_1) (hc0_1 : l0_1.length ≤ c0_1) (hr1 : Kd.C k41 w A1 l1.length l1) (hc1 : l1.length ≤ c1) (h : colonnadelaw11_SchemaAgain.f k a0_0 l0_1 l1 = some r) (hG : Gl w) :
    Calls Tryz.prog 5 #[.agg #[.string a0_0, .slice A0_1 l0_1.length c0_1], .slice A1 l1.length c1] w fun e w' => e = .returned (.bool r) ∧ Below w.heap.size w w' := by
  unfold colonnadelaw11_SchemaAgain.f at h
  obtain ⟨⟨r1, r2⟩, hfit, h⟩ := Option.bind_eq_some_iff.mp h
  by_cases c : colonnadelaw11_begun.f k = some true ∧ l1.length ≤ 1000000000000000000
  · rw [if_pos c] at h
    by_cases z : r2 = 0
    · subst z
      rw [if_pos rfl] at h
      by_cases d : r1.length = l1.length ∧ l1.length = l0_1.length ∧ ((List.range l1.length).all fun (j : Nat) => rowOk (rd_T41 r1 (j : Int)) (rd_T41 l1 (j : Int)) (rd_T36 l0_1 (j : Int))) = true
      · rw [if_pos d] at h
        obtain ⟨ec, hchk, h⟩ := Option.bind_eq_some_iff.mp h
        obtain ⟨bv, hval, h⟩ := Option.bind_eq_some_iff.mp h
        obtain ⟨⟨s1, s2⟩, hfit2, h⟩ := Option.bind_eq_some_iff.mp h
        by_cases e : s2 = 0 ∧ colonnaderef02_Same.f k r1 s1 = some true
        · rw [if_pos e] at h
          obtain rfl := Option.some.inj h
          obtain ⟨rfl, e2⟩ := e
          exact again_yes k a0_0 A0_1 c0_1 l0_1 A1 c1 l1 w hr0_1 hc0_1 hr1 hc1 r1 hfit d.1 d.2.1 c.2 (fun j hj => List.all_eq_true.1 d.2.2 j (List.mem_range.2 hj)) ec hchk bv hval s1 hfit2 e2 c.1 hG
        · rw [if_neg e] at h; cases h
      · rw [if_neg d] at h; cases h
    · rw [if_neg z] at h
      by_cases d : r1.isEmpty = true
      · rw [if_pos d] at h
        obtain rfl := Option.some.inj h
        obtain rfl := List.isEmpty_iff.1 d
        exact again_no k a0_0 A0_1 c0_1 l0_1 A1 c1 l1 w hr0_1 hc0_1 hr1 hc1 r2 hfit z c.1 hG
      · rw [if_neg d] at h; cases h
  · rw [if_neg c] at h; cases h
end Go.Proofs.YtmeopdjdjmjngaaGreatDoor.G
