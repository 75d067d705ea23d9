/- ValueKeys: the law's walk: true, where the checks, the keys and the hashes are as the law says. Conditions: those of the theorem. -/
import Derived.Test.YtjpgjggbanpegaaDoorAux
import Derived.WalkKit
import Derived.Test.YtjpgjggbanpegaaDoorV5
import Derived.Test.YtjpgjggbanpegaaDoorV6
namespace Go.Proofs.YtjpgjggbanpegaaDoor.V
open Go.RowKit Go.Proofs.YtjpgjggbanpegaaDoorW.PrintWords Go.Proofs.YtjpgjggbanpegaaDoorW.PrintLast Go.Proofs.YtjpgjggbanpegaaDoorW.PrintMore
abbrev KV := S25
theorem keysLaw.info : (Tryd.prog.info? 25).map (fun i => (i.zero, i.size, i.bytes)) = some (some (.agg #[.int .i64 0, .int .i64 0, .bool false, .int .i64 0, .string ⟨#[]⟩]), 5, 48) := by kernel_rfl
def keysLaw.chk (v : KV) : Option Int := value_Check.f v.f0.f0 v.f0.f1 v.f1 v.f2 v.f3
def keysLaw.all : List KV → Option Bool
  | [] => some true
  | v :: l => (keysLaw.chk v).bind fun c => if c = 0 then keysLaw.all l else some false
def keysLaw.fin (k : Nat) (a b : List KV) (z : Int) : Option Bool := (colonnaderef02_Same.f k a b).bind fun same => (colonnadelaw02_begun.f k).bind fun g => if g = true then
  (value_Key.f a).bind fun x => (value_Key.f b).bind fun y => if (x.toList == y.toList) = same then (if same = true then (value_Hash.f z a).bind fun p => (value_Hash.f z b).bind fun q => if p = q then some true else none else some true) else none else none
def keysLaw.f (k : Nat) (a b : List KV) (z : Int) : Option Bool := if (a.length + b.length) * 48 ≤ 140737488355328 then (keysLaw.all (a ++ b)).bind fun t => if t = true then keysLaw.fin k a b z else (if colonnadelaw02_begun.f k = some true then some true else none) else none
theorem keysLaw.drop (l : List KV) (j : Nat) (h : j < l.length) : l.drop j = rd_T25 l (j : Int) :: l.drop (j + 1) := by
  unfold rd_T25
  rw [List.drop_eq_getElem_cons h, Int.toNat_natCast, List.getD_eq_getElem?_getD, List.getElem?_eq_getElem h]; rfl
set_option maxHeartbeats 16000000 in
set_option maxRecDepth 100000 in
theorem keysLaw.calls (k : Nat) (A0 : Option Addr) (c0 : Nat) (l0 : List KV) (A1 : Option Addr) (c1 : Nat) (l1 : List KV) (a2 : Int) (r : Bool) (w : World) (hr0 : Kd.C k25 w A0 l0.length l0) (hc0 : l0.length ≤ c0) (hr1 : Kd.C k25 w A1 l1.length l1) (hc1 : l1.length ≤ c1) (h : keysLaw.f k l0 l1 a2 = some r) (hG : Gl w) :
    Calls Tryd.prog 7 #[.slice A0 l0.length c0, .slice A1 l1.length c1, .int .u64 a2] w fun e w' => e = .returned (.bool r) ∧ Below w.heap.size w w' := by
  unfold keysLaw.f at h
  by_cases hs : (l0.length + l1.length) * 48 ≤ 140737488355328
  · rw [if_pos hs] at h
    obtain ⟨t, hall, h⟩ := Option.bind_eq_some_iff.mp h
    have HR0 := Aside0.mk hr0
    have HR1 := Aside0.mk hr1
    have HG := Aside0.mk hG
    have HS := Aside0.mk hs
    obtain ⟨L, hL⟩ : ∃ L, l0 ++ l1 = L := ⟨_, rfl⟩
    rw [hL] at hall
    have hLn : L.length ≤ 140737488355328 := by rw [← hL, List.length_append]; omega
    have HL := Aside0.mk hL
    have HALL := Aside0.mk hall
    have HFIN := Aside0.mk h
    have HC0 := Aside0.mk hc0
    have HC1 := Aside0.mk hc1
    clear hr0 hr1 hG hs hall h hc0 hc1 hL
    go_enter Tryd.func7, Tryd.ntmps7
    go_wp2_with (first
      | ((with_reducible refine gate_builtin (b := .append) (xs := #[.const (.slice none 0 0), .tmp 10]) rfl ?_); at_builtin; refine Kd.R_append_rows k25 (w0 := w) w.heap.size rfl (.const (.slice none 0 0)) (.tmp 10) 34 25 _ 48 rfl Tryd.underlying34 keysLaw.info rfl (by decide) (by omega) (.slice none 0 0) [] l0 _ _ _ (fun _ => True) (fun _ => False) rfl rfl ?aO ?aR (fun _ _ h => h) (fun _ h => h.elim) ?aF ?aB ?aS ?aL ?_; (case aO => exact Kd.R_nil _ _ _ _ _); (case aR => exact HR0.out); (case aF => exact fun _ _ => trivial); (case aB => exact Below.refl _ _); (case aS => exact Nat.le_refl _); (case aL => have := HS.out; simp; omega); intro v1 w1 hR hB hg hn; have HA := Aside0.mk hR; have HB := Aside0.mk hB; clear hR hB hg hn; rw [List.nil_append] at HA)
      | ((with_reducible refine gate_builtin (b := .append) (xs := #[.tmp 11, .tmp 12]) rfl ?_); at_builtin; refine Kd.R_append_rows k25 (w0 := w) w.heap.size rfl (.tmp 11) (.tmp 12) 34 25 _ 48 rfl Tryd.underlying34 keysLaw.info rfl (by decide) (by omega) v1 l0 l1 _ _ _ (fun _ => True) (fun _ => False) rfl rfl ?bO ?bR (fun _ _ h => h) (fun _ h => h.elim) ?bF ?bB ?bS ?bL ?_; (case bO => exact HA.out); (case bR => exact Kd.C_below HR1.out HB.out); (case bF => exact fun _ _ => trivial); (case bB => exact HB.out); (case bS => exact HB.out.size); (case bL => exact HS.out); intro v2 w2 hR hB hg hn; rw [HL.out] at hR; clear HA HB; have HA := Aside0.mk hR; have HB := Aside0.mk hB; clear hR hB hg hn; obtain ⟨A2, c2, he2, hl2, hC2⟩ := Kd.R_reads HA.out; subst he2; have HC2 := Aside0.mk hC2; have HL2 := Aside0.mk hl2; clear hC2 hl2 HA))
    have hW2 : w.heap.size ≤ w2.heap.size := HB.out.size
    go_loopg [15] L.length (fun kq v15 wr => ∃ (j : Nat), v15 = .int .i64 (j : Int) ∧ Aside0 (j + kq = L.length) ∧ Aside0 (keysLaw.all (L.drop j) = some t) ∧ Aside0 (Below w2.heap.size w2 wr))
    case atStart => exact ⟨0, rfl, ⟨by omega⟩, ⟨by rw [List.drop_zero]; exact HALL.out⟩, ⟨Below.refl _ _⟩⟩
    case round =>
      clear HALL
      obtain ⟨j, rfl, HJ, HD, HW⟩ := hrel
      have HWW := Aside0.mk (HB.out.trans (HW.out.mono hW2))
      cases gk with
      | zero =>
        have hj : j = L.length := by have := HJ.out; omega
        subst hj
        have ht : t = true := by have := HD.out; rw [List.drop_length] at this; exact (Option.some.inj this).symm
        subst ht
        have d1 : decide ((L.length : Int) < (L.length : Int)) = false := decide_eq_false (by omega)
        have hfin := HFIN.out
        rw [if_pos rfl] at hfin
        unfold keysLaw.fin at hfin
        obtain ⟨same, hsame, hfin⟩ := Option.bind_eq_some_iff.mp hfin
        obtain ⟨g, hg, hfin⟩ := Option.bind_eq_some_iff.mp hfin
        by_cases hgt : g = true
        · subst hgt
          rw [if_pos rfl] at hfin
          obtain ⟨x, hx, hfin⟩ := Option.bind_eq_some_iff.mp hfin
          obtain ⟨y, hy, hfin⟩ := Option.bind_eq_some_iff.mp hfin
          by_cases he : (x.toList == y.toList) = same
          · rw [if_pos he] at hfin
            have AS := Aside0.mk hsame
            have A2 := Aside0.mk hg
            have A3 := Aside0.mk hx
            have A4 := Aside0.mk hy
            clear hsame hg hx hy HFIN HD
            cases same with
            | true =>
              rw [if_pos rfl] at hfin
              obtain ⟨p, hp, hfin⟩ := Option.bind_eq_some_iff.mp hfin
              obtain ⟨q, hq, hfin⟩ := Option.bind_eq_some_iff.mp hfin
              by_cases hpq : p = q
              · rw [if_pos hpq] at hfin
                obtain rfl := Option.some.inj hfin
                subst hpq
                have A5 := Aside0.mk hp
                have A6 := Aside0.mk hq
                clear hp hq hfin
                go_wp2_with (first 
                  | (go_at_call 42; (with_reducible refine (colonnaderef02_Same.calls k A0 c0 l0 A1 c1 l1 true _ (Kd.C_below HR0.out HWW.out) HC0.out (Kd.C_below HR1.out HWW.out) HC1.out AS.out).mono ?_); rintro e w9 ⟨rfl, hb0⟩; have hb := hb0.below; clear hb0; have n0_ := Aside0.mk (HWW.out.trans (hb.mono HWW.out.size)); clear HWW; have HWW := n0_; clear n0_ hb)
                  | (go_at_call 9; (with_reducible refine (colonnadelaw02_begun.calls k true _ A2.out (Gl.of HG.out HWW.out)).mono ?_); rintro e w9 ⟨rfl, hb⟩; have n0_ := Aside0.mk (HWW.out.trans (hb.mono HWW.out.size)); clear HWW; have HWW := n0_; clear n0_ hb)
                  | (go_at_call 14; (with_reducible refine (value_Key.calls A0 c0 l0 x _ (Kd.C_below HR0.out HWW.out) HC0.out A3.out (Gl.of HG.out HWW.out)).mono ?_); rintro e w9 ⟨rfl, hb⟩; have n0_ := Aside0.mk (HWW.out.trans (hb.mono HWW.out.size)); clear HWW; have HWW := n0_; clear n0_ hb)
                  | (go_at_call 14; (with_reducible refine (value_Key.calls A1 c1 l1 y _ (Kd.C_below HR1.out HWW.out) HC1.out A4.out (Gl.of HG.out HWW.out)).mono ?_); rintro e w9 ⟨rfl, hb⟩; have n0_ := Aside0.mk (HWW.out.trans (hb.mono HWW.out.size)); clear HWW; have HWW := n0_; clear n0_ hb)
                  | (go_at_call 16; (with_reducible refine (value_Hash.calls a2 A0 c0 l0 p _ (Kd.C_below HR0.out HWW.out) HC0.out A5.out (Gl.of HG.out HWW.out)).mono ?_); rintro e w9 ⟨rfl, hb⟩; have n0_ := Aside0.mk (HWW.out.trans (hb.mono HWW.out.size)); clear HWW; have HWW := n0_; clear n0_ hb)
                  | (go_at_call 16; (with_reducible refine (value_Hash.calls a2 A1 c1 l1 p _ (Kd.C_below HR1.out HWW.out) HC1.out A6.out (Gl.of HG.out HWW.out)).mono ?_); rintro e w9 ⟨rfl, hb⟩; have n0_ := Aside0.mk (HWW.out.trans (hb.mono HWW.out.size)); clear HWW; have HWW := n0_; clear n0_ hb))
                go_ret
                exact ⟨by first | rfl | simp, HWW.out⟩
              · rw [if_neg hpq] at hfin; cases hfin
            | false =>
              rw [if_neg (by decide)] at hfin
              obtain rfl := Option.some.inj hfin
              clear hfin
              go_wp2_with (first 
                | (go_at_call 42; (with_reducible refine (colonnaderef02_Same.calls k A0 c0 l0 A1 c1 l1 false _ (Kd.C_below HR0.out HWW.out) HC0.out (Kd.C_below HR1.out HWW.out) HC1.out AS.out).mono ?_); rintro e w9 ⟨rfl, hb0⟩; have hb := hb0.below; clear hb0; have n0_ := Aside0.mk (HWW.out.trans (hb.mono HWW.out.size)); clear HWW; have HWW := n0_; clear n0_ hb)
                | (go_at_call 9; (with_reducible refine (colonnadelaw02_begun.calls k true _ A2.out (Gl.of HG.out HWW.out)).mono ?_); rintro e w9 ⟨rfl, hb⟩; have n0_ := Aside0.mk (HWW.out.trans (hb.mono HWW.out.size)); clear HWW; have HWW := n0_; clear n0_ hb)
                | (go_at_call 14; (with_reducible refine (value_Key.calls A0 c0 l0 x _ (Kd.C_below HR0.out HWW.out) HC0.out A3.out (Gl.of HG.out HWW.out)).mono ?_); rintro e w9 ⟨rfl, hb⟩; have n0_ := Aside0.mk (HWW.out.trans (hb.mono HWW.out.size)); clear HWW; have HWW := n0_; clear n0_ hb)
                | (go_at_call 14; (with_reducible refine (value_Key.calls A1 c1 l1 y _ (Kd.C_below HR1.out HWW.out) HC1.out A4.out (Gl.of HG.out HWW.out)).mono ?_); rintro e w9 ⟨rfl, hb⟩; have n0_ := Aside0.mk (HWW.out.trans (hb.mono HWW.out.size)); clear HWW; have HWW := n0_; clear n0_ hb))
              go_ret
              exact ⟨by first | rfl | simp, HWW.out⟩
          · rw [if_neg he] at hfin; cases hfin
        · rw [if_neg hgt] at hfin; cases hfin
      | succ k1 =>
        have hlt : j < L.length := by have := HJ.out; omega
        have d1 : decide ((j : Int) < (L.length : Int)) = true := decide_eq_true (by omega)
        have hd := HD.out
        rw [keysLaw.drop _ j hlt] at hd
        have hC := Kd.C_below HC2.out HW.out
        obtain ⟨ad, rfl, hx0, hx1, hx2, hx3, hx4⟩ := at_T25 hC (j : Int) (by omega) (by omega)
        simp only [Int.toNat_natCast] at hx0 hx1 hx2 hx3 hx4
        obtain ⟨v, hv⟩ : ∃ v, rd_T25 L (j : Int) = v := ⟨_, rfl⟩
        rw [hv] at hx0 hx1 hx2 hx3 hx4 hd
        clear hv hC HD
        obtain ⟨⟨kd, sc⟩, nu, n, s⟩ := v
        simp only at hx0 hx1 hx2 hx3 hx4
        unfold keysLaw.all at hd
        obtain ⟨c, hc, hd⟩ := Option.bind_eq_some_iff.mp hd
        have hc' : value_Check.f kd sc nu n s = some c := hc
        have AC := Aside0.mk hc'
        clear hc hc'
        by_cases hz : c = 0
        · subst hz
          rw [if_pos rfl] at hd
          have HD := Aside0.mk hd
          clear hd
          go_wp2_with (first | (go_at_call 20; (with_reducible refine (value_Check.calls kd sc nu n s 0 _ AC.out).mono ?_); rintro e w3 ⟨rfl, hb⟩; have n0_ := Aside0.mk (HW.out.trans (Below.mono (((Below.refl _ _).alloc (Nat.le_refl _) _).trans (hb.mono (by simp))) HW.out.size)); clear HW; have HW := n0_; clear n0_ hb))
          go_roundg k1
          case measure => have := HJ.out; omega
          case rel => exact ⟨j + 1, (by first | rfl | (simp; done)), ⟨by have := HJ.out; omega⟩, HD, HW⟩
        · rw [if_neg hz] at hd
          obtain rfl := Option.some.inj hd
          clear hd
          have hfin := HFIN.out
          rw [if_neg (by decide)] at hfin
          by_cases hg : colonnadelaw02_begun.f k = some true
          · rw [if_pos hg] at hfin
            obtain rfl := Option.some.inj hfin
            have AG := Aside0.mk hg
            have d2 : (c == 0) = false := beq_eq_false_iff_ne.2 hz
            have d3 : (c != 0) = true := bne_iff_ne.2 hz
            clear hg hz hfin
            go_wp2_with (first
              | (go_at_call 20; (with_reducible refine (value_Check.calls kd sc nu n s c _ AC.out).mono ?_); rintro e w3 ⟨rfl, hb⟩; have n0_ := Aside0.mk (HWW.out.trans (Below.mono (((Below.refl _ _).alloc (Nat.le_refl _) _).trans (hb.mono (by simp))) HWW.out.size)); clear HWW; have HWW := n0_; clear n0_ hb)
              | (go_at_call 9; (with_reducible refine (colonnadelaw02_begun.calls k true _ AG.out (Gl.of HG.out HWW.out)).mono ?_); rintro e w4 ⟨rfl, hb⟩; have n0_ := Aside0.mk (HWW.out.trans (hb.mono HWW.out.size)); clear HWW; have HWW := n0_; clear n0_ hb))
            go_ret
            exact ⟨by first | rfl | simp, HWW.out⟩
          · rw [if_neg hg] at hfin; cases hfin
  · rw [if_neg hs] at h; exact absurd h (by simp)
end Go.Proofs.YtjpgjggbanpegaaDoor.V
