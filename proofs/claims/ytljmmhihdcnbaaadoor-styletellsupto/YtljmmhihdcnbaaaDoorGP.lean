/- glazierplain.Attrs: what it computes (out of the print program's text), and its walk by hand. -/
import Derived.Test.YtljmmhihdcnbaaaDoorG64
import Derived.Test.YtljmmhihdcnbaaaDoorGB
import Derived.Deep.DrawnRows
namespace Go.Proofs.YtljmmhihdcnbaaaDoor.G
open Go.RowKit Go.Proofs.YtljmmhihdcnbaaaDoorW.PrintWords Go.Proofs.YtljmmhihdcnbaaaDoorW.PrintLast Go.Proofs.YtljmmhihdcnbaaaDoorW.PrintMore
attribute [local go_sem] max2_int min2_int max_two min_two max_three min_three max_four min_four   -- for this text's walks alone
set_option linter.unusedVariables false
set_option linter.unusedSimpArgs false
attribute [local go_sem ↓] Go.wp_at_zero Go.wp_at_succ
def glazierplain_Attrs.l0 : Nat → List (S32) → List (S32) → Int → Option (Bool)
 | 0, _, _, _ => none
 | k + 1, x0, x1, x5 => if x5 < (x0.length : Int) then (if 0 ≤ x5 then (if x5 < (x1.length : Int) then ((glazierplain_Str.f k ((rd_T32 x0 x5).f0.f0) ((rd_T32 x0 x5).f0.f1) ((rd_T32 x1 x5).f0.f0) ((rd_T32 x1 x5).f0.f1)).bind fun t391 => (if t391 = true then ((glazierplain_Str.f k ((rd_T32 x0 x5).f1.f0) ((rd_T32 x0 x5).f1.f1) ((rd_T32 x1 x5).f1.f0) ((rd_T32 x1 x5).f1.f1)).bind fun t394 => (if t394 = true then (glazierplain_Attrs.l0 k x0 x1 (wrap64 (x5 + 1))) else (some false))) else (some false))) else (none)) else (none)) else (some true)
def glazierplain_Attrs.f (k : Nat) (l0 : List (S32)) (l1 : List (S32)) : Option (Bool) := if (l0.length : Int) = (l1.length : Int) then (glazierplain_Attrs.l0 k l0 l1 0) else (some false)
set_option maxHeartbeats 6400000 in
set_option maxRecDepth 100000 in
/-- The walk of Attrs where it answers yes. -/
theorem glazierplain_Attrs.yes (k : Nat) (A0 : Option Addr) (c0 : Nat) (l0 : List (S32)) (A1 : Option Addr) (c1 : Nat) (l1 : List (S32)) (w : World) (hr0 : Kd.C k32 w A0 l0.length l0) (hc0 : l0.length ≤ c0) (hr1 : Kd.C k32 w A1 l1.length l1) (hc1 : l1.length ≤ c1) (h : glazierplain_Attrs.f k l0 l1 = some true) :
    Calls Tryd.prog 25 #[.slice A0 l0.length c0, .slice A1 l1.length c1] w fun e w' => e = .returned (.bool true) ∧ Below w.heap.size w w' := by
  have hu24 := Tryd.underlying24
  unfold glazierplain_Attrs.f at h
  have HR0 := Aside0.mk hr0
  have HR1 := Aside0.mk hr1
  clear hr0 hc0 hr1 hc1
  by_cases hl : (l0.length : Int) = (l1.length : Int)
  case neg => rw [if_neg hl] at h; exact absurd (Option.some.inj h) (by decide)
  case pos =>
  rw [if_pos hl] at h
  have H' := Aside0.mk h
  have HL := Aside0.mk hl
  have cl1 : (l0.length != l1.length) = false := bne_eq_false_iff_eq.mpr (by omega)
  have cl2 : ((l0.length : Int) != (l1.length : Int)) = false := bne_eq_false_iff_eq.mpr hl
  clear h hl
  go_enter Tryd.func25, Tryd.ntmps25
  go_wp2_with fail
  go_loopg [5] k (fun kq v5 w' => ∃ x5 : Int, v5 = .int .i64 x5 ∧ Aside0 (glazierplain_Attrs.l0 kq l0 l1 x5 = some true) ∧ Aside0 (kq ≤ k) ∧ Aside0 (Below w.heap.size w w'))
  case atStart => exact ⟨0, rfl, H', ⟨Nat.le_refl _⟩, ⟨Below.refl _ _⟩⟩
  case round =>
    clear H'
    obtain ⟨x5, rfl, HA, HK, HB⟩ := hrel
    cases gk with
    | zero => exact absurd HA.out (by simp [glazierplain_Attrs.l0])
    | succ k1 =>
    have H := HA.out
    clear HA
    simp only [glazierplain_Attrs.l0] at H
    by_cases c : x5 < (l0.length : Int)
    case neg =>
      have cb : decide (x5 < (l0.length : Int)) = false := decide_eq_false c
      clear c H
      go_wp2_with fail
      go_ret
      exact ⟨rfl, HB.out⟩
    case pos =>
    rw [if_pos c] at H
    have cb : decide (x5 < (l0.length : Int)) = true := decide_eq_true c
    by_cases p : 0 ≤ x5
    case neg => rw [if_neg p] at H; exact absurd H (by simp)
    rw [if_pos p, if_pos (show x5 < (l1.length : Int) by have := HL.out; omega)] at H
    obtain ⟨ad, B1, b1, B3, b3, e7, hx0, hx1, hx2, hx3, hl1, hC1, hl3, hC3⟩ := at_T32 (Kd.C_below HR0.out HB.out) x5 p c
    subst e7
    obtain ⟨ae, C1, d1, C3, d3, e7, hy0, hy1, hy2, hy3, hm1, hD1, hm3, hD3⟩ := at_T32 (Kd.C_below HR1.out HB.out) x5 p (by have := HL.out; omega)
    subst e7
    have U1 := Aside0.mk (Txt.mk hC1 hl1); have U3 := Aside0.mk (Txt.mk hC3 hl3); have V1 := Aside0.mk (Txt.mk hD1 hm1); have V3 := Aside0.mk (Txt.mk hD3 hm3)
    have E0 := Aside0.mk hx0; have E1 := Aside0.mk hx1; have E2 := Aside0.mk hx2; have E3 := Aside0.mk hx3; have E4 := Aside0.mk hy0; have E5 := Aside0.mk hy1; have E6 := Aside0.mk hy2; have E7 := Aside0.mk hy3
    have pb : (0 ≤ x5) = True := eq_true p
    have qb : (x5 < (l0.length : Int)) = True := eq_true c
    have qb1 : (x5 < (l1.length : Int)) = True := eq_true (by have := HL.out; omega)
    clear hl1 hC1 hl3 hC3 hm1 hD1 hm3 hD3 c p
    obtain ⟨b1', hb1, H⟩ := Option.bind_eq_some_iff.mp H
    have K1 := Aside0.mk hb1
    clear hb1
    go_wp2_with fail
    cases b1' with
    | false => exact absurd (Option.some.inj ((if_neg (by decide)).symm.trans H)) (by decide)
    | true =>
      obtain ⟨b2, hb2, H⟩ := Option.bind_eq_some_iff.mp ((if_pos rfl).symm.trans H)
      have K2 := Aside0.mk hb2
      clear hb2
      cases b2 with
      | false => exact absurd (Option.some.inj ((if_neg (by decide)).symm.trans H)) (by decide)
      | true =>
        have H2 := Aside0.mk ((if_pos rfl).symm.trans H)
        clear H
        go_region_held3 (fun W => W.cell? (ad.add (x5.toNat * 4)) = some (.string (rd_T32 l0 x5).f0.f0) ∧ W.cell? ⟨(ad.add (x5.toNat * 4)).block, (ad.add (x5.toNat * 4)).off + 1, none⟩ = some (.slice B1 (rd_T32 l0 x5).f0.f1.length b1) ∧ W.cell? ⟨(ad.add (x5.toNat * 4)).block, (ad.add (x5.toNat * 4)).off + 2, none⟩ = some (.string (rd_T32 l0 x5).f1.f0) ∧ W.cell? ⟨(ad.add (x5.toNat * 4)).block, (ad.add (x5.toNat * 4)).off + 3, none⟩ = some (.slice B3 (rd_T32 l0 x5).f1.f1.length b3) ∧ W.cell? (ae.add (x5.toNat * 4)) = some (.string (rd_T32 l1 x5).f0.f0) ∧ W.cell? ⟨(ae.add (x5.toNat * 4)).block, (ae.add (x5.toNat * 4)).off + 1, none⟩ = some (.slice C1 (rd_T32 l1 x5).f0.f1.length d1) ∧ W.cell? ⟨(ae.add (x5.toNat * 4)).block, (ae.add (x5.toNat * 4)).off + 2, none⟩ = some (.string (rd_T32 l1 x5).f1.f0) ∧ W.cell? ⟨(ae.add (x5.toNat * 4)).block, (ae.add (x5.toNat * 4)).off + 3, none⟩ = some (.slice C3 (rd_T32 l1 x5).f1.f1.length d3))
          (first
            | exact ⟨pw_cell_below (by repeat (first | exact HV2.out | exact HV1.out | exact Below.refl _ _ | apply below_alloc | apply below_drew1 | apply pw_below_drewN)) E0.out, pw_cell_below (by repeat (first | exact HV2.out | exact HV1.out | exact Below.refl _ _ | apply below_alloc | apply below_drew1 | apply pw_below_drewN)) E1.out, pw_cell_below (by repeat (first | exact HV2.out | exact HV1.out | exact Below.refl _ _ | apply below_alloc | apply below_drew1 | apply pw_below_drewN)) E2.out, pw_cell_below (by repeat (first | exact HV2.out | exact HV1.out | exact Below.refl _ _ | apply below_alloc | apply below_drew1 | apply pw_below_drewN)) E3.out, pw_cell_below (by repeat (first | exact HV2.out | exact HV1.out | exact Below.refl _ _ | apply below_alloc | apply below_drew1 | apply pw_below_drewN)) E4.out, pw_cell_below (by repeat (first | exact HV2.out | exact HV1.out | exact Below.refl _ _ | apply below_alloc | apply below_drew1 | apply pw_below_drewN)) E5.out, pw_cell_below (by repeat (first | exact HV2.out | exact HV1.out | exact Below.refl _ _ | apply below_alloc | apply below_drew1 | apply pw_below_drewN)) E6.out, pw_cell_below (by repeat (first | exact HV2.out | exact HV1.out | exact Below.refl _ _ | apply below_alloc | apply below_drew1 | apply pw_below_drewN)) E7.out⟩
            | go_keep)
          ((first
            | (go_at_call 48; (with_reducible refine (glazierplain_Str.calls k1 _ _ _ _ _ _ _ _ true _ (U1.out.go (by repeat (first | exact Below.refl _ _ | apply below_alloc | apply below_drew1 | apply pw_below_drewN))).C U1.out.le (V1.out.go (by repeat (first | exact Below.refl _ _ | apply below_alloc | apply below_drew1 | apply pw_below_drewN))).C V1.out.le K1.out).mono ?_); rintro e v1 ⟨rfl, hb⟩; have HV1 := Aside0.mk (below_step (show Below wr.heap.size wr _ from (by repeat (first | exact Below.refl _ _ | apply below_alloc | apply below_drew1 | apply pw_below_drewN))) hb))
            | (go_at_call 48; (with_reducible refine (glazierplain_Str.calls k1 _ _ _ _ _ _ _ _ true _ (U3.out.go (by repeat (first | exact HV1.out | exact Below.refl _ _ | apply below_alloc | apply below_drew1 | apply pw_below_drewN))).C U3.out.le (V3.out.go (by repeat (first | exact HV1.out | exact Below.refl _ _ | apply below_alloc | apply below_drew1 | apply pw_below_drewN))).C V3.out.le K2.out).mono ?_); rintro e v2 ⟨rfl, hb⟩; have HV2 := Aside0.mk (below_step (show Below wr.heap.size wr _ from (by repeat (first | exact HV1.out | exact Below.refl _ _ | apply below_alloc | apply below_drew1 | apply pw_below_drewN))) hb))))
        go_wp2_with fail
        go_roundg k1
        case measure => omega
        case rel => exact ⟨wrap64 (x5 + 1), rfl, H2, ⟨by have := HK.out; omega⟩, ⟨below_step HB.out HV2.out⟩⟩
end Go.Proofs.YtljmmhihdcnbaaaDoor.G
