/- glazierlaw44.parts: what it computes (out of the print program's text), and its walk by hand. -/
import Derived.Test.YtljmmhihdcnbaaaDoorG0
import Derived.Test.YtljmmhihdcnbaaaDoorG6
import Derived.Test.YtljmmhihdcnbaaaDoorG11
import Derived.Test.YtljmmhihdcnbaaaDoorG18
import Derived.Test.YtljmmhihdcnbaaaDoorG20
import Derived.Test.YtljmmhihdcnbaaaDoorG22
import Derived.Test.YtljmmhihdcnbaaaDoorGB
import Derived.Deep.DrawnRows
namespace Go.Proofs.YtljmmhihdcnbaaaDoor.G
open Go.RowKit Go.Proofs.YtljmmhihdcnbaaaDoorW.PrintWords Go.Proofs.YtljmmhihdcnbaaaDoorW.PrintLast Go.Proofs.YtljmmhihdcnbaaaDoorW.PrintMore
attribute [local go_sem] max2_int min2_int max_two min_two max_three min_three max_four min_four   -- for this text's walks alone
set_option linter.unusedVariables false
set_option linter.unusedSimpArgs false
attribute [local go_sem ↓] Go.wp_at_zero Go.wp_at_succ
def glazierlaw44_parts.l0 : Nat → List (S32) → List (S24) → Int → Option ((List (S32)))
 | 0, _, _, _ => none
 | k + 1, x3, x4, x5 => if x5 < (x4.length : Int) then (if 0 ≤ x5 then ((seek_Index.f ((rd_T24 x4 x5).f0) ((rd_T24 x4 x5).f1) (⟨#[58]⟩ : ByteArray) 0).bind fun t332 => (if t332 ≥ 0 then ((mark_Cut.f k ((rd_T24 x4 x5).f0) ((rd_T24 x4 x5).f1) 0 t332).bind fun bt334 => ((fold_Trim.f k bt334.1 bt334.2).bind fun bt338 => ((fold_Lower.f k bt338.1 bt338.2).bind fun bt342 => ((mark_Cut.f k ((rd_T24 x4 x5).f0) ((rd_T24 x4 x5).f1) (wrap64 (t332 + 1)) (((rd_T24 x4 x5).f0).size : Int)).bind fun bt348 => ((fold_Trim.f k bt348.1 bt348.2).bind fun bt352 => (if x3.length < 1759218604441 then (glazierlaw44_parts.l0 k (x3 ++ [(⟨(⟨bt342.1, bt342.2⟩ : S24), (⟨bt352.1, bt352.2⟩ : S24)⟩ : S32)]) x4 (wrap64 (x5 + 1))) else (none))))))) else (glazierlaw44_parts.l0 k x3 x4 (wrap64 (x5 + 1))))) else (none)) else (some x3)
def glazierlaw44_parts.f (k : Nat) (a0_0 : ByteArray) (l0_1 : List (S56)) : Option ((List (S32))) := (seek_Split.f k a0_0 l0_1 59).bind fun t328 => (glazierlaw44_parts.l0 k ([] : List (S32)) t328 0)
/-- A list of labelled texts that can be read. -/
structure Tx24 (W : World) (A : Option Addr) (c : Nat) (l : List S24) : Prop where
  C : Kd.C k24 W A l.length l
  le : l.length ≤ c
theorem Tx24.go {W W1 : World} {A : Option Addr} {c : Nat} {l : List S24} (h : Tx24 W A c l) (hb : Below W.heap.size W W1) : Tx24 W1 A c l := ⟨Kd.C_below h.C hb, h.le⟩
set_option maxHeartbeats 6400000 in
set_option maxRecDepth 100000 in
theorem glazierlaw44_parts.walk (k : Nat) (a0_0 : ByteArray) (A0_1 : Option Addr) (c0_1 : Nat) (l0_1 : List (S56)) (r : List (S32)) (w : World) (hr0_1 : Kd.C k56 w A0_1 l0_1.length l0_1) (hc0_1 : l0_1.length ≤ c0_1) (h : glazierlaw44_parts.f k a0_0 l0_1 = some r) :
    Calls Tryd.prog 22 #[.agg #[.string a0_0, .slice A0_1 l0_1.length c0_1]] w fun e w' => ∃ v0_ : Value, e = .returned v0_ ∧ Kd.R k32 32 w' w.heap.size (fun _ => True) v0_ r ∧ Below w.heap.size w w' := by
  have hu24 := Tryd.underlying24
  have hu32 := Tryd.underlying32
  obtain ⟨t, hsp, h⟩ := Option.bind_eq_some_iff.mp h
  have HSP := Aside0.mk hsp
  have H' := Aside0.mk h
  have HB : Aside0 (Below w.heap.size w (w.alloc (.cells #[.string a0_0, .slice A0_1 l0_1.length c0_1] 24))) := ⟨below_alloc (Below.refl _ _) _⟩
  have X1 := Aside0.mk (Bx.new (t := a0_0) (Txt.mk hr0_1 hc0_1))
  clear hsp h hr0_1 hc0_1
  go_enter Tryd.func22, Tryd.ntmps22
  go_upto_region 1 with fail
  obtain ⟨W0, HW0⟩ : ∃ W0 : World, w.alloc (.cells #[.string a0_0, .slice A0_1 l0_1.length c0_1] 24) = W0 := ⟨_, rfl⟩
  rw [HW0] at HB X1 ⊢
  clear HW0
  have z0 := X1.out.c0
  have z1 := X1.out.c1
  go_wp2_with fail
  refine (seek_Split.calls k a0_0 _ _ l0_1 59 t _ X1.out.2.C X1.out.2.le HSP.out).mono ?_
  rintro e WS ⟨v, rfl, hS, hb⟩
  obtain ⟨AT, cT, eT⟩ := Kd.R_slice (Kd.S_R hS)
  subst eT
  have LT := Aside0.mk (show Tx24 WS AT cT t from ⟨(Kd.R_reads' (Kd.S_R hS)).2.2, (Kd.R_reads' (Kd.S_R hS)).2.1⟩)
  have HB2 := Aside0.mk (below_step HB.out hb)
  clear hS hb HB X1 z0 z1
  go_wp2_with fail
  go_loopg [3, 5] k (fun kq v3 v5 w' => ∃ (x3 : List S32) (x5 : Int), v5 = .int .i64 x5 ∧ Aside0 (glazierlaw44_parts.l0 kq x3 t x5 = some r) ∧ Aside0 (kq ≤ k) ∧ Aside0 (Kd.R k32 32 w' WS.heap.size (fun _ => True) v3 x3) ∧ Aside0 (Below WS.heap.size WS w'))
  case atStart => exact ⟨[], 0, rfl, H', ⟨Nat.le_refl _⟩, ⟨Kd.R_nil _ _ _ _ _⟩, ⟨Below.refl _ _⟩⟩
  case round =>
    clear H'
    obtain ⟨wi, rfl⟩ : ∃ wi : World, wi = wr := ⟨_, rfl⟩
    obtain ⟨x3, x5, rfl, HA, HK, R3, HCI⟩ := hrel
    obtain ⟨A3, c3, e3⟩ := Kd.R_slice R3.out
    subst e3
    cases gk with
    | zero => exact absurd HA.out (by simp [glazierlaw44_parts.l0])
    | succ k1 =>
    have H := HA.out
    clear HA
    simp only [glazierlaw44_parts.l0] at H
    by_cases c : x5 < (t.length : Int)
    case neg =>
      rw [if_neg c] at H
      obtain rfl := Option.some.inj H
      have cb : decide (x5 < (t.length : Int)) = false := decide_eq_false c
      clear c H
      go_wp2_with fail
      go_ret
      exact ⟨_, rfl, Kd.R_lower R3.out HB2.out.size, below_step HB2.out HCI.out⟩
    case pos =>
    rw [if_pos c] at H
    have cb : decide (x5 < (t.length : Int)) = true := decide_eq_true c
    by_cases p : 0 ≤ x5
    case neg => rw [if_neg p] at H; exact absurd H (by simp)
    rw [if_pos p] at H
    obtain ⟨i, hi, H⟩ := Option.bind_eq_some_iff.mp H
    have KI := Aside0.mk hi
    clear hi
    obtain ⟨ad, B1, b1, e7, hs0, hs1, hl1, hC1⟩ := at_T24 LT.out.C x5 p c
    subst e7
    have pb : (0 ≤ x5) = True := eq_true p
    have qb : (x5 < (t.length : Int)) = True := eq_true c
    have U0 := Aside0.mk ((Txt.mk hC1 hl1).go HCI.out)
    have D0S := Aside0.mk hs0
    have D1S := Aside0.mk hs1
    have hx0 := pw_cell_below HCI.out hs0
    have hx1 := pw_cell_below HCI.out hs1
    have D0 := Aside0.mk hx0
    have D1 := Aside0.mk hx1
    clear hl1 hC1 hs0 hs1 c p
    have HH := Aside0.mk H
    clear H
    go_wp2_with fail
    refine (seek_Index.calls _ _ _ _ _ _ i _ U0.out.C U0.out.le KI.out).mono ?_
    rintro e w1 ⟨rfl, hb⟩
    have U1 := Aside0.mk (U0.out.go hb)
    have E0 := Aside0.mk (pw_cell_below hb D0.out)
    have E1 := Aside0.mk (pw_cell_below hb D1.out)
    have R31 := Aside0.mk (Kd.R_below R3.out hb)
    have HC1 := Aside0.mk (below_step HCI.out hb)
    clear hb hx0 hx1 U0 D0 D1 R3 HCI
    obtain ⟨wi, rfl⟩ : ∃ wi : World, wi = w1 := ⟨_, rfl⟩
    have R3 := R31
    have HCI := HC1
    clear R31 HC1
    by_cases c : i ≥ 0
    case neg =>
      have H2 := Aside0.mk ((if_neg c).symm.trans HH.out)
      have cb2 : decide (0 ≤ i) = false := decide_eq_false c
      clear c HH
      go_wp2_with fail
      go_roundg k1
      case measure => omega
      case rel => exact ⟨x3, wrap64 (x5 + 1), rfl, H2, ⟨by have := HK.out; omega⟩, R3, HCI⟩
    case pos =>
    have H := (if_pos c).symm.trans HH.out
    have cb2 : decide (0 ≤ i) = true := decide_eq_true c
    clear c HH
    obtain ⟨⟨p1, p2⟩, h1, H⟩ := Option.bind_eq_some_iff.mp H
    obtain ⟨⟨q1, q2⟩, h2, H⟩ := Option.bind_eq_some_iff.mp H
    obtain ⟨⟨n1, n2⟩, h3, H⟩ := Option.bind_eq_some_iff.mp H
    obtain ⟨⟨u1, u2⟩, h4, H⟩ := Option.bind_eq_some_iff.mp H
    obtain ⟨⟨m1, m2⟩, h5, H⟩ := Option.bind_eq_some_iff.mp H
    by_cases c9 : x3.length < 1759218604441
    case neg => rw [if_neg c9] at H; exact absurd H (by simp)
    rw [if_pos c9] at H
    have K1 := Aside0.mk h1; have K2 := Aside0.mk h2; have K3 := Aside0.mk h3; have K5 := Aside0.mk h5
    rw [← i64_w] at h4
    have K4 := Aside0.mk h4
    have LM := Aside0.mk c9
    have H2 := Aside0.mk H
    clear h1 h2 h3 h4 h5 c9 H
    obtain ⟨y, hy⟩ : ∃ y : List S32, y = x3 ++ [(⟨⟨n1, n2⟩, ⟨m1, m2⟩⟩ : S32)] := ⟨_, rfl⟩
    rw [← hy] at H2
    have HY := Aside0.mk hy
    clear hy
    go_wp2_with fail
    have z0 := E0.out
    have z1 := E1.out
    go_region_held3 (fun W => W.cell? (ad.add (x5.toNat * 2)) = some (.string (rd_T24 t x5).f0) ∧ W.cell? ⟨(ad.add (x5.toNat * 2)).block, (ad.add (x5.toNat * 2)).off + 1, none⟩ = some (.slice B1 (rd_T24 t x5).f1.length b1))
      (first
        | exact ⟨pw_cell_below HW7.out D0S.out, pw_cell_below HW7.out D1S.out⟩
        | exact ⟨pw_cell_below (by repeat (first | exact HV5.out | exact HV4.out | exact HV3.out | exact HV2.out | exact HV1.out | exact Below.refl _ _ | apply below_alloc | apply below_drew1 | apply pw_below_drewN)) E0.out, pw_cell_below (by repeat (first | exact HV5.out | exact HV4.out | exact HV3.out | exact HV2.out | exact HV1.out | exact Below.refl _ _ | apply below_alloc | apply below_drew1 | apply pw_below_drewN)) E1.out⟩
        | go_keep)
      ((first
      | (go_at_call 37; (with_reducible refine (mark_Cut.calls k1 _ _ _ _ 0 i p1 p2 _ (U1.out.go (by repeat (first | exact Below.refl _ _ | apply below_alloc | apply below_drew1 | apply pw_below_drewN))).C U1.out.le K1.out).mono ?_); rintro e v1 ⟨v, rfl, hR, hb⟩; obtain ⟨AV1, cV1, eV1⟩ := Kd.R_slice hR; subst eV1; have TV1 := Aside0.mk (Txt.of hR); have HV1 := Aside0.mk (below_step (show Below wi.heap.size wi _ from (by repeat (first | exact Below.refl _ _ | apply below_alloc | apply below_drew1 | apply pw_below_drewN))) hb); clear hR)
      | (go_at_call 39; (with_reducible refine (fold_Trim.calls k1 p1 _ _ p2 q1 q2 _ (TV1.out.go (by repeat (first | exact Below.refl _ _ | apply below_alloc | apply below_drew1 | apply pw_below_drewN))).C TV1.out.le K2.out).mono ?_); rintro e v2 ⟨v, rfl, hR, hb⟩; obtain ⟨AV2, cV2, eV2⟩ := Kd.R_slice hR; subst eV2; have TV2 := Aside0.mk (Txt.of hR); have HV2 := Aside0.mk (below_step (show Below wi.heap.size wi _ from (by repeat (first | exact HV1.out | exact Below.refl _ _ | apply below_alloc | apply below_drew1 | apply pw_below_drewN))) hb); clear hR)
      | (go_at_call 38; (with_reducible refine (fold_Lower.calls k1 q1 _ _ q2 n1 n2 _ (TV2.out.go (by repeat (first | exact Below.refl _ _ | apply below_alloc | apply below_drew1 | apply pw_below_drewN))).C TV2.out.le K3.out).mono ?_); rintro e v3 ⟨v, rfl, hR, hb⟩; obtain ⟨AV3, cV3, eV3⟩ := Kd.R_slice hR; subst eV3; have TV3 := Aside0.mk (Txt.of hR); have RV3 := Aside0.mk (Kd.R_mono (Kd.R_bound (Kd.R_lower hR (show Below wi.heap.size wi _ from (by repeat (first | exact HV2.out | exact HV1.out | exact Below.refl _ _ | apply below_alloc | apply below_drew1 | apply pw_below_drewN))).size)) (ok' := fun k => wi.heap.size ≤ k) (fun k hk => hk.2.1)); have HV3 := Aside0.mk (below_step (show Below wi.heap.size wi _ from (by repeat (first | exact HV2.out | exact HV1.out | exact Below.refl _ _ | apply below_alloc | apply below_drew1 | apply pw_below_drewN))) hb); clear hR)
      | (go_at_call 37; (with_reducible refine (mark_Cut.calls k1 _ _ _ _ (IntKind.i64.wrap (i + 1)) _ u1 u2 _ (U1.out.go (by repeat (first | exact HV3.out | exact HV2.out | exact HV1.out | exact Below.refl _ _ | apply below_alloc | apply below_drew1 | apply pw_below_drewN))).C U1.out.le K4.out).mono ?_); rintro e v4 ⟨v, rfl, hR, hb⟩; obtain ⟨AV4, cV4, eV4⟩ := Kd.R_slice hR; subst eV4; have TV4 := Aside0.mk (Txt.of hR); have HV34 := Aside0.mk (show Below v3.heap.size v3 v4 from below_step (show Below v3.heap.size v3 _ from (by repeat (first | exact Below.refl _ _ | apply below_alloc | apply below_drew1 | apply pw_below_drewN))) hb); have HV4 := Aside0.mk (below_step (show Below wi.heap.size wi _ from (by repeat (first | exact HV3.out | exact HV2.out | exact HV1.out | exact Below.refl _ _ | apply below_alloc | apply below_drew1 | apply pw_below_drewN))) hb); clear hR)
      | (go_at_call 39; (with_reducible refine (fold_Trim.calls k1 u1 _ _ u2 m1 m2 _ (TV4.out.go (by repeat (first | exact Below.refl _ _ | apply below_alloc | apply below_drew1 | apply pw_below_drewN))).C TV4.out.le K5.out).mono ?_); rintro e v5 ⟨v, rfl, hR, hb⟩; obtain ⟨AV5, cV5, eV5⟩ := Kd.R_slice hR; subst eV5; have TV5 := Aside0.mk (Txt.of hR); have HV35 := Aside0.mk (show Below v3.heap.size v3 v5 from below_step (show Below v3.heap.size v3 _ from (by repeat (first | exact HV34.out | exact Below.refl _ _ | apply below_alloc))) hb); have RV5 := Aside0.mk (Kd.R_mono (Kd.R_bound (Kd.R_lower hR (show Below wi.heap.size wi _ from (by repeat (first | exact HV4.out | exact HV3.out | exact HV2.out | exact HV1.out | exact Below.refl _ _ | apply below_alloc | apply below_drew1 | apply pw_below_drewN))).size)) (ok' := fun k => wi.heap.size ≤ k) (fun k hk => hk.2.1)); have HV5 := Aside0.mk (below_step (show Below wi.heap.size wi _ from (by repeat (first | exact HV4.out | exact HV3.out | exact HV2.out | exact HV1.out | exact Below.refl _ _ | apply below_alloc | apply below_drew1 | apply pw_below_drewN))) hb); clear hR)
      | (refine Kd.R_append_step k32 (w0 := WS) WS.heap.size (by rfl) (.tmp 22) (.tmp 46) 28 32 (.agg #[(.string ⟨#[]⟩), (.slice none 0 0), (.string ⟨#[]⟩), (.slice none 0 0)]) 80 rfl Tryd.underlying28 info32 rfl (by decide) (by omega) (.slice A3 x3.length c3) x3 (⟨⟨n1, n2⟩, ⟨m1, m2⟩⟩ : S32) [.string n1, .slice AV3 n2.length cV3, .string m1, .slice AV5 m2.length cV5] (fun _ => True) (fun k => wi.heap.size ≤ k) rfl rfl (k32_mkM _ _ _ (⟨⟨n1, n2⟩, ⟨m1, m2⟩⟩ : S32) (Kd.R_lower (Kd.R_below (Kd.R_below RV3.out HV35.out) (Below.refl _ _)) HCI.out.size) (Kd.R_lower RV5.out HCI.out.size)) (fun k hk => ⟨trivial, fun he => by have h2 := ((Kd.R_bound R3.out).1 k he.symm).2.2.1; omega⟩) (fun _ _ => trivial) (Kd.R_below R3.out (show Below wi.heap.size wi _ from (by repeat (first | exact HV5.out | exact HV4.out | exact HV3.out | exact HV2.out | exact HV1.out | exact Below.refl _ _ | apply below_alloc | apply below_drew1 | apply pw_below_drewN)))) (below_step HCI.out (show Below wi.heap.size wi _ from (by repeat (first | exact HV5.out | exact HV4.out | exact HV3.out | exact HV2.out | exact HV1.out | exact Below.refl _ _ | apply below_alloc | apply below_drew1 | apply pw_below_drewN)))) (below_step HCI.out (show Below wi.heap.size wi _ from (by repeat (first | exact HV5.out | exact HV4.out | exact HV3.out | exact HV2.out | exact HV1.out | exact Below.refl _ _ | apply below_alloc | apply below_drew1 | apply pw_below_drewN)))).size (by have := LM.out; omega) ?_; intro v6 w7 ho hb hg hat; rw [← HY.out] at ho; have R7 := Aside0.mk ho; have HW7 := Aside0.mk hb; clear ho hb hg hat)
      ))
    go_wp2_with fail
    go_roundg k1
    case measure => omega
    case rel => exact ⟨y, wrap64 (x5 + 1), rfl, H2, ⟨by have := HK.out; omega⟩, R7, HW7⟩
end Go.Proofs.YtljmmhihdcnbaaaDoor.G
