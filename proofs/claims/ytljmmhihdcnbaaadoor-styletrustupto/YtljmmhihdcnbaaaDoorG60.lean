-- Written for this claim by hybrid.py's copy of the print program (a program of this session); not trusted: Lean checks it.
import Derived.Test.YtljmmhihdcnbaaaDoorG0
import Derived.Test.YtljmmhihdcnbaaaDoorG23
import Derived.Test.YtljmmhihdcnbaaaDoorG25
import Derived.Test.YtljmmhihdcnbaaaDoorG54
import Derived.Test.YtljmmhihdcnbaaaDoorG55
import Derived.Test.YtljmmhihdcnbaaaDoorG56
import Derived.Test.YtljmmhihdcnbaaaDoorG57
import Derived.Test.YtljmmhihdcnbaaaDoorG59
namespace Go.Proofs.YtljmmhihdcnbaaaDoor.G
open Go.RowKit Go.Proofs.YtljmmhihdcnbaaaDoorW.PrintWords Go.Proofs.YtljmmhihdcnbaaaDoorW.PrintLast Go.Proofs.YtljmmhihdcnbaaaDoorW.PrintMore
attribute [local go_sem] max2_int min2_int max_two min_two max_three min_three max_four min_four   -- for this text's walks alone
set_option linter.unusedVariables false
set_option linter.unusedSimpArgs false

/-! ### glazierlaw44_StyleTrust: function 3 -/
def glazierlaw44_StyleTrust.l0 : Nat → List (S32) → Int → Option (Bool)
 | 0, _, _ => none
 | k + 1, x3, x4 => if x4 < (x3.length : Int) then (if 0 ≤ x4 then ((glazierlaw44_known.f ((rd_T32 x3 x4).f0.f0)).bind fun t358 => (if t358 = true then ((mark_Pure.f k ((rd_T32 x3 x4).f0.f0) ((rd_T32 x3 x4).f0.f1)).bind fun t360 => (if t360 = true then ((glazierlaw44_plain.f k ((rd_T32 x3 x4).f1.f0)).bind fun t362 => (if t362 = true then (glazierlaw44_StyleTrust.l0 k x3 (wrap64 (x4 + 1))) else (none))) else (none))) else (none))) else (none)) else (some true)
def glazierlaw44_StyleTrust.f (k : Nat) (a0_0 : ByteArray) (l0_1 : List (S56)) : Option (Bool) := (glazierlaw44_alive.f k).bind fun t341 => (if t341 = true then ((mark_Dye.f k a0_0 l0_1 1).bind fun bt342 => ((style_Clean.f k bt342.1 bt342.2).bind fun bt346 => (if bt346.1.toList = ([] : List UInt8) then ((style_Clean.f k a0_0 l0_1).bind fun bt350 => ((style_Parse.f k bt350.1 bt350.2).bind fun t354 => (glazierlaw44_StyleTrust.l0 k t354 0))) else (none)))) else (none))
theorem glazierlaw44_StyleTrust.mono_l : ∀ k, (∀ y0 y1, LeO (glazierlaw44_StyleTrust.l0 k y0 y1) (glazierlaw44_StyleTrust.l0 (k + 1) y0 y1))
 | 0 => fun _ _ r h => by simp [glazierlaw44_StyleTrust.l0] at h
 | k + 1 => by
  have ih0 := glazierlaw44_StyleTrust.mono_l k
  ·
   intro y0 y1
   unfold glazierlaw44_StyleTrust.l0
   repeat' first
   | (with_reducible exact ih0 _ _)
   | (with_reducible exact glazierlaw44_alive.mono _)
   | (with_reducible exact glazierlaw44_plain.mono _ _)
   | (with_reducible exact mark_Dye.mono _ _ _ _)
   | (with_reducible exact mark_Pure.mono _ _ _)
   | (with_reducible exact style_Clean.mono _ _ _)
   | (with_reducible exact style_Parse.mono _ _ _)
   | (with_reducible exact LeO.refl _)
   | (with_reducible exact LeO.none _)
   | (with_reducible refine LeO.ite ?_ ?_)
   | (with_reducible refine LeO.bind ?_ (fun _ => ?_))
   | exact ih0 _ _
   | exact glazierlaw44_alive.mono _
   | exact glazierlaw44_plain.mono _ _
   | exact mark_Dye.mono _ _ _ _
   | exact mark_Pure.mono _ _ _
   | exact style_Clean.mono _ _ _
   | exact style_Parse.mono _ _ _
   | exact LeO.none _
   | refine LeO.ite ?_ ?_
   | refine LeO.bind ?_ (fun _ => ?_)
theorem glazierlaw44_StyleTrust.mono : ∀ a0 a1 k, LeO (glazierlaw44_StyleTrust.f k a0 a1) (glazierlaw44_StyleTrust.f (k + 1) a0 a1) := by
 intro a0 a1 k
 have ih0 := glazierlaw44_StyleTrust.mono_l k
 unfold glazierlaw44_StyleTrust.f
 repeat' first
   | (with_reducible exact ih0 _ _)
   | (with_reducible exact glazierlaw44_alive.mono _)
   | (with_reducible exact glazierlaw44_plain.mono _ _)
   | (with_reducible exact mark_Dye.mono _ _ _ _)
   | (with_reducible exact mark_Pure.mono _ _ _)
   | (with_reducible exact style_Clean.mono _ _ _)
   | (with_reducible exact style_Parse.mono _ _ _)
   | (with_reducible exact LeO.refl _)
   | (with_reducible exact LeO.none _)
   | (with_reducible refine LeO.ite ?_ ?_)
   | (with_reducible refine LeO.bind ?_ (fun _ => ?_))
   | exact ih0 _ _
   | exact glazierlaw44_alive.mono _
   | exact glazierlaw44_plain.mono _ _
   | exact mark_Dye.mono _ _ _ _
   | exact mark_Pure.mono _ _ _
   | exact style_Clean.mono _ _ _
   | exact style_Parse.mono _ _ _
   | exact LeO.none _
   | refine LeO.ite ?_ ?_
   | refine LeO.bind ?_ (fun _ => ?_)
set_option maxHeartbeats 8000000 in
set_option maxRecDepth 100000 in
theorem glazierlaw44_StyleTrust.calls (k : Nat) (a0_0 : ByteArray) (A0_1 : Option Addr) (c0_1 : Nat) (l0_1 : List (S56)) (r : Bool) (w : World) (hr0_1 : Kd.C k56 w A0_1 l0_1.length l0_1) (hc0_1 : l0_1.length ≤ c0_1) (h : glazierlaw44_StyleTrust.f k a0_0 l0_1 = some r) :
  Calls Tryd.prog 3 #[.agg #[.string a0_0, .slice A0_1 l0_1.length c0_1]] w fun e w' => e = .returned (.bool r) ∧ Below w.heap.size w w' := by
 have hu24 := Tryd.underlying24
 have hfd24_0 : ∀ (s0 : ByteArray) (v1 : Value) (w : World), (Instr.field 24 (.agg #[.string s0, v1]) 0).run Tryd.prog w = .ok (.string s0) w := fun _ _ _ => by kernel_rfl
 have HR0_1 := Aside0.mk hr0_1
 have HC0_1 := Aside0.mk hc0_1
 clear hr0_1 hc0_1
 have HB := Aside0.mk (Below.refl w.heap.size w)
 have H : ((glazierlaw44_alive.f k).bind fun t341 => (if t341 = true then ((mark_Dye.f k a0_0 l0_1 1).bind fun bt342 => ((style_Clean.f k bt342.1 bt342.2).bind fun bt346 => (if bt346.1.toList = ([] : List UInt8) then ((style_Clean.f k a0_0 l0_1).bind fun bt350 => ((style_Parse.f k bt350.1 bt350.2).bind fun t354 => (glazierlaw44_StyleTrust.l0 k t354 0))) else (none)))) else (none))) = some r := h
 clear h
 replace H := Option.bind_eq_some_iff.mp H
 obtain ⟨t341, A20, H⟩ := H
 replace H : (if t341 = true then ((mark_Dye.f k a0_0 l0_1 1).bind fun bt342 => ((style_Clean.f k bt342.1 bt342.2).bind fun bt346 => (if bt346.1.toList = ([] : List UInt8) then ((style_Clean.f k a0_0 l0_1).bind fun bt350 => ((style_Parse.f k bt350.1 bt350.2).bind fun t354 => (glazierlaw44_StyleTrust.l0 k t354 0))) else (none)))) else (none)) = some r := H
 have A2 := Aside0.mk A20
 clear A20
 by_cases c3 : t341 = true
 ·
  subst c3
  have H1 : ((mark_Dye.f k a0_0 l0_1 1).bind fun bt342 => ((style_Clean.f k bt342.1 bt342.2).bind fun bt346 => (if bt346.1.toList = ([] : List UInt8) then ((style_Clean.f k a0_0 l0_1).bind fun bt350 => ((style_Parse.f k bt350.1 bt350.2).bind fun t354 => (glazierlaw44_StyleTrust.l0 k t354 0))) else (none)))) = some r := by rw [if_pos rfl] at H; exact H
  clear H
  have H := H1
  clear H1
  replace H := Option.bind_eq_some_iff.mp H
  obtain ⟨⟨t342, t343⟩, A40, H⟩ := H
  replace H : ((style_Clean.f k t342 t343).bind fun bt346 => (if bt346.1.toList = ([] : List UInt8) then ((style_Clean.f k a0_0 l0_1).bind fun bt350 => ((style_Parse.f k bt350.1 bt350.2).bind fun t354 => (glazierlaw44_StyleTrust.l0 k t354 0))) else (none))) = some r := H
  have A4 := Aside0.mk A40
  clear A40
  replace H := Option.bind_eq_some_iff.mp H
  obtain ⟨⟨t346, t347⟩, A50, H⟩ := H
  replace H : (if t346.toList = ([] : List UInt8) then ((style_Clean.f k a0_0 l0_1).bind fun bt350 => ((style_Parse.f k bt350.1 bt350.2).bind fun t354 => (glazierlaw44_StyleTrust.l0 k t354 0))) else (none)) = some r := H
  have A5 := Aside0.mk A50
  clear A50
  by_cases c6 : t346.toList = ([] : List UInt8)
  ·
   rw [if_pos c6] at H
   have c6b0 : (t346.toList == ([] : List UInt8)) = true := beq_iff_eq.mpr c6
   have c6b1 : (t346.toList != ([] : List UInt8)) = false := bne_eq_false_iff_eq.mpr c6
   clear c6
   replace H := Option.bind_eq_some_iff.mp H
   obtain ⟨⟨t350, t351⟩, A70, H⟩ := H
   replace H : ((style_Parse.f k t350 t351).bind fun t354 => (glazierlaw44_StyleTrust.l0 k t354 0)) = some r := H
   have A7 := Aside0.mk A70
   clear A70
   replace H := Option.bind_eq_some_iff.mp H
   obtain ⟨t354, A80, H⟩ := H
   replace H : (glazierlaw44_StyleTrust.l0 k t354 0) = some r := H
   have A8 := Aside0.mk A80
   clear A80
   have H' := Aside0.mk H
   clear H
   go_enter Tryd.func3, Tryd.ntmps3
   go_wp2_with (first | ((with_reducible refine gate_dst (N := 1) rfl ?_); refine box_event ?hg (N := 1) ?hd (cs := #[.string a0_0, .slice A0_1 l0_1.length c0_1]) (t := 24) ?hr ?_; (case hd => rfl); (case hg => rfl); (case hr => first | (go_simp; done) | (go_simp; rfl)); intro gb340 hg w9 hbox hb; have n0_ := Aside0.mk (below_step (by repeat (first | (with_reducible first | exact HB.out | apply below_alloc | apply pw_below_drewN | apply below_drew1) | exact HB.out)) hb); have n1_ := Aside0.mk (hbox); have n2_ := Aside0.mk ((by rw [hg]; exact (below_size (by repeat (first | (with_reducible first | exact HB.out | apply below_alloc | apply pw_below_drewN | apply below_drew1) | exact HB.out))) : w.heap.size ≤ gb340)); have n3_ := Aside0.mk ((by rw [hg]; exact (below_size (by repeat (first | (with_reducible first | exact HB.out | apply below_alloc | apply pw_below_drewN | apply below_drew1) | exact HB.out))) : w.heap.size ≤ gb340)); clear HB; have HB := n0_; have BK340 := n1_; have GW340 := n2_; have GE340 := n3_; clear n0_ n1_ n2_ n3_; clear hb hbox hg) | ((with_reducible refine gate_callee (f := 7) rfl ?_); refine goesL_ (some 5) rfl rfl Tryd.func7 (by kernel_rfl) rfl #[] rfl (by (try simp only [List.map_toArray, List.map_cons, List.map_nil]); first | done | rfl | (simp only [List.length_drop, List.length_take]; rfl)) ?_; (with_reducible refine (glazierlaw44_alive.calls k  true _ A2.out).mono ?_); rintro e w10 ⟨rfl, hb⟩; refine ⟨_, rfl, ?_⟩; have n0_ := Aside0.mk (blk_below (g := gb340) (o := .cells #[.string a0_0, .slice A0_1 l0_1.length c0_1] 24 (0, 0)) (by (with_reducible repeat (first | refine blk_drewN ?_ _ | refine blk_drew ?_ | refine blk_alloc ?_ _)); exact BK340.out) hb); have n1_ := Aside0.mk (below_step (by repeat (first | (with_reducible first | exact HB.out | apply below_alloc | apply pw_below_drewN | apply below_drew1 | refine below_set ?_ GE340.out) | exact HB.out)) hb); clear BK340; clear HB; have BK340 := n0_; have HB := n1_; clear n0_ n1_; (try clear hb); (try clear hb2); (try clear hk); (try clear hi); have hcz11_0 : w10.cell? ⟨gb340, 0, none⟩ = some (.string a0_0) := (blk_cell BK340.out 0).trans rfl; have hcz11_1 : w10.cell? ⟨gb340, 1, none⟩ = some (.slice A0_1 l0_1.length c0_1) := (blk_cell BK340.out 1).trans rfl; have hfz11_0 := blk_frozen BK340.out 0; have hfz11_1 := blk_frozen BK340.out 1) | ((with_reducible refine gate_callee (f := 9) rfl ?_); refine goesL_ (some 8) rfl rfl Tryd.func9 (by kernel_rfl) rfl #[.agg #[.string a0_0, .slice A0_1 l0_1.length c0_1], .int .i64 1] rfl (by (try simp only [List.map_toArray, List.map_cons, List.map_nil]); first | done | rfl | (simp only [List.length_drop, List.length_take]; rfl)) ?_; (with_reducible refine (mark_Dye.calls k a0_0 _ _ l0_1 1 t342 t343 _ ?side1 ?side2 A4.out).mono ?_); (case side1 => repeat (first | exact (Kd.C_below HR0_1.out HB.out) | (with_reducible refine Kd.C_alloc ?_ _) | (with_reducible refine Kd.C_drewN ?_ _) | (with_reducible refine Kd.C_drew ?_))); (case side2 => exact HC0_1.out); rintro e w12 ⟨v344, rfl, ho0, hb⟩; refine ⟨_, rfl, ?_⟩; have n0_ := Aside0.mk (Kd.R_lower ho0 (below_size (by repeat (first | (with_reducible first | exact HB.out | apply below_alloc | apply pw_below_drewN | apply below_drew1 | refine below_set ?_ GE340.out) | exact HB.out)))); have n1_ := Aside0.mk (blk_below (g := gb340) (o := .cells #[.string a0_0, .slice A0_1 l0_1.length c0_1] 24 (0, 0)) (by (with_reducible repeat (first | refine blk_drewN ?_ _ | refine blk_drew ?_ | refine blk_alloc ?_ _)); exact BK340.out) hb); have n2_ := Aside0.mk (below_step (by repeat (first | (with_reducible first | exact HB.out | apply below_alloc | apply pw_below_drewN | apply below_drew1 | refine below_set ?_ GE340.out) | exact HB.out)) hb); clear BK340; clear HB; have HO345 := n0_; have BK340 := n1_; have HB := n2_; clear n0_ n1_ n2_; (try clear hb); (try clear hb2); (try clear hk); (try clear hi); (try clear ho0); obtain ⟨Ao13, co13, eo13⟩ := Kd.R_slice HO345.out; subst eo13) | ((with_reducible refine gate_callee (f := 8) rfl ?_); refine goesL_ (some 9) rfl rfl Tryd.func8 (by kernel_rfl) rfl #[.agg #[.string t342, .slice Ao13 t343.length co13]] rfl (by (try simp only [List.map_toArray, List.map_cons, List.map_nil]); first | done | rfl | (simp only [List.length_drop, List.length_take]; rfl)) ?_; (with_reducible refine (style_Clean.calls k t342 _ _ t343 t346 t347 _ ?side1 ?side2 A5.out).mono ?_); (case side1 => repeat (first | exact (Kd.R_reads' HO345.out).2.2 | (with_reducible refine Kd.C_alloc ?_ _) | (with_reducible refine Kd.C_drewN ?_ _) | (with_reducible refine Kd.C_drew ?_))); (case side2 => exact (Kd.R_reads' HO345.out).2.1); rintro e w14 ⟨v348, rfl, ho0, hb⟩; refine ⟨_, rfl, ?_⟩; have n0_ := Aside0.mk (Kd.R_elder' (by (with_reducible repeat (first | apply Kd.R_alloc | apply Kd.R_drewN | apply Kd.R_drew)); exact HO345.out) (Kd.R_base ho0) hb); have n1_ := Aside0.mk (Kd.R_lower (Kd.R_new' ho0 (Kd.R_lt (by (with_reducible repeat (first | apply Kd.R_alloc | apply Kd.R_drewN | apply Kd.R_drew)); exact HO345.out))) (below_size (by repeat (first | (with_reducible first | exact HB.out | apply below_alloc | apply pw_below_drewN | apply below_drew1 | refine below_set ?_ GE340.out) | exact HB.out)))); have n2_ := Aside0.mk (blk_below (g := gb340) (o := .cells #[.string a0_0, .slice A0_1 l0_1.length c0_1] 24 (0, 0)) (by (with_reducible repeat (first | refine blk_drewN ?_ _ | refine blk_drew ?_ | refine blk_alloc ?_ _)); exact BK340.out) hb); have n3_ := Aside0.mk (below_step (by repeat (first | (with_reducible first | exact HB.out | apply below_alloc | apply pw_below_drewN | apply below_drew1 | refine below_set ?_ GE340.out) | exact HB.out)) hb); clear HO345; clear BK340; clear HB; have HO345 := n0_; have HO349 := n1_; have BK340 := n2_; have HB := n3_; clear n0_ n1_ n2_ n3_; (try clear hb); (try clear hb2); (try clear hk); (try clear hi); (try clear ho0); have hcz15_0 : w14.cell? ⟨gb340, 0, none⟩ = some (.string a0_0) := (blk_cell BK340.out 0).trans rfl; have hcz15_1 : w14.cell? ⟨gb340, 1, none⟩ = some (.slice A0_1 l0_1.length c0_1) := (blk_cell BK340.out 1).trans rfl; have hfz15_0 := blk_frozen BK340.out 0; have hfz15_1 := blk_frozen BK340.out 1) | ((with_reducible refine gate_callee (f := 8) rfl ?_); refine goesL_ (some 13) rfl rfl Tryd.func8 (by kernel_rfl) rfl #[.agg #[.string a0_0, .slice A0_1 l0_1.length c0_1]] rfl (by (try simp only [List.map_toArray, List.map_cons, List.map_nil]); first | done | rfl | (simp only [List.length_drop, List.length_take]; rfl)) ?_; (with_reducible refine (style_Clean.calls k a0_0 _ _ l0_1 t350 t351 _ ?side1 ?side2 A7.out).mono ?_); (case side1 => repeat (first | exact (Kd.C_below HR0_1.out HB.out) | (with_reducible refine Kd.C_alloc ?_ _) | (with_reducible refine Kd.C_drewN ?_ _) | (with_reducible refine Kd.C_drew ?_))); (case side2 => exact HC0_1.out); rintro e w16 ⟨v352, rfl, ho0, hb⟩; refine ⟨_, rfl, ?_⟩; have n0_ := Aside0.mk (Kd.R_elder' (by (with_reducible repeat (first | apply Kd.R_alloc | apply Kd.R_drewN | apply Kd.R_drew)); exact HO345.out) (Kd.R_base ho0) hb); have n1_ := Aside0.mk (Kd.R_elder' (by (with_reducible repeat (first | apply Kd.R_alloc | apply Kd.R_drewN | apply Kd.R_drew)); exact HO349.out) (Kd.R_base ho0) hb); have n2_ := Aside0.mk (Kd.R_lower (Kd.R_new' (Kd.R_new' ho0 (Kd.R_lt (by (with_reducible repeat (first | apply Kd.R_alloc | apply Kd.R_drewN | apply Kd.R_drew)); exact HO345.out))) (Kd.R_lt (by (with_reducible repeat (first | apply Kd.R_alloc | apply Kd.R_drewN | apply Kd.R_drew)); exact HO349.out))) (below_size (by repeat (first | (with_reducible first | exact HB.out | apply below_alloc | apply pw_below_drewN | apply below_drew1 | refine below_set ?_ GE340.out) | exact HB.out)))); have n3_ := Aside0.mk (blk_below (g := gb340) (o := .cells #[.string a0_0, .slice A0_1 l0_1.length c0_1] 24 (0, 0)) (by (with_reducible repeat (first | refine blk_drewN ?_ _ | refine blk_drew ?_ | refine blk_alloc ?_ _)); exact BK340.out) hb); have n4_ := Aside0.mk (below_step (by repeat (first | (with_reducible first | exact HB.out | apply below_alloc | apply pw_below_drewN | apply below_drew1 | refine below_set ?_ GE340.out) | exact HB.out)) hb); clear HO345; clear HO349; clear BK340; clear HB; have HO345 := n0_; have HO349 := n1_; have HO353 := n2_; have BK340 := n3_; have HB := n4_; clear n0_ n1_ n2_ n3_ n4_; (try clear hb); (try clear hb2); (try clear hk); (try clear hi); (try clear ho0); obtain ⟨Ao17, co17, eo17⟩ := Kd.R_slice HO353.out; subst eo17) | ((with_reducible refine gate_callee (f := 10) rfl ?_); refine goesL_ (some 14) rfl rfl Tryd.func10 (by kernel_rfl) rfl #[.agg #[.string t350, .slice Ao17 t351.length co17]] rfl (by (try simp only [List.map_toArray, List.map_cons, List.map_nil]); first | done | rfl | (simp only [List.length_drop, List.length_take]; rfl)) ?_; (with_reducible refine (style_Parse.calls k t350 _ _ t351 t354 _ ?side1 ?side2 A8.out).mono ?_); (case side1 => repeat (first | exact (Kd.R_reads' HO353.out).2.2 | (with_reducible refine Kd.C_alloc ?_ _) | (with_reducible refine Kd.C_drewN ?_ _) | (with_reducible refine Kd.C_drew ?_))); (case side2 => exact (Kd.R_reads' HO353.out).2.1); rintro e w18 ⟨v355, rfl, ho0, hb⟩; refine ⟨_, rfl, ?_⟩; have n0_ := Aside0.mk (Kd.R_below (by (with_reducible repeat (first | apply Kd.R_alloc | apply Kd.R_drewN | apply Kd.R_drew)); exact HO345.out) hb); have n1_ := Aside0.mk (Kd.R_below (by (with_reducible repeat (first | apply Kd.R_alloc | apply Kd.R_drewN | apply Kd.R_drew)); exact HO349.out) hb); have n2_ := Aside0.mk (Kd.R_below (by (with_reducible repeat (first | apply Kd.R_alloc | apply Kd.R_drewN | apply Kd.R_drew)); exact HO353.out) hb); have n3_ := Aside0.mk (Kd.S_lower (Kd.S_new' (Kd.S_new' (Kd.S_new' ho0 (Kd.R_lt (by (with_reducible repeat (first | apply Kd.R_alloc | apply Kd.R_drewN | apply Kd.R_drew)); exact HO345.out))) (Kd.R_lt (by (with_reducible repeat (first | apply Kd.R_alloc | apply Kd.R_drewN | apply Kd.R_drew)); exact HO349.out))) (Kd.R_lt (by (with_reducible repeat (first | apply Kd.R_alloc | apply Kd.R_drewN | apply Kd.R_drew)); exact HO353.out))) (below_size (by repeat (first | (with_reducible first | exact HB.out | apply below_alloc | apply pw_below_drewN | apply below_drew1 | refine below_set ?_ GE340.out) | exact HB.out)))); have n4_ := Aside0.mk (blk_below (g := gb340) (o := .cells #[.string a0_0, .slice A0_1 l0_1.length c0_1] 24 (0, 0)) (by (with_reducible repeat (first | refine blk_drewN ?_ _ | refine blk_drew ?_ | refine blk_alloc ?_ _)); exact BK340.out) hb); have n5_ := Aside0.mk (below_step (by repeat (first | (with_reducible first | exact HB.out | apply below_alloc | apply pw_below_drewN | apply below_drew1 | refine below_set ?_ GE340.out) | exact HB.out)) hb); clear HO345; clear HO349; clear HO353; clear BK340; clear HB; have HO345 := n0_; have HO349 := n1_; have HO353 := n2_; have HO356 := n3_; have BK340 := n4_; have HB := n5_; clear n0_ n1_ n2_ n3_ n4_ n5_; (try clear hb); (try clear hb2); (try clear hk); (try clear hi); (try clear ho0)))
   go_loopg [4] k (fun kq v4 w' => ∃ (x4_1 : Int), v4 = .int .i64 x4_1 ∧ Aside0 (glazierlaw44_StyleTrust.l0 kq t354 x4_1 = some r) ∧ Aside0 (kq ≤ k) ∧ Aside0 (Kd.S k32 32 w' w.heap.size (fun _ => True) v355 t354) ∧ Aside0 (w'.heap[gb340]? = some (.cells #[.string a0_0, (.slice A0_1 l0_1.length c0_1)] 24 (0, 0))) ∧ Aside0 (Below w.heap.size w w'))
   case atStart => exact ⟨(0), (by first | rfl | (simp; done) | (simp [*]; done)), H', ⟨Nat.le_refl _⟩, ⟨by (with_reducible repeat (first | apply Kd.S_alloc | apply Kd.S_drewN | apply Kd.S_drew)); exact Kd.S_mono HO356.out (fun _ hk => trivial)⟩, ⟨by (with_reducible repeat (first | refine blk_drewN ?_ _ | refine blk_drew ?_ | refine blk_alloc ?_ _)); exact BK340.out⟩, ⟨by repeat (first | (with_reducible first | exact HB.out | apply below_alloc | apply pw_below_drewN | apply below_drew1 | refine below_set ?_ GE340.out) | exact HB.out)⟩⟩
   case round =>
    clear H'
    try clear c1
    try clear p2
    try clear c3
    try clear c6
    try clear c6b0
    try clear c6b1
    try clear c7
    try clear c8
    try clear c9
    try clear c10
    try clear hcz11_0
    try clear hcz11_1
    try clear hcz15_0
    try clear hcz15_1
    try clear hfz11_0
    try clear hfz11_1
    try clear hfz15_0
    try clear hfz15_1
    obtain ⟨x4_1, rfl, HA, HK1, HO_3, BK340, HB⟩ := hrel
    cases gk with
    | zero => exact absurd HA.out (by simp [glazierlaw44_StyleTrust.l0])
    | succ k1 =>
     have H := HA.out
     clear HA
     simp only [glazierlaw44_StyleTrust.l0] at H
     by_cases c19 : x4_1 < (t354.length : Int)
     ·
      rw [if_pos c19] at H
      have c19b0 : decide (x4_1 < (t354.length : Int)) = true := decide_eq_true c19
      clear c19
      by_cases c20 : 0 ≤ x4_1
      ·
       rw [if_pos c20] at H
       have c20b0 : decide (0 ≤ x4_1) = true := decide_eq_true c20
       clear c20
       replace H := Option.bind_eq_some_iff.mp H
       obtain ⟨t358, A210, H⟩ := H
       replace H : (if t358 = true then ((mark_Pure.f k1 ((rd_T32 t354 x4_1).f0.f0) ((rd_T32 t354 x4_1).f0.f1)).bind fun t360 => (if t360 = true then ((glazierlaw44_plain.f k1 ((rd_T32 t354 x4_1).f1.f0)).bind fun t362 => (if t362 = true then (glazierlaw44_StyleTrust.l0 k1 t354 (wrap64 (x4_1 + 1))) else (none))) else (none))) else (none)) = some r := H
       have A21 := Aside0.mk A210
       clear A210
       by_cases c22 : t358 = true
       ·
        subst c22
        have H1 : ((mark_Pure.f k1 ((rd_T32 t354 x4_1).f0.f0) ((rd_T32 t354 x4_1).f0.f1)).bind fun t360 => (if t360 = true then ((glazierlaw44_plain.f k1 ((rd_T32 t354 x4_1).f1.f0)).bind fun t362 => (if t362 = true then (glazierlaw44_StyleTrust.l0 k1 t354 (wrap64 (x4_1 + 1))) else (none))) else (none))) = some r := by rw [if_pos rfl] at H; exact H
        clear H
        have H := H1
        clear H1
        replace H := Option.bind_eq_some_iff.mp H
        obtain ⟨t360, A230, H⟩ := H
        replace H : (if t360 = true then ((glazierlaw44_plain.f k1 ((rd_T32 t354 x4_1).f1.f0)).bind fun t362 => (if t362 = true then (glazierlaw44_StyleTrust.l0 k1 t354 (wrap64 (x4_1 + 1))) else (none))) else (none)) = some r := H
        have A23 := Aside0.mk A230
        clear A230
        by_cases c24 : t360 = true
        ·
         subst c24
         have H1 : ((glazierlaw44_plain.f k1 ((rd_T32 t354 x4_1).f1.f0)).bind fun t362 => (if t362 = true then (glazierlaw44_StyleTrust.l0 k1 t354 (wrap64 (x4_1 + 1))) else (none))) = some r := by rw [if_pos rfl] at H; exact H
         clear H
         have H := H1
         clear H1
         replace H := Option.bind_eq_some_iff.mp H
         obtain ⟨t362, A250, H⟩ := H
         replace H : (if t362 = true then (glazierlaw44_StyleTrust.l0 k1 t354 (wrap64 (x4_1 + 1))) else (none)) = some r := H
         have A25 := Aside0.mk A250
         clear A250
         by_cases c26 : t362 = true
         ·
          subst c26
          have H1 : (glazierlaw44_StyleTrust.l0 k1 t354 (wrap64 (x4_1 + 1))) = some r := by rw [if_pos rfl] at H; exact H
          clear H
          have H := H1
          clear H1
          have H' := Aside0.mk H
          clear H
          obtain ⟨Ao27, co27, eo27⟩ := Kd.S_slice HO_3.out
          subst eo27
          have p357 : 0 ≤ (x4_1 : Int) := of_decide_eq_true (by first | (with_reducible assumption) | assumption)
          have q357 : x4_1 < (t354.length : Int) := of_decide_eq_true (by first | (with_reducible assumption) | assumption)
          obtain ⟨ad357, A357_1, c357_1, A357_3, c357_3, e357, hx357_0, hx357_1, hx357_2, hx357_3, hl357_1, hi357_1, hl357_3, hi357_3⟩ := at_T32 (Kd.S_reads' HO_3.out).2.2 x4_1 p357 q357
          cases e357
          obtain ⟨ce357, hce357, hMe357, hcc357⟩ := Kd.S_get HO_3.out z32 x4_1 p357 (by first | exact q357 | exact of_decide_eq_true (by first | (with_reducible assumption) | assumption) | (have e_ := (Kd.S_reads' HO_3.out).1; omega))
          obtain ⟨ve357_1, ve357_3, rfl, ge357_1, ge357_3⟩ := k32_openM hMe357
          have hv357_1 := hcc357 1 _ rfl
          rw [add_field _ _ 1 (by omega)] at hv357_1
          replace hv357_1 := Option.some.inj (hv357_1.symm.trans hx357_1)
          rw [hv357_1] at ge357_1
          have HL357_1 := Aside0.mk (show Kd.R k56 56 _ _ _ _ ((rd_T32 t354 x4_1).f0.f1) from ge357_1)
          clear hv357_1 ge357_1
          have hv357_3 := hcc357 3 _ rfl
          rw [add_field _ _ 3 (by omega)] at hv357_3
          replace hv357_3 := Option.some.inj (hv357_3.symm.trans hx357_3)
          rw [hv357_3] at ge357_3
          have HL357_3 := Aside0.mk (show Kd.R k56 56 _ _ _ _ ((rd_T32 t354 x4_1).f1.f1) from ge357_3)
          clear hv357_3 ge357_3
          clear hcc357 hce357
          have HR357_1 := Aside0.mk hi357_1
          have HC357_1 := Aside0.mk hl357_1
          clear hi357_1 hl357_1
          have HR357_3 := Aside0.mk hi357_3
          have HC357_3 := Aside0.mk hl357_3
          clear hi357_3 hl357_3
          replace p357 := eq_true p357
          replace q357 := eq_true q357
          go_wp2_with (first | ((with_reducible refine gate_callee (f := 11) rfl ?_); refine goesL_ (some 27) rfl rfl Tryd.func11 (by kernel_rfl) rfl #[.string ((rd_T32 t354 x4_1).f0.f0)] rfl (by (try simp only [List.map_toArray, List.map_cons, List.map_nil]); first | done | rfl | (simp only [List.length_drop, List.length_take]; rfl)) ?_; (with_reducible refine (glazierlaw44_known.calls ((rd_T32 t354 x4_1).f0.f0) true _ A21.out).mono ?_); rintro e w' ⟨rfl, ⟨nd, rfl⟩⟩; refine ⟨_, rfl, ?_⟩; have p359 : 0 ≤ (x4_1 : Int) := of_decide_eq_true (by first | (with_reducible assumption) | assumption); have q359 : x4_1 < (t354.length : Int) := of_decide_eq_true (by first | (with_reducible assumption) | assumption); obtain ⟨ad359, A359_1, c359_1, A359_3, c359_3, e359, hx359_0, hx359_1, hx359_2, hx359_3, hl359_1, hi359_1, hl359_3, hi359_3⟩ := at_T32 (Kd.S_reads' HO_3.out).2.2 x4_1 p359 q359; obtain rfl : ad357 = ad359 := (by injection e359); obtain ⟨ce359, hce359, hMe359, hcc359⟩ := Kd.S_get HO_3.out z32 x4_1 p359 (by first | exact q359 | exact of_decide_eq_true (by first | (with_reducible assumption) | assumption) | (have e_ := (Kd.S_reads' HO_3.out).1; omega)); obtain ⟨ve359_1, ve359_3, rfl, ge359_1, ge359_3⟩ := k32_openM hMe359; have hv359_1 := hcc359 1 _ rfl; rw [add_field _ _ 1 (by omega)] at hv359_1; replace hv359_1 := Option.some.inj (hv359_1.symm.trans hx359_1); rw [hv359_1] at ge359_1; have HL359_1 := Aside0.mk (show Kd.R k56 56 _ _ _ _ ((rd_T32 t354 x4_1).f0.f1) from ge359_1); clear hv359_1 ge359_1; have hv359_3 := hcc359 3 _ rfl; rw [add_field _ _ 3 (by omega)] at hv359_3; replace hv359_3 := Option.some.inj (hv359_3.symm.trans hx359_3); rw [hv359_3] at ge359_3; have HL359_3 := Aside0.mk (show Kd.R k56 56 _ _ _ _ ((rd_T32 t354 x4_1).f1.f1) from ge359_3); clear hv359_3 ge359_3; clear hcc359 hce359; have HR359_1 := Aside0.mk hi359_1; have HC359_1 := Aside0.mk hl359_1; clear hi359_1 hl359_1; have HR359_3 := Aside0.mk hi359_3; have HC359_3 := Aside0.mk hl359_3; clear hi359_3 hl359_3; replace p359 := eq_true p359; replace q359 := eq_true q359; have ea_ := Option.some.inj (hx357_1.symm.trans hx359_1); injection ea_ with ea_ en_ ec_; subst ea_; subst ec_; clear en_; have ea_ := Option.some.inj (hx357_3.symm.trans hx359_3); injection ea_ with ea_ en_ ec_; subst ea_; subst ec_; clear en_) | (go_at_call 12; (with_reducible refine (mark_Pure.calls k1 ((rd_T32 t354 x4_1).f0.f0) _ _ ((rd_T32 t354 x4_1).f0.f1) true _ ?side1 ?side2 A23.out).mono ?_); (case side1 => repeat (first | exact (by repeat (first | (with_reducible exact HR359_1.out) | (with_reducible refine Kd.C_alloc ?_ _) | (with_reducible refine Kd.C_drewN ?_ _) | (with_reducible refine Kd.C_drew ?_) | exact HR359_1.out)) | (with_reducible refine Kd.C_alloc ?_ _) | (with_reducible refine Kd.C_drewN ?_ _) | (with_reducible refine Kd.C_drew ?_))); (case side2 => exact HC359_1.out); rintro e w28 ⟨rfl, hb⟩; have n0_ := Aside0.mk (Kd.S_below (by (with_reducible repeat (first | apply Kd.S_alloc | apply Kd.S_drewN | apply Kd.S_drew)); exact HO_3.out) hb); have n1_ := Aside0.mk (Kd.R_below (by (with_reducible repeat (first | apply Kd.R_alloc | apply Kd.R_drewN | apply Kd.R_drew)); exact HL357_1.out) hb); have n2_ := Aside0.mk (Kd.R_below (by (with_reducible repeat (first | apply Kd.R_alloc | apply Kd.R_drewN | apply Kd.R_drew)); exact HL357_3.out) hb); have n3_ := Aside0.mk (Kd.R_below (by (with_reducible repeat (first | apply Kd.R_alloc | apply Kd.R_drewN | apply Kd.R_drew)); exact HL359_1.out) hb); have n4_ := Aside0.mk (Kd.R_below (by (with_reducible repeat (first | apply Kd.R_alloc | apply Kd.R_drewN | apply Kd.R_drew)); exact HL359_3.out) hb); have n5_ := Aside0.mk (blk_below (g := gb340) (o := .cells #[.string a0_0, .slice A0_1 l0_1.length c0_1] 24 (0, 0)) (by (with_reducible repeat (first | refine blk_drewN ?_ _ | refine blk_drew ?_ | refine blk_alloc ?_ _)); exact BK340.out) hb); have n6_ := Aside0.mk (Kd.C_below (by repeat (first | (with_reducible exact HR357_1.out) | (with_reducible refine Kd.C_alloc ?_ _) | (with_reducible refine Kd.C_drewN ?_ _) | (with_reducible refine Kd.C_drew ?_) | exact HR357_1.out)) hb); have n7_ := Aside0.mk (Kd.C_below (by repeat (first | (with_reducible exact HR357_3.out) | (with_reducible refine Kd.C_alloc ?_ _) | (with_reducible refine Kd.C_drewN ?_ _) | (with_reducible refine Kd.C_drew ?_) | exact HR357_3.out)) hb); have n8_ := Aside0.mk (Kd.C_below (by repeat (first | (with_reducible exact HR359_1.out) | (with_reducible refine Kd.C_alloc ?_ _) | (with_reducible refine Kd.C_drewN ?_ _) | (with_reducible refine Kd.C_drew ?_) | exact HR359_1.out)) hb); have n9_ := Aside0.mk (Kd.C_below (by repeat (first | (with_reducible exact HR359_3.out) | (with_reducible refine Kd.C_alloc ?_ _) | (with_reducible refine Kd.C_drewN ?_ _) | (with_reducible refine Kd.C_drew ?_) | exact HR359_3.out)) hb); have n10_ := Aside0.mk (below_step (by repeat (first | (with_reducible first | exact HB.out | apply below_alloc | apply pw_below_drewN | apply below_drew1 | refine below_set ?_ GE340.out) | exact HB.out)) hb); clear HO_3; clear HL357_1; clear HL357_3; clear HL359_1; clear HL359_3; clear BK340; clear HR357_1; clear HR357_3; clear HR359_1; clear HR359_3; clear HB; have HO_3 := n0_; have HL357_1 := n1_; have HL357_3 := n2_; have HL359_1 := n3_; have HL359_3 := n4_; have BK340 := n5_; have HR357_1 := n6_; have HR357_3 := n7_; have HR359_1 := n8_; have HR359_3 := n9_; have HB := n10_; clear n0_ n1_ n2_ n3_ n4_ n5_ n6_ n7_ n8_ n9_ n10_; (try clear hb); (try clear hb2); (try clear hk); (try clear hi); have p361 : 0 ≤ (x4_1 : Int) := of_decide_eq_true (by first | (with_reducible assumption) | assumption); have q361 : x4_1 < (t354.length : Int) := of_decide_eq_true (by first | (with_reducible assumption) | assumption); obtain ⟨ad361, A361_1, c361_1, A361_3, c361_3, e361, hx361_0, hx361_1, hx361_2, hx361_3, hl361_1, hi361_1, hl361_3, hi361_3⟩ := at_T32 (Kd.S_reads' HO_3.out).2.2 x4_1 p361 q361; obtain rfl : ad357 = ad361 := (by injection e361); obtain ⟨ce361, hce361, hMe361, hcc361⟩ := Kd.S_get HO_3.out z32 x4_1 p361 (by first | exact q361 | exact of_decide_eq_true (by first | (with_reducible assumption) | assumption) | (have e_ := (Kd.S_reads' HO_3.out).1; omega)); obtain ⟨ve361_1, ve361_3, rfl, ge361_1, ge361_3⟩ := k32_openM hMe361; have hv361_1 := hcc361 1 _ rfl; rw [add_field _ _ 1 (by omega)] at hv361_1; replace hv361_1 := Option.some.inj (hv361_1.symm.trans hx361_1); rw [hv361_1] at ge361_1; have HL361_1 := Aside0.mk (show Kd.R k56 56 _ _ _ _ ((rd_T32 t354 x4_1).f0.f1) from ge361_1); clear hv361_1 ge361_1; have hv361_3 := hcc361 3 _ rfl; rw [add_field _ _ 3 (by omega)] at hv361_3; replace hv361_3 := Option.some.inj (hv361_3.symm.trans hx361_3); rw [hv361_3] at ge361_3; have HL361_3 := Aside0.mk (show Kd.R k56 56 _ _ _ _ ((rd_T32 t354 x4_1).f1.f1) from ge361_3); clear hv361_3 ge361_3; clear hcc361 hce361; have HR361_1 := Aside0.mk hi361_1; have HC361_1 := Aside0.mk hl361_1; clear hi361_1 hl361_1; have HR361_3 := Aside0.mk hi361_3; have HC361_3 := Aside0.mk hl361_3; clear hi361_3 hl361_3; replace p361 := eq_true p361; replace q361 := eq_true q361) | (go_at_call 13; (with_reducible refine (glazierlaw44_plain.calls k1 ((rd_T32 t354 x4_1).f1.f0) true _ A25.out).mono ?_); rintro e w' ⟨rfl, ⟨nd, rfl⟩⟩))
          go_roundg k1
          case measure => have := HK1.out; omega
          case rel => exact ⟨(wrap64 (x4_1 + 1)), (by first | rfl | (simp; done) | (simp [*]; done)), H', ⟨by have := HK1.out; omega⟩, ⟨by (with_reducible repeat (first | apply Kd.S_alloc | apply Kd.S_drewN | apply Kd.S_drew)); exact HO_3.out⟩, ⟨by (with_reducible repeat (first | refine blk_drewN ?_ _ | refine blk_drew ?_ | refine blk_alloc ?_ _)); exact BK340.out⟩, ⟨by repeat (first | (with_reducible first | exact HB.out | apply below_alloc | apply pw_below_drewN | apply below_drew1 | refine below_set ?_ GE340.out) | exact HB.out)⟩⟩
         ·
          replace c26 := Bool.eq_false_iff.mpr c26
          subst c26
          have H1 : (none) = some r := by rw [if_neg (show ¬ (false = true) by decide)] at H; exact H
          clear H
          have H := H1
          clear H1
          exact absurd H (by simp)
        ·
         replace c24 := Bool.eq_false_iff.mpr c24
         subst c24
         have H1 : (none) = some r := by rw [if_neg (show ¬ (false = true) by decide)] at H; exact H
         clear H
         have H := H1
         clear H1
         exact absurd H (by simp)
       ·
        replace c22 := Bool.eq_false_iff.mpr c22
        subst c22
        have H1 : (none) = some r := by rw [if_neg (show ¬ (false = true) by decide)] at H; exact H
        clear H
        have H := H1
        clear H1
        exact absurd H (by simp)
      ·
       rw [if_neg c20] at H
       exact absurd H (by simp)
     ·
      rw [if_neg c19] at H
      have c19b0 : decide (x4_1 < (t354.length : Int)) = false := decide_eq_false c19
      clear c19
      obtain rfl := Option.some.inj H
      obtain ⟨Ao29, co29, eo29⟩ := Kd.S_slice HO_3.out
      subst eo29
      go_wp2
      go_ret
      exact ⟨by first | rfl | (simp [errW_none, errW_some] <;> rfl) | (simp [*, errW_none, errW_some] <;> rfl), by repeat (first | (with_reducible first | exact HB.out | apply below_alloc | apply pw_below_drewN | apply below_drew1 | refine below_set ?_ GE340.out) | exact HB.out)⟩
  ·
   rw [if_neg c6] at H
   exact absurd H (by simp)
 ·
  replace c3 := Bool.eq_false_iff.mpr c3
  subst c3
  have H1 : (none) = some r := by rw [if_neg (show ¬ (false = true) by decide)] at H; exact H
  clear H
  have H := H1
  clear H1
  exact absurd H (by simp)

end Go.Proofs.YtljmmhihdcnbaaaDoor.G
