-- Written for this claim by hybrid.py's copy of the print program (a program of this session); not trusted: Lean checks it.
import Derived.Test.YtljmmhihdcnbaaaG0
import Derived.Test.YtljmmhihdcnbaaaG5
import Derived.Test.YtljmmhihdcnbaaaG8
import Derived.Test.YtljmmhihdcnbaaaG23
import Derived.Test.YtljmmhihdcnbaaaG27
import Derived.Test.YtljmmhihdcnbaaaG51
import Derived.Test.YtljmmhihdcnbaaaG97
import Derived.Test.YtljmmhihdcnbaaaG98
import Derived.Test.YtljmmhihdcnbaaaG99
import Derived.Test.YtljmmhihdcnbaaaG101
namespace Go.Proofs.Ytljmmhihdcnbaaa.G
open Go.RowKit Go.Proofs.YtljmmhihdcnbaaaW.PrintWords Go.Proofs.YtljmmhihdcnbaaaW.PrintLast Go.Proofs.YtljmmhihdcnbaaaW.PrintMore
attribute [local go_sem] max2_int min2_int max_two min_two max_three min_three max_four min_four   -- for this text's walks alone
set_option linter.unusedVariables false
set_option linter.unusedSimpArgs false

/-! ### glazierlaw07_SchemeTells: function 16 -/
mutual
def glazierlaw07_SchemeTells.j0 : Nat → Bool → Bool → ByteArray → List (S85) → ByteArray → List (S85) → ByteArray → List (S85) → Option (Bool)
 | 0, _, _, _, _, _, _, _, _ => none
 | k + 1, x4, x6, x1177000, x1177001, x1184000, x1184001, x1189000, x1189001 => if x4 = true then (if x6 = true then ((mark_Cut.f k x1189000 x1189001 0 (wrap64 ((x1184000.size : Int) + 1))).bind fun bt1189 => ((mark_Worst.f k bt1189.1 bt1189.2).bind fun t1193 => (glazierlaw07_SchemeTells.j1 k x6 (t1193 == 0) x1177000 x1177001 x1184000 x1184001 x1189000 x1189001))) else (glazierlaw07_SchemeTells.j1 k x6 false x1177000 x1177001 x1184000 x1184001 x1189000 x1189001)) else (glazierlaw07_SchemeTells.j1 k x6 true x1177000 x1177001 x1184000 x1184001 x1189000 x1189001)
def glazierlaw07_SchemeTells.j1 : Nat → Bool → Bool → ByteArray → List (S85) → ByteArray → List (S85) → ByteArray → List (S85) → Option (Bool)
 | 0, _, _, _, _, _, _, _, _ => none
 | k + 1, x6, x7, x1177000, x1177001, x1184000, x1184001, x1189000, x1189001 => (scheme_Filter.f k x1177000 x1177001).bind fun bt1194 => ((scheme_Safe.f k x1177000 x1177001).bind fun t1200 => (if (t1200 != x7) = true then (glazierlaw07_SchemeTells.j2 k bt1194.2.2 true x1189000 x1189001 bt1194.1 bt1194.2.1) else (if (bt1194.2.2 != x7) = true then (glazierlaw07_SchemeTells.j2 k bt1194.2.2 true x1189000 x1189001 bt1194.1 bt1194.2.1) else ((scheme_Known.f k x1184000).bind fun t1201 => (glazierlaw07_SchemeTells.j2 k bt1194.2.2 (t1201 != x6) x1189000 x1189001 bt1194.1 bt1194.2.1)))))
def glazierlaw07_SchemeTells.j2 : Nat → Bool → Bool → ByteArray → List (S85) → ByteArray → List (S85) → Option (Bool)
 | 0, _, _, _, _, _, _ => none
 | k + 1, x9, x67, x1189000, x1189001, x1200000, x1200001 => if x67 = true then (none) else (if x9 = true then ((mark_Same.f k x1200000 x1200001 x1189000 x1189001).bind fun t1202 => (some t1202)) else (some (x1200000.toList == ([] : List UInt8))))
end
def glazierlaw07_SchemeTells.f (k : Nat) (a0_0 : ByteArray) (l0_1 : List (S85)) : Option (Bool) := (glazierlaw07_alive.f k).bind fun t1177 => (if t1177 = true then ((url_Scheme.f k a0_0 l0_1).bind fun bt1178 => ((url_Ready.f k a0_0 l0_1).bind fun bt1184 => (if bt1178.1.toList = ([104, 116, 116, 112] : List UInt8) then (glazierlaw07_SchemeTells.j0 k bt1178.2.2 true a0_0 l0_1 bt1178.1 bt1178.2.1 bt1184.1 bt1184.2) else (if bt1178.1.toList = ([104, 116, 116, 112, 115] : List UInt8) then (glazierlaw07_SchemeTells.j0 k bt1178.2.2 true a0_0 l0_1 bt1178.1 bt1178.2.1 bt1184.1 bt1184.2) else (glazierlaw07_SchemeTells.j0 k bt1178.2.2 (bt1178.1.toList == ([109, 97, 105, 108, 116, 111] : List UInt8)) a0_0 l0_1 bt1178.1 bt1178.2.1 bt1184.1 bt1184.2))))) else (none))
theorem glazierlaw07_SchemeTells.mono_l : ∀ k, (∀ y0 y1 y2 y3 y4 y5 y6 y7, LeO (glazierlaw07_SchemeTells.j0 k y0 y1 y2 y3 y4 y5 y6 y7) (glazierlaw07_SchemeTells.j0 (k + 1) y0 y1 y2 y3 y4 y5 y6 y7)) ∧ (∀ y0 y1 y2 y3 y4 y5 y6 y7, LeO (glazierlaw07_SchemeTells.j1 k y0 y1 y2 y3 y4 y5 y6 y7) (glazierlaw07_SchemeTells.j1 (k + 1) y0 y1 y2 y3 y4 y5 y6 y7)) ∧ (∀ y0 y1 y2 y3 y4 y5, LeO (glazierlaw07_SchemeTells.j2 k y0 y1 y2 y3 y4 y5) (glazierlaw07_SchemeTells.j2 (k + 1) y0 y1 y2 y3 y4 y5))
 | 0 => ⟨fun _ _ _ _ _ _ _ _ r h => by simp [glazierlaw07_SchemeTells.j0] at h, fun _ _ _ _ _ _ _ _ r h => by simp [glazierlaw07_SchemeTells.j1] at h, fun _ _ _ _ _ _ r h => by simp [glazierlaw07_SchemeTells.j2] at h⟩
 | k + 1 => by
  obtain ⟨ih0, ih1, ih2⟩ := glazierlaw07_SchemeTells.mono_l k
  refine ⟨?_, ?_, ?_⟩
  ·
   intro y0 y1 y2 y3 y4 y5 y6 y7
   unfold glazierlaw07_SchemeTells.j0
   repeat' first
   | (with_reducible exact ih0 _ _ _ _ _ _ _ _)
   | (with_reducible exact ih1 _ _ _ _ _ _ _ _)
   | (with_reducible exact ih2 _ _ _ _ _ _)
   | (with_reducible exact glazierlaw07_alive.mono _)
   | (with_reducible exact mark_Cut.mono _ _ _ _ _)
   | (with_reducible exact mark_Same.mono _ _ _ _ _)
   | (with_reducible exact mark_Worst.mono _ _ _)
   | (with_reducible exact scheme_Filter.mono _ _ _)
   | (with_reducible exact scheme_Known.mono _ _)
   | (with_reducible exact scheme_Safe.mono _ _ _)
   | (with_reducible exact url_Ready.mono _ _ _)
   | (with_reducible exact url_Scheme.mono _ _ _)
   | (with_reducible exact LeO.refl _)
   | (with_reducible exact LeO.none _)
   | (with_reducible refine LeO.ite ?_ ?_)
   | (with_reducible refine LeO.bind ?_ (fun _ => ?_))
   | exact ih0 _ _ _ _ _ _ _ _
   | exact ih1 _ _ _ _ _ _ _ _
   | exact ih2 _ _ _ _ _ _
   | exact glazierlaw07_alive.mono _
   | exact mark_Cut.mono _ _ _ _ _
   | exact mark_Same.mono _ _ _ _ _
   | exact mark_Worst.mono _ _ _
   | exact scheme_Filter.mono _ _ _
   | exact scheme_Known.mono _ _
   | exact scheme_Safe.mono _ _ _
   | exact url_Ready.mono _ _ _
   | exact url_Scheme.mono _ _ _
   | exact LeO.none _
   | refine LeO.ite ?_ ?_
   | refine LeO.bind ?_ (fun _ => ?_)
  ·
   intro y0 y1 y2 y3 y4 y5 y6 y7
   unfold glazierlaw07_SchemeTells.j1
   repeat' first
   | (with_reducible exact ih0 _ _ _ _ _ _ _ _)
   | (with_reducible exact ih1 _ _ _ _ _ _ _ _)
   | (with_reducible exact ih2 _ _ _ _ _ _)
   | (with_reducible exact glazierlaw07_alive.mono _)
   | (with_reducible exact mark_Cut.mono _ _ _ _ _)
   | (with_reducible exact mark_Same.mono _ _ _ _ _)
   | (with_reducible exact mark_Worst.mono _ _ _)
   | (with_reducible exact scheme_Filter.mono _ _ _)
   | (with_reducible exact scheme_Known.mono _ _)
   | (with_reducible exact scheme_Safe.mono _ _ _)
   | (with_reducible exact url_Ready.mono _ _ _)
   | (with_reducible exact url_Scheme.mono _ _ _)
   | (with_reducible exact LeO.refl _)
   | (with_reducible exact LeO.none _)
   | (with_reducible refine LeO.ite ?_ ?_)
   | (with_reducible refine LeO.bind ?_ (fun _ => ?_))
   | exact ih0 _ _ _ _ _ _ _ _
   | exact ih1 _ _ _ _ _ _ _ _
   | exact ih2 _ _ _ _ _ _
   | exact glazierlaw07_alive.mono _
   | exact mark_Cut.mono _ _ _ _ _
   | exact mark_Same.mono _ _ _ _ _
   | exact mark_Worst.mono _ _ _
   | exact scheme_Filter.mono _ _ _
   | exact scheme_Known.mono _ _
   | exact scheme_Safe.mono _ _ _
   | exact url_Ready.mono _ _ _
   | exact url_Scheme.mono _ _ _
   | exact LeO.none _
   | refine LeO.ite ?_ ?_
   | refine LeO.bind ?_ (fun _ => ?_)
  ·
   intro y0 y1 y2 y3 y4 y5
   unfold glazierlaw07_SchemeTells.j2
   repeat' first
   | (with_reducible exact ih0 _ _ _ _ _ _ _ _)
   | (with_reducible exact ih1 _ _ _ _ _ _ _ _)
   | (with_reducible exact ih2 _ _ _ _ _ _)
   | (with_reducible exact glazierlaw07_alive.mono _)
   | (with_reducible exact mark_Cut.mono _ _ _ _ _)
   | (with_reducible exact mark_Same.mono _ _ _ _ _)
   | (with_reducible exact mark_Worst.mono _ _ _)
   | (with_reducible exact scheme_Filter.mono _ _ _)
   | (with_reducible exact scheme_Known.mono _ _)
   | (with_reducible exact scheme_Safe.mono _ _ _)
   | (with_reducible exact url_Ready.mono _ _ _)
   | (with_reducible exact url_Scheme.mono _ _ _)
   | (with_reducible exact LeO.refl _)
   | (with_reducible exact LeO.none _)
   | (with_reducible refine LeO.ite ?_ ?_)
   | (with_reducible refine LeO.bind ?_ (fun _ => ?_))
   | exact ih0 _ _ _ _ _ _ _ _
   | exact ih1 _ _ _ _ _ _ _ _
   | exact ih2 _ _ _ _ _ _
   | exact glazierlaw07_alive.mono _
   | exact mark_Cut.mono _ _ _ _ _
   | exact mark_Same.mono _ _ _ _ _
   | exact mark_Worst.mono _ _ _
   | exact scheme_Filter.mono _ _ _
   | exact scheme_Known.mono _ _
   | exact scheme_Safe.mono _ _ _
   | exact url_Ready.mono _ _ _
   | exact url_Scheme.mono _ _ _
   | exact LeO.none _
   | refine LeO.ite ?_ ?_
   | refine LeO.bind ?_ (fun _ => ?_)
theorem glazierlaw07_SchemeTells.mono : ∀ a0 a1 k, LeO (glazierlaw07_SchemeTells.f k a0 a1) (glazierlaw07_SchemeTells.f (k + 1) a0 a1) := by
 intro a0 a1 k
 obtain ⟨ih0, ih1, ih2⟩ := glazierlaw07_SchemeTells.mono_l k
 unfold glazierlaw07_SchemeTells.f
 repeat' first
   | (with_reducible exact ih0 _ _ _ _ _ _ _ _)
   | (with_reducible exact ih1 _ _ _ _ _ _ _ _)
   | (with_reducible exact ih2 _ _ _ _ _ _)
   | (with_reducible exact glazierlaw07_alive.mono _)
   | (with_reducible exact mark_Cut.mono _ _ _ _ _)
   | (with_reducible exact mark_Same.mono _ _ _ _ _)
   | (with_reducible exact mark_Worst.mono _ _ _)
   | (with_reducible exact scheme_Filter.mono _ _ _)
   | (with_reducible exact scheme_Known.mono _ _)
   | (with_reducible exact scheme_Safe.mono _ _ _)
   | (with_reducible exact url_Ready.mono _ _ _)
   | (with_reducible exact url_Scheme.mono _ _ _)
   | (with_reducible exact LeO.refl _)
   | (with_reducible exact LeO.none _)
   | (with_reducible refine LeO.ite ?_ ?_)
   | (with_reducible refine LeO.bind ?_ (fun _ => ?_))
   | exact ih0 _ _ _ _ _ _ _ _
   | exact ih1 _ _ _ _ _ _ _ _
   | exact ih2 _ _ _ _ _ _
   | exact glazierlaw07_alive.mono _
   | exact mark_Cut.mono _ _ _ _ _
   | exact mark_Same.mono _ _ _ _ _
   | exact mark_Worst.mono _ _ _
   | exact scheme_Filter.mono _ _ _
   | exact scheme_Known.mono _ _
   | exact scheme_Safe.mono _ _ _
   | exact url_Ready.mono _ _ _
   | exact url_Scheme.mono _ _ _
   | exact LeO.none _
   | refine LeO.ite ?_ ?_
   | refine LeO.bind ?_ (fun _ => ?_)
set_option maxHeartbeats 8000000 in
set_option maxRecDepth 100000 in
theorem glazierlaw07_SchemeTells.calls (k : Nat) (a0_0 : ByteArray) (A0_1 : Option Addr) (c0_1 : Nat) (l0_1 : List (S85)) (r : Bool) (w : World) (hr0_1 : Kd.C k85 w A0_1 l0_1.length l0_1) (hc0_1 : l0_1.length ≤ c0_1) (h : glazierlaw07_SchemeTells.f k a0_0 l0_1 = some r) :
  Calls Try.prog 16 #[.agg #[.string a0_0, .slice A0_1 l0_1.length c0_1]] w fun e w' => e = .returned (.bool r) ∧ Below w.heap.size w w' := by
 have hu24 := Try.underlying24
 have HR0_1 := Aside0.mk hr0_1
 have HC0_1 := Aside0.mk hc0_1
 clear hr0_1 hc0_1
 have HB := Aside0.mk (Below.refl w.heap.size w)
 have H : ((glazierlaw07_alive.f k).bind fun t1177 => (if t1177 = true then ((url_Scheme.f k a0_0 l0_1).bind fun bt1178 => ((url_Ready.f k a0_0 l0_1).bind fun bt1184 => (if bt1178.1.toList = ([104, 116, 116, 112] : List UInt8) then (glazierlaw07_SchemeTells.j0 k bt1178.2.2 true a0_0 l0_1 bt1178.1 bt1178.2.1 bt1184.1 bt1184.2) else (if bt1178.1.toList = ([104, 116, 116, 112, 115] : List UInt8) then (glazierlaw07_SchemeTells.j0 k bt1178.2.2 true a0_0 l0_1 bt1178.1 bt1178.2.1 bt1184.1 bt1184.2) else (glazierlaw07_SchemeTells.j0 k bt1178.2.2 (bt1178.1.toList == ([109, 97, 105, 108, 116, 111] : List UInt8)) a0_0 l0_1 bt1178.1 bt1178.2.1 bt1184.1 bt1184.2))))) else (none))) = some r := h
 clear h
 replace H := Option.bind_eq_some_iff.mp H
 obtain ⟨t1177, A20, H⟩ := H
 replace H : (if t1177 = true then ((url_Scheme.f k a0_0 l0_1).bind fun bt1178 => ((url_Ready.f k a0_0 l0_1).bind fun bt1184 => (if bt1178.1.toList = ([104, 116, 116, 112] : List UInt8) then (glazierlaw07_SchemeTells.j0 k bt1178.2.2 true a0_0 l0_1 bt1178.1 bt1178.2.1 bt1184.1 bt1184.2) else (if bt1178.1.toList = ([104, 116, 116, 112, 115] : List UInt8) then (glazierlaw07_SchemeTells.j0 k bt1178.2.2 true a0_0 l0_1 bt1178.1 bt1178.2.1 bt1184.1 bt1184.2) else (glazierlaw07_SchemeTells.j0 k bt1178.2.2 (bt1178.1.toList == ([109, 97, 105, 108, 116, 111] : List UInt8)) a0_0 l0_1 bt1178.1 bt1178.2.1 bt1184.1 bt1184.2))))) else (none)) = some r := H
 have A2 := Aside0.mk A20
 clear A20
 by_cases c3 : t1177 = true
 ·
  subst c3
  have H1 : ((url_Scheme.f k a0_0 l0_1).bind fun bt1178 => ((url_Ready.f k a0_0 l0_1).bind fun bt1184 => (if bt1178.1.toList = ([104, 116, 116, 112] : List UInt8) then (glazierlaw07_SchemeTells.j0 k bt1178.2.2 true a0_0 l0_1 bt1178.1 bt1178.2.1 bt1184.1 bt1184.2) else (if bt1178.1.toList = ([104, 116, 116, 112, 115] : List UInt8) then (glazierlaw07_SchemeTells.j0 k bt1178.2.2 true a0_0 l0_1 bt1178.1 bt1178.2.1 bt1184.1 bt1184.2) else (glazierlaw07_SchemeTells.j0 k bt1178.2.2 (bt1178.1.toList == ([109, 97, 105, 108, 116, 111] : List UInt8)) a0_0 l0_1 bt1178.1 bt1178.2.1 bt1184.1 bt1184.2))))) = some r := by rw [if_pos rfl] at H; exact H
  clear H
  have H := H1
  clear H1
  replace H := Option.bind_eq_some_iff.mp H
  obtain ⟨⟨t1178, t1179, t1182⟩, A40, H⟩ := H
  replace H : ((url_Ready.f k a0_0 l0_1).bind fun bt1184 => (if t1178.toList = ([104, 116, 116, 112] : List UInt8) then (glazierlaw07_SchemeTells.j0 k t1182 true a0_0 l0_1 t1178 t1179 bt1184.1 bt1184.2) else (if t1178.toList = ([104, 116, 116, 112, 115] : List UInt8) then (glazierlaw07_SchemeTells.j0 k t1182 true a0_0 l0_1 t1178 t1179 bt1184.1 bt1184.2) else (glazierlaw07_SchemeTells.j0 k t1182 (t1178.toList == ([109, 97, 105, 108, 116, 111] : List UInt8)) a0_0 l0_1 t1178 t1179 bt1184.1 bt1184.2)))) = some r := H
  have A4 := Aside0.mk A40
  clear A40
  replace H := Option.bind_eq_some_iff.mp H
  obtain ⟨⟨t1184, t1185⟩, A50, H⟩ := H
  replace H : (if t1178.toList = ([104, 116, 116, 112] : List UInt8) then (glazierlaw07_SchemeTells.j0 k t1182 true a0_0 l0_1 t1178 t1179 t1184 t1185) else (if t1178.toList = ([104, 116, 116, 112, 115] : List UInt8) then (glazierlaw07_SchemeTells.j0 k t1182 true a0_0 l0_1 t1178 t1179 t1184 t1185) else (glazierlaw07_SchemeTells.j0 k t1182 (t1178.toList == ([109, 97, 105, 108, 116, 111] : List UInt8)) a0_0 l0_1 t1178 t1179 t1184 t1185))) = some r := H
  have A5 := Aside0.mk A50
  clear A50
  have HC6 := Aside0.mk H
  clear H
  go_enter Try.func16, Try.ntmps16
  go_upto_region 5 with (first | ((with_reducible refine gate_dst (N := 1) rfl ?_); refine box_event ?hg (N := 1) ?hd (cs := #[.string a0_0, .slice A0_1 l0_1.length c0_1]) (t := 24) ?hr ?_; (case hd => rfl); (case hg => rfl); (case hr => first | (go_simp; done) | (go_simp; rfl)); intro gb1176 hg w7 hbox hb; have n0_ := Aside0.mk (below_step (by repeat (first | (with_reducible first | exact HB.out | apply below_alloc | apply pw_below_drewN | apply below_drew1) | exact HB.out)) hb); have n1_ := Aside0.mk (hbox); have n2_ := Aside0.mk ((by rw [hg]; exact (below_size (by repeat (first | (with_reducible first | exact HB.out | apply below_alloc | apply pw_below_drewN | apply below_drew1) | exact HB.out))) : w.heap.size ≤ gb1176)); have n3_ := Aside0.mk ((by rw [hg]; exact (below_size (by repeat (first | (with_reducible first | exact HB.out | apply below_alloc | apply pw_below_drewN | apply below_drew1) | exact HB.out))) : w.heap.size ≤ gb1176)); clear HB; have HB := n0_; have BK1176 := n1_; have GW1176 := n2_; have GE1176 := n3_; clear n0_ n1_ n2_ n3_; clear hb hbox hg) | ((with_reducible refine gate_callee (f := 70) rfl ?_); refine goesL_ (some 10) rfl rfl Try.func70 (by kernel_rfl) rfl #[] rfl (by (try simp only [List.map_toArray, List.map_cons, List.map_nil]); first | done | rfl | (simp only [List.length_drop, List.length_take]; rfl)) ?_; (with_reducible refine (glazierlaw07_alive.calls k  true _ A2.out).mono ?_); rintro e w8 ⟨rfl, hb⟩; refine ⟨_, rfl, ?_⟩; have n0_ := Aside0.mk (blk_below (g := gb1176) (o := .cells #[.string a0_0, .slice A0_1 l0_1.length c0_1] 24 (0, 0)) (by (with_reducible repeat (first | refine blk_drewN ?_ _ | refine blk_drew ?_ | refine blk_alloc ?_ _)); exact BK1176.out) hb); have n1_ := Aside0.mk (below_step (by repeat (first | (with_reducible first | exact HB.out | apply below_alloc | apply pw_below_drewN | apply below_drew1 | refine below_set ?_ GE1176.out) | exact HB.out)) hb); clear BK1176; clear HB; have BK1176 := n0_; have HB := n1_; clear n0_ n1_; (try clear hb); (try clear hb2); (try clear hk); (try clear hi); have hcz9_0 : w8.cell? ⟨gb1176, 0, none⟩ = some (.string a0_0) := (blk_cell BK1176.out 0).trans rfl; have hcz9_1 : w8.cell? ⟨gb1176, 1, none⟩ = some (.slice A0_1 l0_1.length c0_1) := (blk_cell BK1176.out 1).trans rfl; have hfz9_0 := blk_frozen BK1176.out 0; have hfz9_1 := blk_frozen BK1176.out 1) | ((with_reducible refine gate_callee (f := 30) rfl ?_); refine goesL_ (some 14) rfl rfl Try.func30 (by kernel_rfl) rfl #[.agg #[.string a0_0, .slice A0_1 l0_1.length c0_1]] rfl (by (try simp only [List.map_toArray, List.map_cons, List.map_nil]); first | done | rfl | (simp only [List.length_drop, List.length_take]; rfl)) ?_; (with_reducible refine (url_Scheme.calls k a0_0 _ _ l0_1 t1178 t1179 t1182 _ ?side1 ?side2 A4.out).mono ?_); (case side1 => repeat (first | exact (Kd.C_below HR0_1.out HB.out) | (with_reducible refine Kd.C_alloc ?_ _) | (with_reducible refine Kd.C_drewN ?_ _) | (with_reducible refine Kd.C_drew ?_))); (case side2 => exact HC0_1.out); rintro e w10 ⟨v1180, rfl, ho0, hb⟩; refine ⟨_, rfl, ?_⟩; have n0_ := Aside0.mk (Kd.R_lower ho0 (below_size (by repeat (first | (with_reducible first | exact HB.out | apply below_alloc | apply pw_below_drewN | apply below_drew1 | refine below_set ?_ GE1176.out) | exact HB.out)))); have n1_ := Aside0.mk (blk_below (g := gb1176) (o := .cells #[.string a0_0, .slice A0_1 l0_1.length c0_1] 24 (0, 0)) (by (with_reducible repeat (first | refine blk_drewN ?_ _ | refine blk_drew ?_ | refine blk_alloc ?_ _)); exact BK1176.out) hb); have n2_ := Aside0.mk (below_step (by repeat (first | (with_reducible first | exact HB.out | apply below_alloc | apply pw_below_drewN | apply below_drew1 | refine below_set ?_ GE1176.out) | exact HB.out)) hb); clear BK1176; clear HB; have HO1181 := n0_; have BK1176 := n1_; have HB := n2_; clear n0_ n1_ n2_; (try clear hb); (try clear hb2); (try clear hk); (try clear hi); (try clear ho0)) | ((with_reducible refine gate_dst (N := 3) rfl ?_); refine box_event ?hg (N := 3) ?hd (cs := #[.string (⟨#[]⟩ : ByteArray), .slice none 0 0]) (t := 24) ?hr ?_; (case hd => rfl); (case hg => rfl); (case hr => first | (go_simp; done) | (go_simp; rfl)); intro gb1183 hg w11 hbox hb; have n0_ := Aside0.mk (Kd.R_below (by (with_reducible repeat (first | apply Kd.R_alloc | apply Kd.R_drewN | apply Kd.R_drew)); exact HO1181.out) hb); have n1_ := Aside0.mk (blk_below (g := gb1176) (o := .cells #[.string a0_0, .slice A0_1 l0_1.length c0_1] 24 (0, 0)) (by (with_reducible repeat (first | refine blk_drewN ?_ _ | refine blk_drew ?_ | refine blk_alloc ?_ _)); exact BK1176.out) hb); have n2_ := Aside0.mk (below_step (by repeat (first | (with_reducible first | exact HB.out | apply below_alloc | apply pw_below_drewN | apply below_drew1 | refine below_set ?_ GE1176.out) | exact HB.out)) hb); have n3_ := Aside0.mk (hbox); have n4_ := Aside0.mk ((by rw [hg]; exact (below_size (by repeat (first | (with_reducible first | exact HB.out | apply below_alloc | apply pw_below_drewN | apply below_drew1 | refine below_set ?_ GE1176.out) | exact HB.out))) : w.heap.size ≤ gb1183)); have n5_ := Aside0.mk ((by rw [hg]; exact (below_size (by repeat (first | (with_reducible first | exact HB.out | apply below_alloc | apply pw_below_drewN | apply below_drew1 | refine below_set ?_ GE1176.out) | exact HB.out))) : w.heap.size ≤ gb1183)); have n6_ := Aside0.mk ((by rw [hg]; exact Nat.ne_of_lt (blk_lt (g := gb1176) (o := .cells #[.string a0_0, .slice A0_1 l0_1.length c0_1] 24 (0, 0)) (by (with_reducible repeat (first | refine blk_drewN ?_ _ | refine blk_drew ?_ | refine blk_alloc ?_ _)); exact BK1176.out)) : gb1176 ≠ gb1183)); have n7_ := Aside0.mk ((by rw [hg]; exact Nat.ne_of_gt (blk_lt (g := gb1176) (o := .cells #[.string a0_0, .slice A0_1 l0_1.length c0_1] 24 (0, 0)) (by (with_reducible repeat (first | refine blk_drewN ?_ _ | refine blk_drew ?_ | refine blk_alloc ?_ _)); exact BK1176.out)) : gb1183 ≠ gb1176)); clear HO1181; clear BK1176; clear HB; have HO1181 := n0_; have BK1176 := n1_; have HB := n2_; have BK1183 := n3_; have GW1183 := n4_; have GE1183 := n5_; have NB1176_1183 := n6_; have NB1183_1176 := n7_; clear n0_ n1_ n2_ n3_ n4_ n5_ n6_ n7_; clear hb hbox hg; have hnb12 := NB1183_1176.out; have hnc12 := NB1176_1183.out; have hcz13_0 : w11.cell? ⟨gb1183, 0, none⟩ = some (.string (⟨#[]⟩ : ByteArray)) := (blk_cell BK1183.out 0).trans rfl; have hcz13_1 : w11.cell? ⟨gb1183, 1, none⟩ = some (.slice none 0 0) := (blk_cell BK1183.out 1).trans rfl; have hfz13_0 := blk_frozen BK1183.out 0; have hfz13_1 := blk_frozen BK1183.out 1; obtain ⟨Ao14, co14, eo14⟩ := Kd.R_slice HO1181.out; subst eo14; have hcz15_0 : w11.cell? ⟨gb1176, 0, none⟩ = some (.string a0_0) := (blk_cell BK1176.out 0).trans rfl; have hcz15_1 : w11.cell? ⟨gb1176, 1, none⟩ = some (.slice A0_1 l0_1.length c0_1) := (blk_cell BK1176.out 1).trans rfl; have hfz15_0 := blk_frozen BK1176.out 0; have hfz15_1 := blk_frozen BK1176.out 1) | ((with_reducible refine gate_callee (f := 31) rfl ?_); refine goesL_ (some 18) rfl rfl Try.func31 (by kernel_rfl) rfl #[.agg #[.string a0_0, .slice A0_1 l0_1.length c0_1]] rfl (by (try simp only [List.map_toArray, List.map_cons, List.map_nil]); first | done | rfl | (simp only [List.length_drop, List.length_take]; rfl)) ?_; (with_reducible refine (url_Ready.calls k a0_0 _ _ l0_1 t1184 t1185 _ ?side1 ?side2 A5.out).mono ?_); (case side1 => exact Kd.C_below HR0_1.out (by repeat (first | (with_reducible first | exact HB.out | apply below_alloc | apply pw_below_drewN | apply below_drew1 | refine below_set ?_ GE1176.out | refine below_set ?_ GE1183.out) | exact HB.out))); (case side2 => exact HC0_1.out); rintro e w16 ⟨v1186, rfl, ho0, hb⟩; refine ⟨_, rfl, ?_⟩; have n0_ := Aside0.mk (Kd.R_elder' (by (with_reducible repeat (first | apply Kd.R_alloc | apply Kd.R_drewN | apply Kd.R_drew)); exact (Kd.R_mono (Kd.R_far (p := ⟨gb1183, 1, none⟩) (Kd.R_far (p := ⟨gb1183, 0, none⟩) (Kd.R_types HO1181.out BK1183.out (by decide)) (fun _ hk => hk.2) (.string t1178)) (fun _ hk => hk.2) (.slice Ao14 t1179.length co14)) (fun _ h_ => h_.1))) (Kd.R_base ho0) hb); have n1_ := Aside0.mk (Kd.R_lower (Kd.R_new' ho0 (Kd.R_lt (by (with_reducible repeat (first | apply Kd.R_alloc | apply Kd.R_drewN | apply Kd.R_drew)); exact (Kd.R_mono (Kd.R_far (p := ⟨gb1183, 1, none⟩) (Kd.R_far (p := ⟨gb1183, 0, none⟩) (Kd.R_types HO1181.out BK1183.out (by decide)) (fun _ hk => hk.2) (.string t1178)) (fun _ hk => hk.2) (.slice Ao14 t1179.length co14)) (fun _ h_ => h_.1))))) (below_size (by repeat (first | (with_reducible first | exact HB.out | apply below_alloc | apply pw_below_drewN | apply below_drew1 | refine below_set ?_ GE1176.out | refine below_set ?_ GE1183.out) | exact HB.out)))); have n2_ := Aside0.mk (blk_below (g := gb1176) (o := .cells #[.string a0_0, .slice A0_1 l0_1.length c0_1] 24 (0, 0)) (by (with_reducible repeat (first | refine blk_drewN ?_ _ | refine blk_drew ?_ | refine blk_alloc ?_ _)); refine blk_far ?_ NB1176_1183.out _; (with_reducible repeat (first | refine blk_drewN ?_ _ | refine blk_drew ?_ | refine blk_alloc ?_ _)); refine blk_far ?_ NB1176_1183.out _; (with_reducible repeat (first | refine blk_drewN ?_ _ | refine blk_drew ?_ | refine blk_alloc ?_ _)); exact BK1176.out) hb); have n3_ := Aside0.mk (blk_below (g := gb1183) (o := .cells #[.string t1178, .slice Ao14 t1179.length co14] 24 (0, 0)) (by (with_reducible repeat (first | refine blk_drewN ?_ _ | refine blk_drew ?_ | refine blk_alloc ?_ _)); refine blk_put (cs := #[.string t1178, .slice none 0 0]) ?_ 1 _ rfl; (with_reducible repeat (first | refine blk_drewN ?_ _ | refine blk_drew ?_ | refine blk_alloc ?_ _)); refine blk_put (cs := #[.string (⟨#[]⟩ : ByteArray), .slice none 0 0]) ?_ 0 _ rfl; (with_reducible repeat (first | refine blk_drewN ?_ _ | refine blk_drew ?_ | refine blk_alloc ?_ _)); exact BK1183.out) hb); have n4_ := Aside0.mk (below_step (by repeat (first | (with_reducible first | exact HB.out | apply below_alloc | apply pw_below_drewN | apply below_drew1 | refine below_set ?_ GE1176.out | refine below_set ?_ GE1183.out) | exact HB.out)) hb); clear HO1181; clear BK1176; clear BK1183; clear HB; have HO1181 := n0_; have HO1187 := n1_; have BK1176 := n2_; have BK1183 := n3_; have HB := n4_; clear n0_ n1_ n2_ n3_ n4_; (try clear hb); (try clear hb2); (try clear hk); (try clear hi); (try clear ho0)) | ((with_reducible refine gate_dst (N := 5) rfl ?_); refine box_event ?hg (N := 5) ?hd (cs := #[.string (⟨#[]⟩ : ByteArray), .slice none 0 0]) (t := 24) ?hr ?_; (case hd => rfl); (case hg => rfl); (case hr => first | (go_simp; done) | (go_simp; rfl)); intro gb1188 hg w17 hbox hb; have n0_ := Aside0.mk (Kd.R_below (by (with_reducible repeat (first | apply Kd.R_alloc | apply Kd.R_drewN | apply Kd.R_drew)); exact HO1181.out) hb); have n1_ := Aside0.mk (Kd.R_below (by (with_reducible repeat (first | apply Kd.R_alloc | apply Kd.R_drewN | apply Kd.R_drew)); exact HO1187.out) hb); have n2_ := Aside0.mk (blk_below (g := gb1176) (o := .cells #[.string a0_0, .slice A0_1 l0_1.length c0_1] 24 (0, 0)) (by (with_reducible repeat (first | refine blk_drewN ?_ _ | refine blk_drew ?_ | refine blk_alloc ?_ _)); exact BK1176.out) hb); have n3_ := Aside0.mk (blk_below (g := gb1183) (o := .cells #[.string t1178, .slice Ao14 t1179.length co14] 24 (0, 0)) (by (with_reducible repeat (first | refine blk_drewN ?_ _ | refine blk_drew ?_ | refine blk_alloc ?_ _)); exact BK1183.out) hb); have n4_ := Aside0.mk (below_step (by repeat (first | (with_reducible first | exact HB.out | apply below_alloc | apply pw_below_drewN | apply below_drew1 | refine below_set ?_ GE1176.out | refine below_set ?_ GE1183.out) | exact HB.out)) hb); have n5_ := Aside0.mk (hbox); have n6_ := Aside0.mk ((by rw [hg]; exact (below_size (by repeat (first | (with_reducible first | exact HB.out | apply below_alloc | apply pw_below_drewN | apply below_drew1 | refine below_set ?_ GE1176.out | refine below_set ?_ GE1183.out) | exact HB.out))) : w.heap.size ≤ gb1188)); have n7_ := Aside0.mk ((by rw [hg]; exact (below_size (by repeat (first | (with_reducible first | exact HB.out | apply below_alloc | apply pw_below_drewN | apply below_drew1 | refine below_set ?_ GE1176.out | refine below_set ?_ GE1183.out) | exact HB.out))) : w.heap.size ≤ gb1188)); have n8_ := Aside0.mk ((by rw [hg]; exact Nat.ne_of_lt (blk_lt (g := gb1176) (o := .cells #[.string a0_0, .slice A0_1 l0_1.length c0_1] 24 (0, 0)) (by (with_reducible repeat (first | refine blk_drewN ?_ _ | refine blk_drew ?_ | refine blk_alloc ?_ _)); exact BK1176.out)) : gb1176 ≠ gb1188)); have n9_ := Aside0.mk ((by rw [hg]; exact Nat.ne_of_gt (blk_lt (g := gb1176) (o := .cells #[.string a0_0, .slice A0_1 l0_1.length c0_1] 24 (0, 0)) (by (with_reducible repeat (first | refine blk_drewN ?_ _ | refine blk_drew ?_ | refine blk_alloc ?_ _)); exact BK1176.out)) : gb1188 ≠ gb1176)); have n10_ := Aside0.mk ((by rw [hg]; exact Nat.ne_of_lt (blk_lt (g := gb1183) (o := .cells #[.string t1178, .slice Ao14 t1179.length co14] 24 (0, 0)) (by (with_reducible repeat (first | refine blk_drewN ?_ _ | refine blk_drew ?_ | refine blk_alloc ?_ _)); exact BK1183.out)) : gb1183 ≠ gb1188)); have n11_ := Aside0.mk ((by rw [hg]; exact Nat.ne_of_gt (blk_lt (g := gb1183) (o := .cells #[.string t1178, .slice Ao14 t1179.length co14] 24 (0, 0)) (by (with_reducible repeat (first | refine blk_drewN ?_ _ | refine blk_drew ?_ | refine blk_alloc ?_ _)); exact BK1183.out)) : gb1188 ≠ gb1183)); clear HO1181; clear HO1187; clear BK1176; clear BK1183; clear HB; have HO1181 := n0_; have HO1187 := n1_; have BK1176 := n2_; have BK1183 := n3_; have HB := n4_; have BK1188 := n5_; have GW1188 := n6_; have GE1188 := n7_; have NB1176_1188 := n8_; have NB1188_1176 := n9_; have NB1183_1188 := n10_; have NB1188_1183 := n11_; clear n0_ n1_ n2_ n3_ n4_ n5_ n6_ n7_ n8_ n9_ n10_ n11_; clear hb hbox hg; have hnb18 := NB1188_1176.out; have hnc18 := NB1176_1188.out; have hnb19 := NB1188_1183.out; have hnc19 := NB1183_1188.out; have hcz20_0 : w17.cell? ⟨gb1188, 0, none⟩ = some (.string (⟨#[]⟩ : ByteArray)) := (blk_cell BK1188.out 0).trans rfl; have hcz20_1 : w17.cell? ⟨gb1188, 1, none⟩ = some (.slice none 0 0) := (blk_cell BK1188.out 1).trans rfl; have hfz20_0 := blk_frozen BK1188.out 0; have hfz20_1 := blk_frozen BK1188.out 1; obtain ⟨Ao21, co21, eo21⟩ := Kd.R_slice HO1187.out; subst eo21))
  (try simp only [Act.put, List.setIfInBounds_toArray, List.set_cons_zero, List.set_cons_succ])
  go_cut [6] (fun v6 wc => ∃ (kq : Nat) (x6_5 : Bool), v6 = .bool x6_5 ∧ Aside0 (glazierlaw07_SchemeTells.j0 kq t1182 x6_5 a0_0 l0_1 t1178 t1179 t1184 t1185 = some r) ∧ Aside0 (kq ≤ k) ∧ Aside0 (Kd.R k85 85 wc w.heap.size (fun k_ => some k_ ≠ ((.slice Ao21 t1185.length co21) : Value).ownBlock) (.slice Ao14 t1179.length co14) t1179) ∧ Aside0 (Kd.R k85 85 wc w.heap.size (fun k_ => some k_ ≠ ((.slice Ao14 t1179.length co14) : Value).ownBlock) (.slice Ao21 t1185.length co21) t1185) ∧ Aside0 (wc.heap[gb1176]? = some (.cells #[.string a0_0, (.slice A0_1 l0_1.length c0_1)] 24 (0, 0))) ∧ Aside0 (wc.heap[gb1183]? = some (.cells #[.string t1178, (.slice Ao14 t1179.length co14)] 24 (0, 0))) ∧ Aside0 (wc.heap[gb1188]? = some (.cells #[.string t1184, (.slice Ao21 t1185.length co21)] 24 (0, 0))) ∧ Aside0 (Below w.heap.size w wc))
  case first =>
   have H := HC6.out
   clear HC6
   by_cases c22 : t1178.toList = ([104, 116, 116, 112] : List UInt8)
   ·
    rw [if_pos c22] at H
    have c22b0 : (t1178.toList == ([104, 116, 116, 112] : List UInt8)) = true := beq_iff_eq.mpr c22
    have c22b1 : (t1178.toList != ([104, 116, 116, 112] : List UInt8)) = false := bne_eq_false_iff_eq.mpr c22
    clear c22
    (first | rw [c22b0] | (simp only [i64_w, i32_w]; rw [c22b0]) | skip)
    have H' := Aside0.mk H
    clear H
    have hnb23 := NB1183_1176.out
    have hnc23 := NB1176_1183.out
    have hnb24 := NB1183_1188.out
    have hnc24 := NB1188_1183.out
    have hcz25_0 : w17.cell? ⟨gb1183, 0, none⟩ = some (.string t1178) := (blk_cell BK1183.out 0).trans rfl
    have hcz25_1 : w17.cell? ⟨gb1183, 1, none⟩ = some (.slice Ao14 t1179.length co14) := (blk_cell BK1183.out 1).trans rfl
    have hfz25_0 := blk_frozen BK1183.out 0
    have hfz25_1 := blk_frozen BK1183.out 1
    go_wp2
    go_meet
    case rel => exact ⟨_, (true), (by first | rfl | (simp; done) | (simp [*]; done)), H', ⟨by first | omega | exact Nat.le_refl _⟩, ⟨by (with_reducible repeat (first | apply Kd.R_alloc | apply Kd.R_drewN | apply Kd.R_drew)); exact Kd.R_mono (Kd.R_far (p := ⟨gb1188, 1, none⟩) (Kd.R_far (p := ⟨gb1188, 0, none⟩) (Kd.R_types HO1181.out BK1188.out (by decide)) (fun _ hk => hk.2) (.string t1184)) (fun _ hk => hk.2) (.slice Ao21 t1185.length co21)) (fun _ hk => hk.1.2)⟩, ⟨by (with_reducible repeat (first | apply Kd.R_alloc | apply Kd.R_drewN | apply Kd.R_drew)); exact Kd.R_mono (Kd.R_far (p := ⟨gb1188, 1, none⟩) (Kd.R_far (p := ⟨gb1188, 0, none⟩) (Kd.R_types HO1187.out BK1188.out (by decide)) (fun _ hk => hk.2) (.string t1184)) (fun _ hk => hk.2) (.slice Ao21 t1185.length co21)) (fun _ hk => hk.1.2)⟩, ⟨by (with_reducible repeat (first | refine blk_drewN ?_ _ | refine blk_drew ?_ | refine blk_alloc ?_ _)); refine blk_far ?_ NB1176_1188.out _; (with_reducible repeat (first | refine blk_drewN ?_ _ | refine blk_drew ?_ | refine blk_alloc ?_ _)); refine blk_far ?_ NB1176_1188.out _; (with_reducible repeat (first | refine blk_drewN ?_ _ | refine blk_drew ?_ | refine blk_alloc ?_ _)); exact BK1176.out⟩, ⟨by (with_reducible repeat (first | refine blk_drewN ?_ _ | refine blk_drew ?_ | refine blk_alloc ?_ _)); refine blk_far ?_ NB1183_1188.out _; (with_reducible repeat (first | refine blk_drewN ?_ _ | refine blk_drew ?_ | refine blk_alloc ?_ _)); refine blk_far ?_ NB1183_1188.out _; (with_reducible repeat (first | refine blk_drewN ?_ _ | refine blk_drew ?_ | refine blk_alloc ?_ _)); exact BK1183.out⟩, ⟨by (with_reducible repeat (first | refine blk_drewN ?_ _ | refine blk_drew ?_ | refine blk_alloc ?_ _)); refine blk_put (cs := #[.string t1184, .slice none 0 0]) ?_ 1 _ rfl; (with_reducible repeat (first | refine blk_drewN ?_ _ | refine blk_drew ?_ | refine blk_alloc ?_ _)); refine blk_put (cs := #[.string (⟨#[]⟩ : ByteArray), .slice none 0 0]) ?_ 0 _ rfl; (with_reducible repeat (first | refine blk_drewN ?_ _ | refine blk_drew ?_ | refine blk_alloc ?_ _)); exact BK1188.out⟩, ⟨by repeat (first | (with_reducible first | exact HB.out | apply below_alloc | apply pw_below_drewN | apply below_drew1 | refine below_set ?_ GE1176.out | refine below_set ?_ GE1183.out | refine below_set ?_ GE1188.out) | exact HB.out)⟩⟩
   ·
    rw [if_neg c22] at H
    have c22b0 : (t1178.toList == ([104, 116, 116, 112] : List UInt8)) = false := beq_eq_false_iff_ne.mpr c22
    have c22b1 : (t1178.toList != ([104, 116, 116, 112] : List UInt8)) = true := bne_iff_ne.mpr c22
    (first | rw [c22b0] | (simp only [i64_w, i32_w]; rw [c22b0]) | skip)
    by_cases c26 : t1178.toList = ([104, 116, 116, 112, 115] : List UInt8)
    ·
     rw [if_pos c26] at H
     have c26b0 : (t1178.toList == ([104, 116, 116, 112, 115] : List UInt8)) = true := beq_iff_eq.mpr c26
     have c26b1 : (t1178.toList != ([104, 116, 116, 112, 115] : List UInt8)) = false := bne_eq_false_iff_eq.mpr c26
     clear c26
     have H' := Aside0.mk H
     clear H
     have hnb27 := NB1183_1176.out
     have hnc27 := NB1176_1183.out
     have hnb28 := NB1183_1188.out
     have hnc28 := NB1188_1183.out
     have hcz29_0 : w17.cell? ⟨gb1183, 0, none⟩ = some (.string t1178) := (blk_cell BK1183.out 0).trans rfl
     have hcz29_1 : w17.cell? ⟨gb1183, 1, none⟩ = some (.slice Ao14 t1179.length co14) := (blk_cell BK1183.out 1).trans rfl
     have hfz29_0 := blk_frozen BK1183.out 0
     have hfz29_1 := blk_frozen BK1183.out 1
     go_wp2
     go_meet
     case rel => exact ⟨_, (true), (by first | rfl | (simp; done) | (simp [*]; done)), H', ⟨by first | omega | exact Nat.le_refl _⟩, ⟨by (with_reducible repeat (first | apply Kd.R_alloc | apply Kd.R_drewN | apply Kd.R_drew)); exact Kd.R_mono (Kd.R_far (p := ⟨gb1188, 1, none⟩) (Kd.R_far (p := ⟨gb1188, 0, none⟩) (Kd.R_types HO1181.out BK1188.out (by decide)) (fun _ hk => hk.2) (.string t1184)) (fun _ hk => hk.2) (.slice Ao21 t1185.length co21)) (fun _ hk => hk.1.2)⟩, ⟨by (with_reducible repeat (first | apply Kd.R_alloc | apply Kd.R_drewN | apply Kd.R_drew)); exact Kd.R_mono (Kd.R_far (p := ⟨gb1188, 1, none⟩) (Kd.R_far (p := ⟨gb1188, 0, none⟩) (Kd.R_types HO1187.out BK1188.out (by decide)) (fun _ hk => hk.2) (.string t1184)) (fun _ hk => hk.2) (.slice Ao21 t1185.length co21)) (fun _ hk => hk.1.2)⟩, ⟨by (with_reducible repeat (first | refine blk_drewN ?_ _ | refine blk_drew ?_ | refine blk_alloc ?_ _)); refine blk_far ?_ NB1176_1188.out _; (with_reducible repeat (first | refine blk_drewN ?_ _ | refine blk_drew ?_ | refine blk_alloc ?_ _)); refine blk_far ?_ NB1176_1188.out _; (with_reducible repeat (first | refine blk_drewN ?_ _ | refine blk_drew ?_ | refine blk_alloc ?_ _)); exact BK1176.out⟩, ⟨by (with_reducible repeat (first | refine blk_drewN ?_ _ | refine blk_drew ?_ | refine blk_alloc ?_ _)); refine blk_far ?_ NB1183_1188.out _; (with_reducible repeat (first | refine blk_drewN ?_ _ | refine blk_drew ?_ | refine blk_alloc ?_ _)); refine blk_far ?_ NB1183_1188.out _; (with_reducible repeat (first | refine blk_drewN ?_ _ | refine blk_drew ?_ | refine blk_alloc ?_ _)); exact BK1183.out⟩, ⟨by (with_reducible repeat (first | refine blk_drewN ?_ _ | refine blk_drew ?_ | refine blk_alloc ?_ _)); refine blk_put (cs := #[.string t1184, .slice none 0 0]) ?_ 1 _ rfl; (with_reducible repeat (first | refine blk_drewN ?_ _ | refine blk_drew ?_ | refine blk_alloc ?_ _)); refine blk_put (cs := #[.string (⟨#[]⟩ : ByteArray), .slice none 0 0]) ?_ 0 _ rfl; (with_reducible repeat (first | refine blk_drewN ?_ _ | refine blk_drew ?_ | refine blk_alloc ?_ _)); exact BK1188.out⟩, ⟨by repeat (first | (with_reducible first | exact HB.out | apply below_alloc | apply pw_below_drewN | apply below_drew1 | refine below_set ?_ GE1176.out | refine below_set ?_ GE1183.out | refine below_set ?_ GE1188.out) | exact HB.out)⟩⟩
    ·
     rw [if_neg c26] at H
     have c26b0 : (t1178.toList == ([104, 116, 116, 112, 115] : List UInt8)) = false := beq_eq_false_iff_ne.mpr c26
     have c26b1 : (t1178.toList != ([104, 116, 116, 112, 115] : List UInt8)) = true := bne_iff_ne.mpr c26
     have H' := Aside0.mk H
     clear H
     have hnb30 := NB1183_1176.out
     have hnc30 := NB1176_1183.out
     have hnb31 := NB1183_1188.out
     have hnc31 := NB1188_1183.out
     have hcz32_0 : w17.cell? ⟨gb1183, 0, none⟩ = some (.string t1178) := (blk_cell BK1183.out 0).trans rfl
     have hcz32_1 : w17.cell? ⟨gb1183, 1, none⟩ = some (.slice Ao14 t1179.length co14) := (blk_cell BK1183.out 1).trans rfl
     have hfz32_0 := blk_frozen BK1183.out 0
     have hfz32_1 := blk_frozen BK1183.out 1
     go_wp2
     go_meet
     case rel => exact ⟨_, ((t1178.toList == ([109, 97, 105, 108, 116, 111] : List UInt8))), (by first | rfl | (simp; done) | (simp [*]; done)), H', ⟨by first | omega | exact Nat.le_refl _⟩, ⟨by (with_reducible repeat (first | apply Kd.R_alloc | apply Kd.R_drewN | apply Kd.R_drew)); exact Kd.R_mono (Kd.R_far (p := ⟨gb1188, 1, none⟩) (Kd.R_far (p := ⟨gb1188, 0, none⟩) (Kd.R_types HO1181.out BK1188.out (by decide)) (fun _ hk => hk.2) (.string t1184)) (fun _ hk => hk.2) (.slice Ao21 t1185.length co21)) (fun _ hk => hk.1.2)⟩, ⟨by (with_reducible repeat (first | apply Kd.R_alloc | apply Kd.R_drewN | apply Kd.R_drew)); exact Kd.R_mono (Kd.R_far (p := ⟨gb1188, 1, none⟩) (Kd.R_far (p := ⟨gb1188, 0, none⟩) (Kd.R_types HO1187.out BK1188.out (by decide)) (fun _ hk => hk.2) (.string t1184)) (fun _ hk => hk.2) (.slice Ao21 t1185.length co21)) (fun _ hk => hk.1.2)⟩, ⟨by (with_reducible repeat (first | refine blk_drewN ?_ _ | refine blk_drew ?_ | refine blk_alloc ?_ _)); refine blk_far ?_ NB1176_1188.out _; (with_reducible repeat (first | refine blk_drewN ?_ _ | refine blk_drew ?_ | refine blk_alloc ?_ _)); refine blk_far ?_ NB1176_1188.out _; (with_reducible repeat (first | refine blk_drewN ?_ _ | refine blk_drew ?_ | refine blk_alloc ?_ _)); exact BK1176.out⟩, ⟨by (with_reducible repeat (first | refine blk_drewN ?_ _ | refine blk_drew ?_ | refine blk_alloc ?_ _)); refine blk_far ?_ NB1183_1188.out _; (with_reducible repeat (first | refine blk_drewN ?_ _ | refine blk_drew ?_ | refine blk_alloc ?_ _)); refine blk_far ?_ NB1183_1188.out _; (with_reducible repeat (first | refine blk_drewN ?_ _ | refine blk_drew ?_ | refine blk_alloc ?_ _)); exact BK1183.out⟩, ⟨by (with_reducible repeat (first | refine blk_drewN ?_ _ | refine blk_drew ?_ | refine blk_alloc ?_ _)); refine blk_put (cs := #[.string t1184, .slice none 0 0]) ?_ 1 _ rfl; (with_reducible repeat (first | refine blk_drewN ?_ _ | refine blk_drew ?_ | refine blk_alloc ?_ _)); refine blk_put (cs := #[.string (⟨#[]⟩ : ByteArray), .slice none 0 0]) ?_ 0 _ rfl; (with_reducible repeat (first | refine blk_drewN ?_ _ | refine blk_drew ?_ | refine blk_alloc ?_ _)); exact BK1188.out⟩, ⟨by repeat (first | (with_reducible first | exact HB.out | apply below_alloc | apply pw_below_drewN | apply below_drew1 | refine below_set ?_ GE1176.out | refine below_set ?_ GE1183.out | refine below_set ?_ GE1188.out) | exact HB.out)⟩⟩
  case rest =>
   clear HC6
   try clear c1
   try clear c2
   try clear p2
   try clear c3
   try clear c7
   try clear c12
   try clear c16
   try clear c18
   try clear c19
   try clear c22
   try clear c22b0
   try clear c22b1
   try clear c23
   try clear c24
   try clear c26
   try clear c26b0
   try clear c26b1
   try clear c27
   try clear c28
   try clear c30
   try clear c31
   try clear hcz13_0
   try clear hcz13_1
   try clear hcz15_0
   try clear hcz15_1
   try clear hcz20_0
   try clear hcz20_1
   try clear hcz25_0
   try clear hcz25_1
   try clear hcz29_0
   try clear hcz29_1
   try clear hcz32_0
   try clear hcz32_1
   try clear hcz9_0
   try clear hcz9_1
   try clear hfz13_0
   try clear hfz13_1
   try clear hfz15_0
   try clear hfz15_1
   try clear hfz20_0
   try clear hfz20_1
   try clear hfz25_0
   try clear hfz25_1
   try clear hfz29_0
   try clear hfz29_1
   try clear hfz32_0
   try clear hfz32_1
   try clear hfz9_0
   try clear hfz9_1
   obtain ⟨kq, x6_5, rfl, HA, HJ5, HO_1184001, HO_1189001, BK1176, BK1183, BK1188, HB⟩ := hcut
   cases kq with
   | zero => exact absurd HA.out (by simp [glazierlaw07_SchemeTells.j0])
   | succ kj5 =>
    have H := HA.out
    clear HA
    simp only [glazierlaw07_SchemeTells.j0] at H
    have HC33 := Aside0.mk H
    clear H
    go_upto_region 6 with (fail)
    go_cut [7] (fun v7 wc => ∃ (kq : Nat) (x7_32 : Bool), v7 = .bool x7_32 ∧ Aside0 (glazierlaw07_SchemeTells.j1 kq x6_5 x7_32 a0_0 l0_1 t1178 t1179 t1184 t1185 = some r) ∧ Aside0 (kq ≤ kj5) ∧ Aside0 (Kd.R k85 85 wc w.heap.size (fun k_ => some k_ ≠ ((.slice Ao21 t1185.length co21) : Value).ownBlock) (.slice Ao14 t1179.length co14) t1179) ∧ Aside0 (Kd.R k85 85 wc w.heap.size (fun k_ => some k_ ≠ ((.slice Ao14 t1179.length co14) : Value).ownBlock) (.slice Ao21 t1185.length co21) t1185) ∧ Aside0 (wc.heap[gb1176]? = some (.cells #[.string a0_0, (.slice A0_1 l0_1.length c0_1)] 24 (0, 0))) ∧ Aside0 (wc.heap[gb1183]? = some (.cells #[.string t1178, (.slice Ao14 t1179.length co14)] 24 (0, 0))) ∧ Aside0 (wc.heap[gb1188]? = some (.cells #[.string t1184, (.slice Ao21 t1185.length co21)] 24 (0, 0))) ∧ Aside0 (Below w.heap.size w wc))
    case first =>
     have H := HC33.out
     clear HC33
     by_cases c34 : t1182 = true
     ·
      subst c34
      have H1 : (if x6_5 = true then ((mark_Cut.f kj5 t1184 t1185 0 (wrap64 ((t1178.size : Int) + 1))).bind fun bt1189 => ((mark_Worst.f kj5 bt1189.1 bt1189.2).bind fun t1193 => (glazierlaw07_SchemeTells.j1 kj5 x6_5 (t1193 == 0) a0_0 l0_1 t1178 t1179 t1184 t1185))) else (glazierlaw07_SchemeTells.j1 kj5 x6_5 false a0_0 l0_1 t1178 t1179 t1184 t1185)) = some r := by rw [if_pos rfl] at H; exact H
      clear H
      have H := H1
      clear H1
      by_cases c35 : x6_5 = true
      ·
       subst c35
       have H1 : ((mark_Cut.f kj5 t1184 t1185 0 (wrap64 ((t1178.size : Int) + 1))).bind fun bt1189 => ((mark_Worst.f kj5 bt1189.1 bt1189.2).bind fun t1193 => (glazierlaw07_SchemeTells.j1 kj5 true (t1193 == 0) a0_0 l0_1 t1178 t1179 t1184 t1185))) = some r := by rw [if_pos rfl] at H; exact H
       clear H
       have H := H1
       clear H1
       replace H := Option.bind_eq_some_iff.mp H
       obtain ⟨⟨t1189, t1190⟩, A360, H⟩ := H
       replace H : ((mark_Worst.f kj5 t1189 t1190).bind fun t1193 => (glazierlaw07_SchemeTells.j1 kj5 true (t1193 == 0) a0_0 l0_1 t1178 t1179 t1184 t1185)) = some r := H
       have A36 := Aside0.mk A360
       clear A360
       replace H := Option.bind_eq_some_iff.mp H
       obtain ⟨t1193, A370, H⟩ := H
       replace H : (glazierlaw07_SchemeTells.j1 kj5 true (t1193 == 0) a0_0 l0_1 t1178 t1179 t1184 t1185) = some r := H
       have A37 := Aside0.mk A370
       clear A370
       have H' := Aside0.mk H
       clear H
       have hnb38 := NB1188_1176.out
       have hnc38 := NB1176_1188.out
       have hnb39 := NB1188_1183.out
       have hnc39 := NB1183_1188.out
       have hcz40_0 : wc.cell? ⟨gb1188, 0, none⟩ = some (.string t1184) := (blk_cell BK1188.out 0).trans rfl
       have hcz40_1 : wc.cell? ⟨gb1188, 1, none⟩ = some (.slice Ao21 t1185.length co21) := (blk_cell BK1188.out 1).trans rfl
       have hfz40_0 := blk_frozen BK1188.out 0
       have hfz40_1 := blk_frozen BK1188.out 1
       have hnb41 := NB1183_1176.out
       have hnc41 := NB1176_1183.out
       have hcz42_0 : wc.cell? ⟨gb1183, 0, none⟩ = some (.string t1178) := (blk_cell BK1183.out 0).trans rfl
       have hcz42_1 : wc.cell? ⟨gb1183, 1, none⟩ = some (.slice Ao14 t1179.length co14) := (blk_cell BK1183.out 1).trans rfl
       have hfz42_0 := blk_frozen BK1183.out 0
       have hfz42_1 := blk_frozen BK1183.out 1
       go_wp2_with (first | (go_at_call 73; (with_reducible refine (mark_Cut.calls kj5 t1184 _ _ t1185 0 (wrap64 ((t1178.size : Int) + 1)) t1189 t1190 _ ?side1 ?side2 A36.out).mono ?_); (case side1 => repeat (first | exact (Kd.R_reads' HO_1189001.out).2.2 | (with_reducible refine Kd.C_alloc ?_ _) | (with_reducible refine Kd.C_drewN ?_ _) | (with_reducible refine Kd.C_drew ?_))); (case side2 => exact (Kd.R_reads' HO_1189001.out).2.1); rintro e w43 ⟨v1191, rfl, ho0, hb⟩; have n0_ := Aside0.mk (Kd.R_elder' (by (with_reducible repeat (first | apply Kd.R_alloc | apply Kd.R_drewN | apply Kd.R_drew)); exact HO_1184001.out) (Kd.R_base ho0) hb); have n1_ := Aside0.mk (Kd.R_elder' (by (with_reducible repeat (first | apply Kd.R_alloc | apply Kd.R_drewN | apply Kd.R_drew)); exact HO_1189001.out) (Kd.R_base ho0) hb); have n2_ := Aside0.mk (Kd.R_lower (Kd.R_new' (Kd.R_new' ho0 (Kd.R_lt (by (with_reducible repeat (first | apply Kd.R_alloc | apply Kd.R_drewN | apply Kd.R_drew)); exact HO_1184001.out))) (Kd.R_lt (by (with_reducible repeat (first | apply Kd.R_alloc | apply Kd.R_drewN | apply Kd.R_drew)); exact HO_1189001.out))) (below_size (by repeat (first | (with_reducible first | exact HB.out | apply below_alloc | apply pw_below_drewN | apply below_drew1 | refine below_set ?_ GE1176.out | refine below_set ?_ GE1183.out | refine below_set ?_ GE1188.out) | exact HB.out)))); have n3_ := Aside0.mk (blk_below (g := gb1176) (o := .cells #[.string a0_0, .slice A0_1 l0_1.length c0_1] 24 (0, 0)) (by (with_reducible repeat (first | refine blk_drewN ?_ _ | refine blk_drew ?_ | refine blk_alloc ?_ _)); exact BK1176.out) hb); have n4_ := Aside0.mk (blk_below (g := gb1183) (o := .cells #[.string t1178, .slice Ao14 t1179.length co14] 24 (0, 0)) (by (with_reducible repeat (first | refine blk_drewN ?_ _ | refine blk_drew ?_ | refine blk_alloc ?_ _)); exact BK1183.out) hb); have n5_ := Aside0.mk (blk_below (g := gb1188) (o := .cells #[.string t1184, .slice Ao21 t1185.length co21] 24 (0, 0)) (by (with_reducible repeat (first | refine blk_drewN ?_ _ | refine blk_drew ?_ | refine blk_alloc ?_ _)); exact BK1188.out) hb); have n6_ := Aside0.mk (below_step (by repeat (first | (with_reducible first | exact HB.out | apply below_alloc | apply pw_below_drewN | apply below_drew1 | refine below_set ?_ GE1176.out | refine below_set ?_ GE1183.out | refine below_set ?_ GE1188.out) | exact HB.out)) hb); clear HO_1184001; clear HO_1189001; clear BK1176; clear BK1183; clear BK1188; clear HB; have HO_1184001 := n0_; have HO_1189001 := n1_; have HO1192 := n2_; have BK1176 := n3_; have BK1183 := n4_; have BK1188 := n5_; have HB := n6_; clear n0_ n1_ n2_ n3_ n4_ n5_ n6_; (try clear hb); (try clear hb2); (try clear hk); (try clear hi); (try clear ho0); obtain ⟨Ao44, co44, eo44⟩ := Kd.R_slice HO1192.out; subst eo44) | (go_at_call 44; (with_reducible refine (mark_Worst.calls kj5 t1189 _ _ t1190 t1193 _ ?side1 ?side2 A37.out).mono ?_); (case side1 => repeat (first | exact (Kd.R_reads' HO1192.out).2.2 | (with_reducible refine Kd.C_alloc ?_ _) | (with_reducible refine Kd.C_drewN ?_ _) | (with_reducible refine Kd.C_drew ?_))); (case side2 => exact (Kd.R_reads' HO1192.out).2.1); rintro e w45 ⟨rfl, hb⟩; have n0_ := Aside0.mk (Kd.R_below (by (with_reducible repeat (first | apply Kd.R_alloc | apply Kd.R_drewN | apply Kd.R_drew)); exact HO_1184001.out) hb); have n1_ := Aside0.mk (Kd.R_below (by (with_reducible repeat (first | apply Kd.R_alloc | apply Kd.R_drewN | apply Kd.R_drew)); exact HO_1189001.out) hb); have n2_ := Aside0.mk (Kd.R_below (by (with_reducible repeat (first | apply Kd.R_alloc | apply Kd.R_drewN | apply Kd.R_drew)); exact HO1192.out) hb); have n3_ := Aside0.mk (blk_below (g := gb1176) (o := .cells #[.string a0_0, .slice A0_1 l0_1.length c0_1] 24 (0, 0)) (by (with_reducible repeat (first | refine blk_drewN ?_ _ | refine blk_drew ?_ | refine blk_alloc ?_ _)); exact BK1176.out) hb); have n4_ := Aside0.mk (blk_below (g := gb1183) (o := .cells #[.string t1178, .slice Ao14 t1179.length co14] 24 (0, 0)) (by (with_reducible repeat (first | refine blk_drewN ?_ _ | refine blk_drew ?_ | refine blk_alloc ?_ _)); exact BK1183.out) hb); have n5_ := Aside0.mk (blk_below (g := gb1188) (o := .cells #[.string t1184, .slice Ao21 t1185.length co21] 24 (0, 0)) (by (with_reducible repeat (first | refine blk_drewN ?_ _ | refine blk_drew ?_ | refine blk_alloc ?_ _)); exact BK1188.out) hb); have n6_ := Aside0.mk (below_step (by repeat (first | (with_reducible first | exact HB.out | apply below_alloc | apply pw_below_drewN | apply below_drew1 | refine below_set ?_ GE1176.out | refine below_set ?_ GE1183.out | refine below_set ?_ GE1188.out) | exact HB.out)) hb); clear HO_1184001; clear HO_1189001; clear HO1192; clear BK1176; clear BK1183; clear BK1188; clear HB; have HO_1184001 := n0_; have HO_1189001 := n1_; have HO1192 := n2_; have BK1176 := n3_; have BK1183 := n4_; have BK1188 := n5_; have HB := n6_; clear n0_ n1_ n2_ n3_ n4_ n5_ n6_; (try clear hb); (try clear hb2); (try clear hk); (try clear hi)))
       go_meet
       case rel => exact ⟨_, ((t1193 == 0)), (by first | rfl | (simp; done) | (simp [*]; done)), H', ⟨by have := HJ5.out; first | omega | exact Nat.le_refl _⟩, ⟨by (with_reducible repeat (first | apply Kd.R_alloc | apply Kd.R_drewN | apply Kd.R_drew)); exact Kd.R_mono HO_1184001.out (fun _ hk => hk.1)⟩, ⟨by (with_reducible repeat (first | apply Kd.R_alloc | apply Kd.R_drewN | apply Kd.R_drew)); exact Kd.R_mono HO_1189001.out (fun _ hk => hk.1)⟩, ⟨by (with_reducible repeat (first | refine blk_drewN ?_ _ | refine blk_drew ?_ | refine blk_alloc ?_ _)); exact BK1176.out⟩, ⟨by (with_reducible repeat (first | refine blk_drewN ?_ _ | refine blk_drew ?_ | refine blk_alloc ?_ _)); exact BK1183.out⟩, ⟨by (with_reducible repeat (first | refine blk_drewN ?_ _ | refine blk_drew ?_ | refine blk_alloc ?_ _)); exact BK1188.out⟩, ⟨by repeat (first | (with_reducible first | exact HB.out | apply below_alloc | apply pw_below_drewN | apply below_drew1 | refine below_set ?_ GE1176.out | refine below_set ?_ GE1183.out | refine below_set ?_ GE1188.out) | exact HB.out)⟩⟩
      ·
       replace c35 := Bool.eq_false_iff.mpr c35
       subst c35
       have H1 : (glazierlaw07_SchemeTells.j1 kj5 false false a0_0 l0_1 t1178 t1179 t1184 t1185) = some r := by rw [if_neg (show ¬ (false = true) by decide)] at H; exact H
       clear H
       have H := H1
       clear H1
       have H' := Aside0.mk H
       clear H
       go_wp2
       go_meet
       case rel => exact ⟨_, (false), (by first | rfl | (simp; done) | (simp [*]; done)), H', ⟨by have := HJ5.out; first | omega | exact Nat.le_refl _⟩, ⟨by (with_reducible repeat (first | apply Kd.R_alloc | apply Kd.R_drewN | apply Kd.R_drew)); exact HO_1184001.out⟩, ⟨by (with_reducible repeat (first | apply Kd.R_alloc | apply Kd.R_drewN | apply Kd.R_drew)); exact HO_1189001.out⟩, ⟨by (with_reducible repeat (first | refine blk_drewN ?_ _ | refine blk_drew ?_ | refine blk_alloc ?_ _)); exact BK1176.out⟩, ⟨by (with_reducible repeat (first | refine blk_drewN ?_ _ | refine blk_drew ?_ | refine blk_alloc ?_ _)); exact BK1183.out⟩, ⟨by (with_reducible repeat (first | refine blk_drewN ?_ _ | refine blk_drew ?_ | refine blk_alloc ?_ _)); exact BK1188.out⟩, ⟨by repeat (first | (with_reducible first | exact HB.out | apply below_alloc | apply pw_below_drewN | apply below_drew1 | refine below_set ?_ GE1176.out | refine below_set ?_ GE1183.out | refine below_set ?_ GE1188.out) | exact HB.out)⟩⟩
     ·
      replace c34 := Bool.eq_false_iff.mpr c34
      subst c34
      have H1 : (glazierlaw07_SchemeTells.j1 kj5 x6_5 true a0_0 l0_1 t1178 t1179 t1184 t1185) = some r := by rw [if_neg (show ¬ (false = true) by decide)] at H; exact H
      clear H
      have H := H1
      clear H1
      have H' := Aside0.mk H
      clear H
      go_wp2
      go_meet
      case rel => exact ⟨_, (true), (by first | rfl | (simp; done) | (simp [*]; done)), H', ⟨by have := HJ5.out; first | omega | exact Nat.le_refl _⟩, ⟨by (with_reducible repeat (first | apply Kd.R_alloc | apply Kd.R_drewN | apply Kd.R_drew)); exact HO_1184001.out⟩, ⟨by (with_reducible repeat (first | apply Kd.R_alloc | apply Kd.R_drewN | apply Kd.R_drew)); exact HO_1189001.out⟩, ⟨by (with_reducible repeat (first | refine blk_drewN ?_ _ | refine blk_drew ?_ | refine blk_alloc ?_ _)); exact BK1176.out⟩, ⟨by (with_reducible repeat (first | refine blk_drewN ?_ _ | refine blk_drew ?_ | refine blk_alloc ?_ _)); exact BK1183.out⟩, ⟨by (with_reducible repeat (first | refine blk_drewN ?_ _ | refine blk_drew ?_ | refine blk_alloc ?_ _)); exact BK1188.out⟩, ⟨by repeat (first | (with_reducible first | exact HB.out | apply below_alloc | apply pw_below_drewN | apply below_drew1 | refine below_set ?_ GE1176.out | refine below_set ?_ GE1183.out | refine below_set ?_ GE1188.out) | exact HB.out)⟩⟩
    case rest =>
     clear HC33
     try clear c1
     try clear c2
     try clear p2
     try clear c3
     try clear c4
     try clear p6
     try clear c7
     try clear c12
     try clear c16
     try clear c18
     try clear c19
     try clear c22
     try clear c22b0
     try clear c22b1
     try clear c23
     try clear c24
     try clear c26
     try clear c26b0
     try clear c26b1
     try clear c27
     try clear c28
     try clear c30
     try clear c31
     try clear c34
     try clear c35
     try clear c38
     try clear c39
     try clear c41
     try clear hcz13_0
     try clear hcz13_1
     try clear hcz15_0
     try clear hcz15_1
     try clear hcz20_0
     try clear hcz20_1
     try clear hcz25_0
     try clear hcz25_1
     try clear hcz29_0
     try clear hcz29_1
     try clear hcz32_0
     try clear hcz32_1
     try clear hcz40_0
     try clear hcz40_1
     try clear hcz42_0
     try clear hcz42_1
     try clear hcz9_0
     try clear hcz9_1
     try clear hfz13_0
     try clear hfz13_1
     try clear hfz15_0
     try clear hfz15_1
     try clear hfz20_0
     try clear hfz20_1
     try clear hfz25_0
     try clear hfz25_1
     try clear hfz29_0
     try clear hfz29_1
     try clear hfz32_0
     try clear hfz32_1
     try clear hfz40_0
     try clear hfz40_1
     try clear hfz42_0
     try clear hfz42_1
     try clear hfz9_0
     try clear hfz9_1
     try clear p2
     obtain ⟨kq, x7_32, rfl, HA, HJ32, HO_1184001, HO_1189001, BK1176, BK1183, BK1188, HB⟩ := hcut
     cases kq with
     | zero => exact absurd HA.out (by simp [glazierlaw07_SchemeTells.j1])
     | succ kj32 =>
      have H := HA.out
      clear HA
      simp only [glazierlaw07_SchemeTells.j1] at H
      replace H := Option.bind_eq_some_iff.mp H
      obtain ⟨⟨t1194, t1195, t1198⟩, A460, H⟩ := H
      replace H : ((scheme_Safe.f kj32 a0_0 l0_1).bind fun t1200 => (if (t1200 != x7_32) = true then (glazierlaw07_SchemeTells.j2 kj32 t1198 true t1184 t1185 t1194 t1195) else (if (t1198 != x7_32) = true then (glazierlaw07_SchemeTells.j2 kj32 t1198 true t1184 t1185 t1194 t1195) else ((scheme_Known.f kj32 t1178).bind fun t1201 => (glazierlaw07_SchemeTells.j2 kj32 t1198 (t1201 != x6_5) t1184 t1185 t1194 t1195))))) = some r := H
      have A46 := Aside0.mk A460
      clear A460
      have HC47 := Aside0.mk H
      clear H
      have hnb48 := NB1176_1183.out
      have hnc48 := NB1183_1176.out
      have hnb49 := NB1176_1188.out
      have hnc49 := NB1188_1176.out
      have hcz50_0 : wc.cell? ⟨gb1176, 0, none⟩ = some (.string a0_0) := (blk_cell BK1176.out 0).trans rfl
      have hcz50_1 : wc.cell? ⟨gb1176, 1, none⟩ = some (.slice A0_1 l0_1.length c0_1) := (blk_cell BK1176.out 1).trans rfl
      have hfz50_0 := blk_frozen BK1176.out 0
      have hfz50_1 := blk_frozen BK1176.out 1
      go_upto_region 8 with (first | ((with_reducible refine gate_callee (f := 72) rfl ?_); refine goesL_ (some 49) rfl rfl Try.func72 (by kernel_rfl) rfl #[.agg #[.string a0_0, .slice A0_1 l0_1.length c0_1]] rfl (by (try simp only [List.map_toArray, List.map_cons, List.map_nil]); first | done | rfl | (simp only [List.length_drop, List.length_take]; rfl)) ?_; (with_reducible refine (scheme_Filter.calls kj32 a0_0 _ _ l0_1 t1194 t1195 t1198 _ ?side1 ?side2 A46.out).mono ?_); (case side1 => repeat (first | exact (Kd.C_below HR0_1.out HB.out) | (with_reducible refine Kd.C_alloc ?_ _) | (with_reducible refine Kd.C_drewN ?_ _) | (with_reducible refine Kd.C_drew ?_))); (case side2 => exact HC0_1.out); rintro e w51 ⟨v1196, rfl, ho0, hb⟩; refine ⟨_, rfl, ?_⟩; have n0_ := Aside0.mk (Kd.R_elder' (by (with_reducible repeat (first | apply Kd.R_alloc | apply Kd.R_drewN | apply Kd.R_drew)); exact HO_1184001.out) (Kd.R_base ho0) hb); have n1_ := Aside0.mk (Kd.R_elder' (by (with_reducible repeat (first | apply Kd.R_alloc | apply Kd.R_drewN | apply Kd.R_drew)); exact HO_1189001.out) (Kd.R_base ho0) hb); have n2_ := Aside0.mk (Kd.R_lower (Kd.R_new' (Kd.R_new' ho0 (Kd.R_lt (by (with_reducible repeat (first | apply Kd.R_alloc | apply Kd.R_drewN | apply Kd.R_drew)); exact HO_1184001.out))) (Kd.R_lt (by (with_reducible repeat (first | apply Kd.R_alloc | apply Kd.R_drewN | apply Kd.R_drew)); exact HO_1189001.out))) (below_size (by repeat (first | (with_reducible first | exact HB.out | apply below_alloc | apply pw_below_drewN | apply below_drew1 | refine below_set ?_ GE1176.out | refine below_set ?_ GE1183.out | refine below_set ?_ GE1188.out) | exact HB.out)))); have n3_ := Aside0.mk (blk_below (g := gb1176) (o := .cells #[.string a0_0, .slice A0_1 l0_1.length c0_1] 24 (0, 0)) (by (with_reducible repeat (first | refine blk_drewN ?_ _ | refine blk_drew ?_ | refine blk_alloc ?_ _)); exact BK1176.out) hb); have n4_ := Aside0.mk (blk_below (g := gb1183) (o := .cells #[.string t1178, .slice Ao14 t1179.length co14] 24 (0, 0)) (by (with_reducible repeat (first | refine blk_drewN ?_ _ | refine blk_drew ?_ | refine blk_alloc ?_ _)); exact BK1183.out) hb); have n5_ := Aside0.mk (blk_below (g := gb1188) (o := .cells #[.string t1184, .slice Ao21 t1185.length co21] 24 (0, 0)) (by (with_reducible repeat (first | refine blk_drewN ?_ _ | refine blk_drew ?_ | refine blk_alloc ?_ _)); exact BK1188.out) hb); have n6_ := Aside0.mk (below_step (by repeat (first | (with_reducible first | exact HB.out | apply below_alloc | apply pw_below_drewN | apply below_drew1 | refine below_set ?_ GE1176.out | refine below_set ?_ GE1183.out | refine below_set ?_ GE1188.out) | exact HB.out)) hb); clear HO_1184001; clear HO_1189001; clear BK1176; clear BK1183; clear BK1188; clear HB; have HO_1184001 := n0_; have HO_1189001 := n1_; have HO1197 := n2_; have BK1176 := n3_; have BK1183 := n4_; have BK1188 := n5_; have HB := n6_; clear n0_ n1_ n2_ n3_ n4_ n5_ n6_; (try clear hb); (try clear hb2); (try clear hk); (try clear hi); (try clear ho0)) | ((with_reducible refine gate_dst (N := 8) rfl ?_); refine box_event ?hg (N := 8) ?hd (cs := #[.string (⟨#[]⟩ : ByteArray), .slice none 0 0]) (t := 24) ?hr ?_; (case hd => rfl); (case hg => rfl); (case hr => first | (go_simp; done) | (go_simp; rfl)); intro gb1199 hg w52 hbox hb; have n0_ := Aside0.mk (Kd.R_below (by (with_reducible repeat (first | apply Kd.R_alloc | apply Kd.R_drewN | apply Kd.R_drew)); exact HO_1184001.out) hb); have n1_ := Aside0.mk (Kd.R_below (by (with_reducible repeat (first | apply Kd.R_alloc | apply Kd.R_drewN | apply Kd.R_drew)); exact HO_1189001.out) hb); have n2_ := Aside0.mk (Kd.R_below (by (with_reducible repeat (first | apply Kd.R_alloc | apply Kd.R_drewN | apply Kd.R_drew)); exact HO1197.out) hb); have n3_ := Aside0.mk (blk_below (g := gb1176) (o := .cells #[.string a0_0, .slice A0_1 l0_1.length c0_1] 24 (0, 0)) (by (with_reducible repeat (first | refine blk_drewN ?_ _ | refine blk_drew ?_ | refine blk_alloc ?_ _)); exact BK1176.out) hb); have n4_ := Aside0.mk (blk_below (g := gb1183) (o := .cells #[.string t1178, .slice Ao14 t1179.length co14] 24 (0, 0)) (by (with_reducible repeat (first | refine blk_drewN ?_ _ | refine blk_drew ?_ | refine blk_alloc ?_ _)); exact BK1183.out) hb); have n5_ := Aside0.mk (blk_below (g := gb1188) (o := .cells #[.string t1184, .slice Ao21 t1185.length co21] 24 (0, 0)) (by (with_reducible repeat (first | refine blk_drewN ?_ _ | refine blk_drew ?_ | refine blk_alloc ?_ _)); exact BK1188.out) hb); have n6_ := Aside0.mk (below_step (by repeat (first | (with_reducible first | exact HB.out | apply below_alloc | apply pw_below_drewN | apply below_drew1 | refine below_set ?_ GE1176.out | refine below_set ?_ GE1183.out | refine below_set ?_ GE1188.out) | exact HB.out)) hb); have n7_ := Aside0.mk (hbox); have n8_ := Aside0.mk ((by rw [hg]; exact (below_size (by repeat (first | (with_reducible first | exact HB.out | apply below_alloc | apply pw_below_drewN | apply below_drew1 | refine below_set ?_ GE1176.out | refine below_set ?_ GE1183.out | refine below_set ?_ GE1188.out) | exact HB.out))) : w.heap.size ≤ gb1199)); have n9_ := Aside0.mk ((by rw [hg]; exact (below_size (by repeat (first | (with_reducible first | exact HB.out | apply below_alloc | apply pw_below_drewN | apply below_drew1 | refine below_set ?_ GE1176.out | refine below_set ?_ GE1183.out | refine below_set ?_ GE1188.out) | exact HB.out))) : w.heap.size ≤ gb1199)); have n10_ := Aside0.mk ((by rw [hg]; exact Nat.ne_of_lt (blk_lt (g := gb1176) (o := .cells #[.string a0_0, .slice A0_1 l0_1.length c0_1] 24 (0, 0)) (by (with_reducible repeat (first | refine blk_drewN ?_ _ | refine blk_drew ?_ | refine blk_alloc ?_ _)); exact BK1176.out)) : gb1176 ≠ gb1199)); have n11_ := Aside0.mk ((by rw [hg]; exact Nat.ne_of_gt (blk_lt (g := gb1176) (o := .cells #[.string a0_0, .slice A0_1 l0_1.length c0_1] 24 (0, 0)) (by (with_reducible repeat (first | refine blk_drewN ?_ _ | refine blk_drew ?_ | refine blk_alloc ?_ _)); exact BK1176.out)) : gb1199 ≠ gb1176)); have n12_ := Aside0.mk ((by rw [hg]; exact Nat.ne_of_lt (blk_lt (g := gb1183) (o := .cells #[.string t1178, .slice Ao14 t1179.length co14] 24 (0, 0)) (by (with_reducible repeat (first | refine blk_drewN ?_ _ | refine blk_drew ?_ | refine blk_alloc ?_ _)); exact BK1183.out)) : gb1183 ≠ gb1199)); have n13_ := Aside0.mk ((by rw [hg]; exact Nat.ne_of_gt (blk_lt (g := gb1183) (o := .cells #[.string t1178, .slice Ao14 t1179.length co14] 24 (0, 0)) (by (with_reducible repeat (first | refine blk_drewN ?_ _ | refine blk_drew ?_ | refine blk_alloc ?_ _)); exact BK1183.out)) : gb1199 ≠ gb1183)); have n14_ := Aside0.mk ((by rw [hg]; exact Nat.ne_of_lt (blk_lt (g := gb1188) (o := .cells #[.string t1184, .slice Ao21 t1185.length co21] 24 (0, 0)) (by (with_reducible repeat (first | refine blk_drewN ?_ _ | refine blk_drew ?_ | refine blk_alloc ?_ _)); exact BK1188.out)) : gb1188 ≠ gb1199)); have n15_ := Aside0.mk ((by rw [hg]; exact Nat.ne_of_gt (blk_lt (g := gb1188) (o := .cells #[.string t1184, .slice Ao21 t1185.length co21] 24 (0, 0)) (by (with_reducible repeat (first | refine blk_drewN ?_ _ | refine blk_drew ?_ | refine blk_alloc ?_ _)); exact BK1188.out)) : gb1199 ≠ gb1188)); clear HO_1184001; clear HO_1189001; clear HO1197; clear BK1176; clear BK1183; clear BK1188; clear HB; have HO_1184001 := n0_; have HO_1189001 := n1_; have HO1197 := n2_; have BK1176 := n3_; have BK1183 := n4_; have BK1188 := n5_; have HB := n6_; have BK1199 := n7_; have GW1199 := n8_; have GE1199 := n9_; have NB1176_1199 := n10_; have NB1199_1176 := n11_; have NB1183_1199 := n12_; have NB1199_1183 := n13_; have NB1188_1199 := n14_; have NB1199_1188 := n15_; clear n0_ n1_ n2_ n3_ n4_ n5_ n6_ n7_ n8_ n9_ n10_ n11_ n12_ n13_ n14_ n15_; clear hb hbox hg; have hnb53 := NB1199_1176.out; have hnc53 := NB1176_1199.out; have hnb54 := NB1199_1183.out; have hnc54 := NB1183_1199.out; have hnb55 := NB1199_1188.out; have hnc55 := NB1188_1199.out; have hcz56_0 : w52.cell? ⟨gb1199, 0, none⟩ = some (.string (⟨#[]⟩ : ByteArray)) := (blk_cell BK1199.out 0).trans rfl; have hcz56_1 : w52.cell? ⟨gb1199, 1, none⟩ = some (.slice none 0 0) := (blk_cell BK1199.out 1).trans rfl; have hfz56_0 := blk_frozen BK1199.out 0; have hfz56_1 := blk_frozen BK1199.out 1; obtain ⟨Ao57, co57, eo57⟩ := Kd.R_slice HO1197.out; subst eo57))
      (try simp only [Act.put, List.setIfInBounds_toArray, List.set_cons_zero, List.set_cons_succ])
      go_cut [67] (fun v67 wc => ∃ (kq : Nat) (x67_46 : Bool), v67 = .bool x67_46 ∧ Aside0 (glazierlaw07_SchemeTells.j2 kq t1198 x67_46 t1184 t1185 t1194 t1195 = some r) ∧ Aside0 (kq ≤ kj32) ∧ Aside0 (Kd.R k85 85 wc w.heap.size (fun k_ => some k_ ≠ ((.slice Ao21 t1185.length co21) : Value).ownBlock ∧ some k_ ≠ ((.slice Ao57 t1195.length co57) : Value).ownBlock) (.slice Ao14 t1179.length co14) t1179) ∧ Aside0 (Kd.R k85 85 wc w.heap.size (fun k_ => some k_ ≠ ((.slice Ao14 t1179.length co14) : Value).ownBlock ∧ some k_ ≠ ((.slice Ao57 t1195.length co57) : Value).ownBlock) (.slice Ao21 t1185.length co21) t1185) ∧ Aside0 (Kd.R k85 85 wc w.heap.size (fun k_ => some k_ ≠ ((.slice Ao14 t1179.length co14) : Value).ownBlock ∧ some k_ ≠ ((.slice Ao21 t1185.length co21) : Value).ownBlock) (.slice Ao57 t1195.length co57) t1195) ∧ Aside0 (wc.heap[gb1176]? = some (.cells #[.string a0_0, (.slice A0_1 l0_1.length c0_1)] 24 (0, 0))) ∧ Aside0 (wc.heap[gb1183]? = some (.cells #[.string t1178, (.slice Ao14 t1179.length co14)] 24 (0, 0))) ∧ Aside0 (wc.heap[gb1188]? = some (.cells #[.string t1184, (.slice Ao21 t1185.length co21)] 24 (0, 0))) ∧ Aside0 (wc.heap[gb1199]? = some (.cells #[.string t1194, (.slice Ao57 t1195.length co57)] 24 (0, 0))) ∧ Aside0 (Below w.heap.size w wc))
      case first =>
       have H := HC47.out
       clear HC47
       replace H := Option.bind_eq_some_iff.mp H
       obtain ⟨t1200, A580, H⟩ := H
       replace H : (if (t1200 != x7_32) = true then (glazierlaw07_SchemeTells.j2 kj32 t1198 true t1184 t1185 t1194 t1195) else (if (t1198 != x7_32) = true then (glazierlaw07_SchemeTells.j2 kj32 t1198 true t1184 t1185 t1194 t1195) else ((scheme_Known.f kj32 t1178).bind fun t1201 => (glazierlaw07_SchemeTells.j2 kj32 t1198 (t1201 != x6_5) t1184 t1185 t1194 t1195)))) = some r := H
       have A58 := Aside0.mk A580
       clear A580
       by_cases c59 : (t1200 != x7_32) = true
       ·
        rw [if_pos c59] at H
        have c59b0 : (t1200 != x7_32) = true := c59
        (try (have c59b1 : decide (t1200 = x7_32) = false := by simpa using c59))
        (try (have c59b2 : (t1200 == x7_32) = false := by simpa using c59))
        (try (have c59b3 : ¬ (t1200 = x7_32) := by simpa using c59))
        clear c59
        (first | rw [c59b0] | (simp only [i64_w, i32_w]; rw [c59b0]) | skip)
        have H' := Aside0.mk H
        clear H
        have hnb60 := NB1176_1183.out
        have hnc60 := NB1183_1176.out
        have hnb61 := NB1176_1188.out
        have hnc61 := NB1188_1176.out
        have hnb62 := NB1176_1199.out
        have hnc62 := NB1199_1176.out
        have hcz63_0 : w52.cell? ⟨gb1176, 0, none⟩ = some (.string a0_0) := (blk_cell BK1176.out 0).trans rfl
        have hcz63_1 : w52.cell? ⟨gb1176, 1, none⟩ = some (.slice A0_1 l0_1.length c0_1) := (blk_cell BK1176.out 1).trans rfl
        have hfz63_0 := blk_frozen BK1176.out 0
        have hfz63_1 := blk_frozen BK1176.out 1
        go_wp2_with (first | ((with_reducible refine gate_callee (f := 71) rfl ?_); refine goesL_ (some 53) rfl rfl Try.func71 (by kernel_rfl) rfl #[.agg #[.string a0_0, .slice A0_1 l0_1.length c0_1]] rfl (by (try simp only [List.map_toArray, List.map_cons, List.map_nil]); first | done | rfl | (simp only [List.length_drop, List.length_take]; rfl)) ?_; (with_reducible refine (scheme_Safe.calls kj32 a0_0 _ _ l0_1 t1200 _ ?side1 ?side2 A58.out).mono ?_); (case side1 => exact Kd.C_below HR0_1.out (by repeat (first | (with_reducible first | exact HB.out | apply below_alloc | apply pw_below_drewN | apply below_drew1 | refine below_set ?_ GE1176.out | refine below_set ?_ GE1183.out | refine below_set ?_ GE1188.out | refine below_set ?_ GE1199.out) | exact HB.out))); (case side2 => exact HC0_1.out); rintro e w64 ⟨rfl, hb⟩; refine ⟨_, rfl, ?_⟩; have n0_ := Aside0.mk (Kd.R_below (by (with_reducible repeat (first | apply Kd.R_alloc | apply Kd.R_drewN | apply Kd.R_drew)); exact (Kd.R_mono (Kd.R_far (p := ⟨gb1199, 1, none⟩) (Kd.R_far (p := ⟨gb1199, 0, none⟩) (Kd.R_types HO_1184001.out BK1199.out (by decide)) (fun _ hk => hk.2) (.string t1194)) (fun _ hk => hk.2) (.slice Ao57 t1195.length co57)) (fun _ h_ => h_.1))) hb); have n1_ := Aside0.mk (Kd.R_below (by (with_reducible repeat (first | apply Kd.R_alloc | apply Kd.R_drewN | apply Kd.R_drew)); exact (Kd.R_mono (Kd.R_far (p := ⟨gb1199, 1, none⟩) (Kd.R_far (p := ⟨gb1199, 0, none⟩) (Kd.R_types HO_1189001.out BK1199.out (by decide)) (fun _ hk => hk.2) (.string t1194)) (fun _ hk => hk.2) (.slice Ao57 t1195.length co57)) (fun _ h_ => h_.1))) hb); have n2_ := Aside0.mk (Kd.R_below (by (with_reducible repeat (first | apply Kd.R_alloc | apply Kd.R_drewN | apply Kd.R_drew)); exact (Kd.R_mono (Kd.R_far (p := ⟨gb1199, 1, none⟩) (Kd.R_far (p := ⟨gb1199, 0, none⟩) (Kd.R_types HO1197.out BK1199.out (by decide)) (fun _ hk => hk.2) (.string t1194)) (fun _ hk => hk.2) (.slice Ao57 t1195.length co57)) (fun _ h_ => h_.1))) hb); have n3_ := Aside0.mk (blk_below (g := gb1176) (o := .cells #[.string a0_0, .slice A0_1 l0_1.length c0_1] 24 (0, 0)) (by (with_reducible repeat (first | refine blk_drewN ?_ _ | refine blk_drew ?_ | refine blk_alloc ?_ _)); refine blk_far ?_ NB1176_1199.out _; (with_reducible repeat (first | refine blk_drewN ?_ _ | refine blk_drew ?_ | refine blk_alloc ?_ _)); refine blk_far ?_ NB1176_1199.out _; (with_reducible repeat (first | refine blk_drewN ?_ _ | refine blk_drew ?_ | refine blk_alloc ?_ _)); exact BK1176.out) hb); have n4_ := Aside0.mk (blk_below (g := gb1183) (o := .cells #[.string t1178, .slice Ao14 t1179.length co14] 24 (0, 0)) (by (with_reducible repeat (first | refine blk_drewN ?_ _ | refine blk_drew ?_ | refine blk_alloc ?_ _)); refine blk_far ?_ NB1183_1199.out _; (with_reducible repeat (first | refine blk_drewN ?_ _ | refine blk_drew ?_ | refine blk_alloc ?_ _)); refine blk_far ?_ NB1183_1199.out _; (with_reducible repeat (first | refine blk_drewN ?_ _ | refine blk_drew ?_ | refine blk_alloc ?_ _)); exact BK1183.out) hb); have n5_ := Aside0.mk (blk_below (g := gb1188) (o := .cells #[.string t1184, .slice Ao21 t1185.length co21] 24 (0, 0)) (by (with_reducible repeat (first | refine blk_drewN ?_ _ | refine blk_drew ?_ | refine blk_alloc ?_ _)); refine blk_far ?_ NB1188_1199.out _; (with_reducible repeat (first | refine blk_drewN ?_ _ | refine blk_drew ?_ | refine blk_alloc ?_ _)); refine blk_far ?_ NB1188_1199.out _; (with_reducible repeat (first | refine blk_drewN ?_ _ | refine blk_drew ?_ | refine blk_alloc ?_ _)); exact BK1188.out) hb); have n6_ := Aside0.mk (blk_below (g := gb1199) (o := .cells #[.string t1194, .slice Ao57 t1195.length co57] 24 (0, 0)) (by (with_reducible repeat (first | refine blk_drewN ?_ _ | refine blk_drew ?_ | refine blk_alloc ?_ _)); refine blk_put (cs := #[.string t1194, .slice none 0 0]) ?_ 1 _ rfl; (with_reducible repeat (first | refine blk_drewN ?_ _ | refine blk_drew ?_ | refine blk_alloc ?_ _)); refine blk_put (cs := #[.string (⟨#[]⟩ : ByteArray), .slice none 0 0]) ?_ 0 _ rfl; (with_reducible repeat (first | refine blk_drewN ?_ _ | refine blk_drew ?_ | refine blk_alloc ?_ _)); exact BK1199.out) hb); have n7_ := Aside0.mk (below_step (by repeat (first | (with_reducible first | exact HB.out | apply below_alloc | apply pw_below_drewN | apply below_drew1 | refine below_set ?_ GE1176.out | refine below_set ?_ GE1183.out | refine below_set ?_ GE1188.out | refine below_set ?_ GE1199.out) | exact HB.out)) hb); clear HO_1184001; clear HO_1189001; clear HO1197; clear BK1176; clear BK1183; clear BK1188; clear BK1199; clear HB; have HO_1184001 := n0_; have HO_1189001 := n1_; have HO1197 := n2_; have BK1176 := n3_; have BK1183 := n4_; have BK1188 := n5_; have BK1199 := n6_; have HB := n7_; clear n0_ n1_ n2_ n3_ n4_ n5_ n6_ n7_; (try clear hb); (try clear hb2); (try clear hk); (try clear hi)))
        go_meet
        case rel => exact ⟨_, (true), (by first | rfl | (simp; done) | (simp [*]; done)), H', ⟨by have := HJ5.out; have := HJ32.out; first | omega | exact Nat.le_refl _⟩, ⟨by (with_reducible repeat (first | apply Kd.R_alloc | apply Kd.R_drewN | apply Kd.R_drew)); exact HO_1184001.out⟩, ⟨by (with_reducible repeat (first | apply Kd.R_alloc | apply Kd.R_drewN | apply Kd.R_drew)); exact HO_1189001.out⟩, ⟨by (with_reducible repeat (first | apply Kd.R_alloc | apply Kd.R_drewN | apply Kd.R_drew)); exact Kd.R_mono HO1197.out (fun _ hk => ⟨hk.1.2, hk.2⟩)⟩, ⟨by (with_reducible repeat (first | refine blk_drewN ?_ _ | refine blk_drew ?_ | refine blk_alloc ?_ _)); exact BK1176.out⟩, ⟨by (with_reducible repeat (first | refine blk_drewN ?_ _ | refine blk_drew ?_ | refine blk_alloc ?_ _)); exact BK1183.out⟩, ⟨by (with_reducible repeat (first | refine blk_drewN ?_ _ | refine blk_drew ?_ | refine blk_alloc ?_ _)); exact BK1188.out⟩, ⟨by (with_reducible repeat (first | refine blk_drewN ?_ _ | refine blk_drew ?_ | refine blk_alloc ?_ _)); exact BK1199.out⟩, ⟨by repeat (first | (with_reducible first | exact HB.out | apply below_alloc | apply pw_below_drewN | apply below_drew1 | refine below_set ?_ GE1176.out | refine below_set ?_ GE1183.out | refine below_set ?_ GE1188.out | refine below_set ?_ GE1199.out) | exact HB.out)⟩⟩
       ·
        rw [if_neg c59] at H
        have c59b0 : (t1200 != x7_32) = false := by simpa using c59
        (try (have c59b1 : decide (t1200 = x7_32) = true := by simpa using c59))
        (try (have c59b2 : (t1200 == x7_32) = true := by simpa using c59))
        clear c59
        (first | rw [c59b0] | (simp only [i64_w, i32_w]; rw [c59b0]) | skip)
        by_cases c65 : (t1198 != x7_32) = true
        ·
         rw [if_pos c65] at H
         have c65b0 : (t1198 != x7_32) = true := c65
         (try (have c65b1 : decide (t1198 = x7_32) = false := by simpa using c65))
         (try (have c65b2 : (t1198 == x7_32) = false := by simpa using c65))
         (try (have c65b3 : ¬ (t1198 = x7_32) := by simpa using c65))
         clear c65
         have H' := Aside0.mk H
         clear H
         have hnb66 := NB1176_1183.out
         have hnc66 := NB1183_1176.out
         have hnb67 := NB1176_1188.out
         have hnc67 := NB1188_1176.out
         have hnb68 := NB1176_1199.out
         have hnc68 := NB1199_1176.out
         have hcz69_0 : w52.cell? ⟨gb1176, 0, none⟩ = some (.string a0_0) := (blk_cell BK1176.out 0).trans rfl
         have hcz69_1 : w52.cell? ⟨gb1176, 1, none⟩ = some (.slice A0_1 l0_1.length c0_1) := (blk_cell BK1176.out 1).trans rfl
         have hfz69_0 := blk_frozen BK1176.out 0
         have hfz69_1 := blk_frozen BK1176.out 1
         go_wp2_with (first | ((with_reducible refine gate_callee (f := 71) rfl ?_); refine goesL_ (some 53) rfl rfl Try.func71 (by kernel_rfl) rfl #[.agg #[.string a0_0, .slice A0_1 l0_1.length c0_1]] rfl (by (try simp only [List.map_toArray, List.map_cons, List.map_nil]); first | done | rfl | (simp only [List.length_drop, List.length_take]; rfl)) ?_; (with_reducible refine (scheme_Safe.calls kj32 a0_0 _ _ l0_1 t1200 _ ?side1 ?side2 A58.out).mono ?_); (case side1 => exact Kd.C_below HR0_1.out (by repeat (first | (with_reducible first | exact HB.out | apply below_alloc | apply pw_below_drewN | apply below_drew1 | refine below_set ?_ GE1176.out | refine below_set ?_ GE1183.out | refine below_set ?_ GE1188.out | refine below_set ?_ GE1199.out) | exact HB.out))); (case side2 => exact HC0_1.out); rintro e w70 ⟨rfl, hb⟩; refine ⟨_, rfl, ?_⟩; have n0_ := Aside0.mk (Kd.R_below (by (with_reducible repeat (first | apply Kd.R_alloc | apply Kd.R_drewN | apply Kd.R_drew)); exact (Kd.R_mono (Kd.R_far (p := ⟨gb1199, 1, none⟩) (Kd.R_far (p := ⟨gb1199, 0, none⟩) (Kd.R_types HO_1184001.out BK1199.out (by decide)) (fun _ hk => hk.2) (.string t1194)) (fun _ hk => hk.2) (.slice Ao57 t1195.length co57)) (fun _ h_ => h_.1))) hb); have n1_ := Aside0.mk (Kd.R_below (by (with_reducible repeat (first | apply Kd.R_alloc | apply Kd.R_drewN | apply Kd.R_drew)); exact (Kd.R_mono (Kd.R_far (p := ⟨gb1199, 1, none⟩) (Kd.R_far (p := ⟨gb1199, 0, none⟩) (Kd.R_types HO_1189001.out BK1199.out (by decide)) (fun _ hk => hk.2) (.string t1194)) (fun _ hk => hk.2) (.slice Ao57 t1195.length co57)) (fun _ h_ => h_.1))) hb); have n2_ := Aside0.mk (Kd.R_below (by (with_reducible repeat (first | apply Kd.R_alloc | apply Kd.R_drewN | apply Kd.R_drew)); exact (Kd.R_mono (Kd.R_far (p := ⟨gb1199, 1, none⟩) (Kd.R_far (p := ⟨gb1199, 0, none⟩) (Kd.R_types HO1197.out BK1199.out (by decide)) (fun _ hk => hk.2) (.string t1194)) (fun _ hk => hk.2) (.slice Ao57 t1195.length co57)) (fun _ h_ => h_.1))) hb); have n3_ := Aside0.mk (blk_below (g := gb1176) (o := .cells #[.string a0_0, .slice A0_1 l0_1.length c0_1] 24 (0, 0)) (by (with_reducible repeat (first | refine blk_drewN ?_ _ | refine blk_drew ?_ | refine blk_alloc ?_ _)); refine blk_far ?_ NB1176_1199.out _; (with_reducible repeat (first | refine blk_drewN ?_ _ | refine blk_drew ?_ | refine blk_alloc ?_ _)); refine blk_far ?_ NB1176_1199.out _; (with_reducible repeat (first | refine blk_drewN ?_ _ | refine blk_drew ?_ | refine blk_alloc ?_ _)); exact BK1176.out) hb); have n4_ := Aside0.mk (blk_below (g := gb1183) (o := .cells #[.string t1178, .slice Ao14 t1179.length co14] 24 (0, 0)) (by (with_reducible repeat (first | refine blk_drewN ?_ _ | refine blk_drew ?_ | refine blk_alloc ?_ _)); refine blk_far ?_ NB1183_1199.out _; (with_reducible repeat (first | refine blk_drewN ?_ _ | refine blk_drew ?_ | refine blk_alloc ?_ _)); refine blk_far ?_ NB1183_1199.out _; (with_reducible repeat (first | refine blk_drewN ?_ _ | refine blk_drew ?_ | refine blk_alloc ?_ _)); exact BK1183.out) hb); have n5_ := Aside0.mk (blk_below (g := gb1188) (o := .cells #[.string t1184, .slice Ao21 t1185.length co21] 24 (0, 0)) (by (with_reducible repeat (first | refine blk_drewN ?_ _ | refine blk_drew ?_ | refine blk_alloc ?_ _)); refine blk_far ?_ NB1188_1199.out _; (with_reducible repeat (first | refine blk_drewN ?_ _ | refine blk_drew ?_ | refine blk_alloc ?_ _)); refine blk_far ?_ NB1188_1199.out _; (with_reducible repeat (first | refine blk_drewN ?_ _ | refine blk_drew ?_ | refine blk_alloc ?_ _)); exact BK1188.out) hb); have n6_ := Aside0.mk (blk_below (g := gb1199) (o := .cells #[.string t1194, .slice Ao57 t1195.length co57] 24 (0, 0)) (by (with_reducible repeat (first | refine blk_drewN ?_ _ | refine blk_drew ?_ | refine blk_alloc ?_ _)); refine blk_put (cs := #[.string t1194, .slice none 0 0]) ?_ 1 _ rfl; (with_reducible repeat (first | refine blk_drewN ?_ _ | refine blk_drew ?_ | refine blk_alloc ?_ _)); refine blk_put (cs := #[.string (⟨#[]⟩ : ByteArray), .slice none 0 0]) ?_ 0 _ rfl; (with_reducible repeat (first | refine blk_drewN ?_ _ | refine blk_drew ?_ | refine blk_alloc ?_ _)); exact BK1199.out) hb); have n7_ := Aside0.mk (below_step (by repeat (first | (with_reducible first | exact HB.out | apply below_alloc | apply pw_below_drewN | apply below_drew1 | refine below_set ?_ GE1176.out | refine below_set ?_ GE1183.out | refine below_set ?_ GE1188.out | refine below_set ?_ GE1199.out) | exact HB.out)) hb); clear HO_1184001; clear HO_1189001; clear HO1197; clear BK1176; clear BK1183; clear BK1188; clear BK1199; clear HB; have HO_1184001 := n0_; have HO_1189001 := n1_; have HO1197 := n2_; have BK1176 := n3_; have BK1183 := n4_; have BK1188 := n5_; have BK1199 := n6_; have HB := n7_; clear n0_ n1_ n2_ n3_ n4_ n5_ n6_ n7_; (try clear hb); (try clear hb2); (try clear hk); (try clear hi)))
         go_meet
         case rel => exact ⟨_, (true), (by first | rfl | (simp; done) | (simp [*]; done)), H', ⟨by have := HJ5.out; have := HJ32.out; first | omega | exact Nat.le_refl _⟩, ⟨by (with_reducible repeat (first | apply Kd.R_alloc | apply Kd.R_drewN | apply Kd.R_drew)); exact HO_1184001.out⟩, ⟨by (with_reducible repeat (first | apply Kd.R_alloc | apply Kd.R_drewN | apply Kd.R_drew)); exact HO_1189001.out⟩, ⟨by (with_reducible repeat (first | apply Kd.R_alloc | apply Kd.R_drewN | apply Kd.R_drew)); exact Kd.R_mono HO1197.out (fun _ hk => ⟨hk.1.2, hk.2⟩)⟩, ⟨by (with_reducible repeat (first | refine blk_drewN ?_ _ | refine blk_drew ?_ | refine blk_alloc ?_ _)); exact BK1176.out⟩, ⟨by (with_reducible repeat (first | refine blk_drewN ?_ _ | refine blk_drew ?_ | refine blk_alloc ?_ _)); exact BK1183.out⟩, ⟨by (with_reducible repeat (first | refine blk_drewN ?_ _ | refine blk_drew ?_ | refine blk_alloc ?_ _)); exact BK1188.out⟩, ⟨by (with_reducible repeat (first | refine blk_drewN ?_ _ | refine blk_drew ?_ | refine blk_alloc ?_ _)); exact BK1199.out⟩, ⟨by repeat (first | (with_reducible first | exact HB.out | apply below_alloc | apply pw_below_drewN | apply below_drew1 | refine below_set ?_ GE1176.out | refine below_set ?_ GE1183.out | refine below_set ?_ GE1188.out | refine below_set ?_ GE1199.out) | exact HB.out)⟩⟩
        ·
         rw [if_neg c65] at H
         have c65b0 : (t1198 != x7_32) = false := by simpa using c65
         (try (have c65b1 : decide (t1198 = x7_32) = true := by simpa using c65))
         (try (have c65b2 : (t1198 == x7_32) = true := by simpa using c65))
         clear c65
         replace H := Option.bind_eq_some_iff.mp H
         obtain ⟨t1201, A710, H⟩ := H
         replace H : (glazierlaw07_SchemeTells.j2 kj32 t1198 (t1201 != x6_5) t1184 t1185 t1194 t1195) = some r := H
         have A71 := Aside0.mk A710
         clear A710
         have H' := Aside0.mk H
         clear H
         have hnb72 := NB1176_1183.out
         have hnc72 := NB1183_1176.out
         have hnb73 := NB1176_1188.out
         have hnc73 := NB1188_1176.out
         have hnb74 := NB1176_1199.out
         have hnc74 := NB1199_1176.out
         have hcz75_0 : w52.cell? ⟨gb1176, 0, none⟩ = some (.string a0_0) := (blk_cell BK1176.out 0).trans rfl
         have hcz75_1 : w52.cell? ⟨gb1176, 1, none⟩ = some (.slice A0_1 l0_1.length c0_1) := (blk_cell BK1176.out 1).trans rfl
         have hfz75_0 := blk_frozen BK1176.out 0
         have hfz75_1 := blk_frozen BK1176.out 1
         go_wp2_with (first | ((with_reducible refine gate_callee (f := 71) rfl ?_); refine goesL_ (some 53) rfl rfl Try.func71 (by kernel_rfl) rfl #[.agg #[.string a0_0, .slice A0_1 l0_1.length c0_1]] rfl (by (try simp only [List.map_toArray, List.map_cons, List.map_nil]); first | done | rfl | (simp only [List.length_drop, List.length_take]; rfl)) ?_; (with_reducible refine (scheme_Safe.calls kj32 a0_0 _ _ l0_1 t1200 _ ?side1 ?side2 A58.out).mono ?_); (case side1 => exact Kd.C_below HR0_1.out (by repeat (first | (with_reducible first | exact HB.out | apply below_alloc | apply pw_below_drewN | apply below_drew1 | refine below_set ?_ GE1176.out | refine below_set ?_ GE1183.out | refine below_set ?_ GE1188.out | refine below_set ?_ GE1199.out) | exact HB.out))); (case side2 => exact HC0_1.out); rintro e w76 ⟨rfl, hb⟩; refine ⟨_, rfl, ?_⟩; have n0_ := Aside0.mk (Kd.R_below (by (with_reducible repeat (first | apply Kd.R_alloc | apply Kd.R_drewN | apply Kd.R_drew)); exact (Kd.R_mono (Kd.R_far (p := ⟨gb1199, 1, none⟩) (Kd.R_far (p := ⟨gb1199, 0, none⟩) (Kd.R_types HO_1184001.out BK1199.out (by decide)) (fun _ hk => hk.2) (.string t1194)) (fun _ hk => hk.2) (.slice Ao57 t1195.length co57)) (fun _ h_ => h_.1))) hb); have n1_ := Aside0.mk (Kd.R_below (by (with_reducible repeat (first | apply Kd.R_alloc | apply Kd.R_drewN | apply Kd.R_drew)); exact (Kd.R_mono (Kd.R_far (p := ⟨gb1199, 1, none⟩) (Kd.R_far (p := ⟨gb1199, 0, none⟩) (Kd.R_types HO_1189001.out BK1199.out (by decide)) (fun _ hk => hk.2) (.string t1194)) (fun _ hk => hk.2) (.slice Ao57 t1195.length co57)) (fun _ h_ => h_.1))) hb); have n2_ := Aside0.mk (Kd.R_below (by (with_reducible repeat (first | apply Kd.R_alloc | apply Kd.R_drewN | apply Kd.R_drew)); exact (Kd.R_mono (Kd.R_far (p := ⟨gb1199, 1, none⟩) (Kd.R_far (p := ⟨gb1199, 0, none⟩) (Kd.R_types HO1197.out BK1199.out (by decide)) (fun _ hk => hk.2) (.string t1194)) (fun _ hk => hk.2) (.slice Ao57 t1195.length co57)) (fun _ h_ => h_.1))) hb); have n3_ := Aside0.mk (blk_below (g := gb1176) (o := .cells #[.string a0_0, .slice A0_1 l0_1.length c0_1] 24 (0, 0)) (by (with_reducible repeat (first | refine blk_drewN ?_ _ | refine blk_drew ?_ | refine blk_alloc ?_ _)); refine blk_far ?_ NB1176_1199.out _; (with_reducible repeat (first | refine blk_drewN ?_ _ | refine blk_drew ?_ | refine blk_alloc ?_ _)); refine blk_far ?_ NB1176_1199.out _; (with_reducible repeat (first | refine blk_drewN ?_ _ | refine blk_drew ?_ | refine blk_alloc ?_ _)); exact BK1176.out) hb); have n4_ := Aside0.mk (blk_below (g := gb1183) (o := .cells #[.string t1178, .slice Ao14 t1179.length co14] 24 (0, 0)) (by (with_reducible repeat (first | refine blk_drewN ?_ _ | refine blk_drew ?_ | refine blk_alloc ?_ _)); refine blk_far ?_ NB1183_1199.out _; (with_reducible repeat (first | refine blk_drewN ?_ _ | refine blk_drew ?_ | refine blk_alloc ?_ _)); refine blk_far ?_ NB1183_1199.out _; (with_reducible repeat (first | refine blk_drewN ?_ _ | refine blk_drew ?_ | refine blk_alloc ?_ _)); exact BK1183.out) hb); have n5_ := Aside0.mk (blk_below (g := gb1188) (o := .cells #[.string t1184, .slice Ao21 t1185.length co21] 24 (0, 0)) (by (with_reducible repeat (first | refine blk_drewN ?_ _ | refine blk_drew ?_ | refine blk_alloc ?_ _)); refine blk_far ?_ NB1188_1199.out _; (with_reducible repeat (first | refine blk_drewN ?_ _ | refine blk_drew ?_ | refine blk_alloc ?_ _)); refine blk_far ?_ NB1188_1199.out _; (with_reducible repeat (first | refine blk_drewN ?_ _ | refine blk_drew ?_ | refine blk_alloc ?_ _)); exact BK1188.out) hb); have n6_ := Aside0.mk (blk_below (g := gb1199) (o := .cells #[.string t1194, .slice Ao57 t1195.length co57] 24 (0, 0)) (by (with_reducible repeat (first | refine blk_drewN ?_ _ | refine blk_drew ?_ | refine blk_alloc ?_ _)); refine blk_put (cs := #[.string t1194, .slice none 0 0]) ?_ 1 _ rfl; (with_reducible repeat (first | refine blk_drewN ?_ _ | refine blk_drew ?_ | refine blk_alloc ?_ _)); refine blk_put (cs := #[.string (⟨#[]⟩ : ByteArray), .slice none 0 0]) ?_ 0 _ rfl; (with_reducible repeat (first | refine blk_drewN ?_ _ | refine blk_drew ?_ | refine blk_alloc ?_ _)); exact BK1199.out) hb); have n7_ := Aside0.mk (below_step (by repeat (first | (with_reducible first | exact HB.out | apply below_alloc | apply pw_below_drewN | apply below_drew1 | refine below_set ?_ GE1176.out | refine below_set ?_ GE1183.out | refine below_set ?_ GE1188.out | refine below_set ?_ GE1199.out) | exact HB.out)) hb); clear HO_1184001; clear HO_1189001; clear HO1197; clear BK1176; clear BK1183; clear BK1188; clear BK1199; clear HB; have HO_1184001 := n0_; have HO_1189001 := n1_; have HO1197 := n2_; have BK1176 := n3_; have BK1183 := n4_; have BK1188 := n5_; have BK1199 := n6_; have HB := n7_; clear n0_ n1_ n2_ n3_ n4_ n5_ n6_ n7_; (try clear hb); (try clear hb2); (try clear hk); (try clear hi); have hnb77 := NB1183_1188.out; have hnc77 := NB1188_1183.out; have hnb78 := NB1183_1199.out; have hnc78 := NB1199_1183.out; have hcz79_0 : w76.cell? ⟨gb1183, 0, none⟩ = some (.string t1178) := (blk_cell BK1183.out 0).trans rfl; have hcz79_1 : w76.cell? ⟨gb1183, 1, none⟩ = some (.slice Ao14 t1179.length co14) := (blk_cell BK1183.out 1).trans rfl; have hfz79_0 := blk_frozen BK1183.out 0; have hfz79_1 := blk_frozen BK1183.out 1) | (go_at_call 74; (with_reducible refine (scheme_Known.calls kj32 t1178 t1201 _ A71.out).mono ?_); rintro e w80 ⟨rfl, hb⟩; have n0_ := Aside0.mk (Kd.R_below (by (with_reducible repeat (first | apply Kd.R_alloc | apply Kd.R_drewN | apply Kd.R_drew)); exact HO_1184001.out) hb); have n1_ := Aside0.mk (Kd.R_below (by (with_reducible repeat (first | apply Kd.R_alloc | apply Kd.R_drewN | apply Kd.R_drew)); exact HO_1189001.out) hb); have n2_ := Aside0.mk (Kd.R_below (by (with_reducible repeat (first | apply Kd.R_alloc | apply Kd.R_drewN | apply Kd.R_drew)); exact HO1197.out) hb); have n3_ := Aside0.mk (blk_below (g := gb1176) (o := .cells #[.string a0_0, .slice A0_1 l0_1.length c0_1] 24 (0, 0)) (by (with_reducible repeat (first | refine blk_drewN ?_ _ | refine blk_drew ?_ | refine blk_alloc ?_ _)); exact BK1176.out) hb); have n4_ := Aside0.mk (blk_below (g := gb1183) (o := .cells #[.string t1178, .slice Ao14 t1179.length co14] 24 (0, 0)) (by (with_reducible repeat (first | refine blk_drewN ?_ _ | refine blk_drew ?_ | refine blk_alloc ?_ _)); exact BK1183.out) hb); have n5_ := Aside0.mk (blk_below (g := gb1188) (o := .cells #[.string t1184, .slice Ao21 t1185.length co21] 24 (0, 0)) (by (with_reducible repeat (first | refine blk_drewN ?_ _ | refine blk_drew ?_ | refine blk_alloc ?_ _)); exact BK1188.out) hb); have n6_ := Aside0.mk (blk_below (g := gb1199) (o := .cells #[.string t1194, .slice Ao57 t1195.length co57] 24 (0, 0)) (by (with_reducible repeat (first | refine blk_drewN ?_ _ | refine blk_drew ?_ | refine blk_alloc ?_ _)); exact BK1199.out) hb); have n7_ := Aside0.mk (below_step (by repeat (first | (with_reducible first | exact HB.out | apply below_alloc | apply pw_below_drewN | apply below_drew1 | refine below_set ?_ GE1176.out | refine below_set ?_ GE1183.out | refine below_set ?_ GE1188.out | refine below_set ?_ GE1199.out) | exact HB.out)) hb); clear HO_1184001; clear HO_1189001; clear HO1197; clear BK1176; clear BK1183; clear BK1188; clear BK1199; clear HB; have HO_1184001 := n0_; have HO_1189001 := n1_; have HO1197 := n2_; have BK1176 := n3_; have BK1183 := n4_; have BK1188 := n5_; have BK1199 := n6_; have HB := n7_; clear n0_ n1_ n2_ n3_ n4_ n5_ n6_ n7_; (try clear hb); (try clear hb2); (try clear hk); (try clear hi)))
         go_meet
         case rel => exact ⟨_, ((t1201 != x6_5)), (by first | rfl | (simp; done) | (simp [*]; done)), H', ⟨by have := HJ5.out; have := HJ32.out; first | omega | exact Nat.le_refl _⟩, ⟨by (with_reducible repeat (first | apply Kd.R_alloc | apply Kd.R_drewN | apply Kd.R_drew)); exact HO_1184001.out⟩, ⟨by (with_reducible repeat (first | apply Kd.R_alloc | apply Kd.R_drewN | apply Kd.R_drew)); exact HO_1189001.out⟩, ⟨by (with_reducible repeat (first | apply Kd.R_alloc | apply Kd.R_drewN | apply Kd.R_drew)); exact Kd.R_mono HO1197.out (fun _ hk => ⟨hk.1.2, hk.2⟩)⟩, ⟨by (with_reducible repeat (first | refine blk_drewN ?_ _ | refine blk_drew ?_ | refine blk_alloc ?_ _)); exact BK1176.out⟩, ⟨by (with_reducible repeat (first | refine blk_drewN ?_ _ | refine blk_drew ?_ | refine blk_alloc ?_ _)); exact BK1183.out⟩, ⟨by (with_reducible repeat (first | refine blk_drewN ?_ _ | refine blk_drew ?_ | refine blk_alloc ?_ _)); exact BK1188.out⟩, ⟨by (with_reducible repeat (first | refine blk_drewN ?_ _ | refine blk_drew ?_ | refine blk_alloc ?_ _)); exact BK1199.out⟩, ⟨by repeat (first | (with_reducible first | exact HB.out | apply below_alloc | apply pw_below_drewN | apply below_drew1 | refine below_set ?_ GE1176.out | refine below_set ?_ GE1183.out | refine below_set ?_ GE1188.out | refine below_set ?_ GE1199.out) | exact HB.out)⟩⟩
      case rest =>
       clear HC47
       try clear c1
       try clear c2
       try clear p2
       try clear c3
       try clear c4
       try clear c5
       try clear c6
       try clear p6
       try clear c7
       try clear c12
       try clear c16
       try clear c18
       try clear c19
       try clear c22
       try clear c22b0
       try clear c22b1
       try clear c23
       try clear c24
       try clear c26
       try clear c26b0
       try clear c26b1
       try clear c27
       try clear c28
       try clear c30
       try clear c31
       try clear c34
       try clear c35
       try clear c38
       try clear c39
       try clear c41
       try clear c48
       try clear c49
       try clear c53
       try clear c54
       try clear c55
       try clear c59
       try clear c59b0
       try clear c59b1
       try clear c59b2
       try clear c60
       try clear c61
       try clear c62
       try clear p64
       try clear c65
       try clear c65b0
       try clear c65b1
       try clear c65b2
       try clear c66
       try clear c67
       try clear c68
       try clear c70
       try clear c71
       try clear c72
       try clear c73
       try clear c74
       try clear c77
       try clear c78
       try clear hcz13_0
       try clear hcz13_1
       try clear hcz15_0
       try clear hcz15_1
       try clear hcz20_0
       try clear hcz20_1
       try clear hcz25_0
       try clear hcz25_1
       try clear hcz29_0
       try clear hcz29_1
       try clear hcz32_0
       try clear hcz32_1
       try clear hcz40_0
       try clear hcz40_1
       try clear hcz42_0
       try clear hcz42_1
       try clear hcz50_0
       try clear hcz50_1
       try clear hcz56_0
       try clear hcz56_1
       try clear hcz63_0
       try clear hcz63_1
       try clear hcz69_0
       try clear hcz69_1
       try clear hcz75_0
       try clear hcz75_1
       try clear hcz79_0
       try clear hcz79_1
       try clear hcz9_0
       try clear hcz9_1
       try clear hfz13_0
       try clear hfz13_1
       try clear hfz15_0
       try clear hfz15_1
       try clear hfz20_0
       try clear hfz20_1
       try clear hfz25_0
       try clear hfz25_1
       try clear hfz29_0
       try clear hfz29_1
       try clear hfz32_0
       try clear hfz32_1
       try clear hfz40_0
       try clear hfz40_1
       try clear hfz42_0
       try clear hfz42_1
       try clear hfz50_0
       try clear hfz50_1
       try clear hfz56_0
       try clear hfz56_1
       try clear hfz63_0
       try clear hfz63_1
       try clear hfz69_0
       try clear hfz69_1
       try clear hfz75_0
       try clear hfz75_1
       try clear hfz79_0
       try clear hfz79_1
       try clear hfz9_0
       try clear hfz9_1
       try clear p2
       try clear p6
       obtain ⟨kq, x67_46, rfl, HA, HJ46, HO_1184001, HO_1189001, HO_1200001, BK1176, BK1183, BK1188, BK1199, HB⟩ := hcut
       cases kq with
       | zero => exact absurd HA.out (by simp [glazierlaw07_SchemeTells.j2])
       | succ kj46 =>
        have H := HA.out
        clear HA
        simp only [glazierlaw07_SchemeTells.j2] at H
        by_cases c81 : x67_46 = true
        ·
         subst c81
         have H1 : (none) = some r := by rw [if_pos rfl] at H; exact H
         clear H
         have H := H1
         clear H1
         exact absurd H (by simp)
        ·
         replace c81 := Bool.eq_false_iff.mpr c81
         subst c81
         have H1 : (if t1198 = true then ((mark_Same.f kj46 t1194 t1195 t1184 t1185).bind fun t1202 => (some t1202)) else (some (t1194.toList == ([] : List UInt8)))) = some r := by rw [if_neg (show ¬ (false = true) by decide)] at H; exact H
         clear H
         have H := H1
         clear H1
         by_cases c82 : t1198 = true
         ·
          subst c82
          have H1 : ((mark_Same.f kj46 t1194 t1195 t1184 t1185).bind fun t1202 => (some t1202)) = some r := by rw [if_pos rfl] at H; exact H
          clear H
          have H := H1
          clear H1
          replace H := Option.bind_eq_some_iff.mp H
          obtain ⟨t1202, A830, H⟩ := H
          replace H : (some t1202) = some r := H
          have A83 := Aside0.mk A830
          clear A830
          obtain rfl := Option.some.inj H
          have hnb84 := NB1199_1176.out
          have hnc84 := NB1176_1199.out
          have hnb85 := NB1199_1183.out
          have hnc85 := NB1183_1199.out
          have hnb86 := NB1199_1188.out
          have hnc86 := NB1188_1199.out
          have hcz87_0 : wc.cell? ⟨gb1199, 0, none⟩ = some (.string t1194) := (blk_cell BK1199.out 0).trans rfl
          have hcz87_1 : wc.cell? ⟨gb1199, 1, none⟩ = some (.slice Ao57 t1195.length co57) := (blk_cell BK1199.out 1).trans rfl
          have hfz87_0 := blk_frozen BK1199.out 0
          have hfz87_1 := blk_frozen BK1199.out 1
          have hnb88 := NB1188_1176.out
          have hnc88 := NB1176_1188.out
          have hnb89 := NB1188_1183.out
          have hnc89 := NB1183_1188.out
          have hcz90_0 : wc.cell? ⟨gb1188, 0, none⟩ = some (.string t1184) := (blk_cell BK1188.out 0).trans rfl
          have hcz90_1 : wc.cell? ⟨gb1188, 1, none⟩ = some (.slice Ao21 t1185.length co21) := (blk_cell BK1188.out 1).trans rfl
          have hfz90_0 := blk_frozen BK1188.out 0
          have hfz90_1 := blk_frozen BK1188.out 1
          go_wp2_with (first | ((with_reducible refine gate_callee (f := 42) rfl ?_); refine goesL_ (some 75) rfl rfl Try.func42 (by kernel_rfl) rfl #[.agg #[.string t1194, .slice Ao57 t1195.length co57], .agg #[.string t1184, .slice Ao21 t1185.length co21]] rfl (by (try simp only [List.map_toArray, List.map_cons, List.map_nil]); first | done | rfl | (simp only [List.length_drop, List.length_take]; rfl)) ?_; (with_reducible refine (mark_Same.calls kj46 t1194 _ _ t1195 t1184 _ _ t1185 t1202 _ ?side1 ?side2 ?side3 ?side4 A83.out).mono ?_); (case side1 => repeat (first | exact (Kd.R_reads' HO_1200001.out).2.2 | (with_reducible refine Kd.C_alloc ?_ _) | (with_reducible refine Kd.C_drewN ?_ _) | (with_reducible refine Kd.C_drew ?_))); (case side2 => exact (Kd.R_reads' HO_1200001.out).2.1); (case side3 => repeat (first | exact (Kd.R_reads' HO_1189001.out).2.2 | (with_reducible refine Kd.C_alloc ?_ _) | (with_reducible refine Kd.C_drewN ?_ _) | (with_reducible refine Kd.C_drew ?_))); (case side4 => exact (Kd.R_reads' HO_1189001.out).2.1); rintro e w91 ⟨rfl, hb⟩; refine ⟨_, rfl, ?_⟩; have n0_ := Aside0.mk (Kd.R_below (by (with_reducible repeat (first | apply Kd.R_alloc | apply Kd.R_drewN | apply Kd.R_drew)); exact HO_1184001.out) hb); have n1_ := Aside0.mk (Kd.R_below (by (with_reducible repeat (first | apply Kd.R_alloc | apply Kd.R_drewN | apply Kd.R_drew)); exact HO_1189001.out) hb); have n2_ := Aside0.mk (Kd.R_below (by (with_reducible repeat (first | apply Kd.R_alloc | apply Kd.R_drewN | apply Kd.R_drew)); exact HO_1200001.out) hb); have n3_ := Aside0.mk (blk_below (g := gb1176) (o := .cells #[.string a0_0, .slice A0_1 l0_1.length c0_1] 24 (0, 0)) (by (with_reducible repeat (first | refine blk_drewN ?_ _ | refine blk_drew ?_ | refine blk_alloc ?_ _)); exact BK1176.out) hb); have n4_ := Aside0.mk (blk_below (g := gb1183) (o := .cells #[.string t1178, .slice Ao14 t1179.length co14] 24 (0, 0)) (by (with_reducible repeat (first | refine blk_drewN ?_ _ | refine blk_drew ?_ | refine blk_alloc ?_ _)); exact BK1183.out) hb); have n5_ := Aside0.mk (blk_below (g := gb1188) (o := .cells #[.string t1184, .slice Ao21 t1185.length co21] 24 (0, 0)) (by (with_reducible repeat (first | refine blk_drewN ?_ _ | refine blk_drew ?_ | refine blk_alloc ?_ _)); exact BK1188.out) hb); have n6_ := Aside0.mk (blk_below (g := gb1199) (o := .cells #[.string t1194, .slice Ao57 t1195.length co57] 24 (0, 0)) (by (with_reducible repeat (first | refine blk_drewN ?_ _ | refine blk_drew ?_ | refine blk_alloc ?_ _)); exact BK1199.out) hb); have n7_ := Aside0.mk (below_step (by repeat (first | (with_reducible first | exact HB.out | apply below_alloc | apply pw_below_drewN | apply below_drew1 | refine below_set ?_ GE1176.out | refine below_set ?_ GE1183.out | refine below_set ?_ GE1188.out | refine below_set ?_ GE1199.out) | exact HB.out)) hb); clear HO_1184001; clear HO_1189001; clear HO_1200001; clear BK1176; clear BK1183; clear BK1188; clear BK1199; clear HB; have HO_1184001 := n0_; have HO_1189001 := n1_; have HO_1200001 := n2_; have BK1176 := n3_; have BK1183 := n4_; have BK1188 := n5_; have BK1199 := n6_; have HB := n7_; clear n0_ n1_ n2_ n3_ n4_ n5_ n6_ n7_; (try clear hb); (try clear hb2); (try clear hk); (try clear hi)))
          go_ret
          exact ⟨by first | rfl | (simp [errW_none, errW_some] <;> rfl) | (simp [*, errW_none, errW_some] <;> rfl), by repeat (first | (with_reducible first | exact HB.out | apply below_alloc | apply pw_below_drewN | apply below_drew1 | refine below_set ?_ GE1176.out | refine below_set ?_ GE1183.out | refine below_set ?_ GE1188.out | refine below_set ?_ GE1199.out) | exact HB.out)⟩
         ·
          replace c82 := Bool.eq_false_iff.mpr c82
          subst c82
          have H1 : (some (t1194.toList == ([] : List UInt8))) = some r := by rw [if_neg (show ¬ (false = true) by decide)] at H; exact H
          clear H
          have H := H1
          clear H1
          obtain rfl := Option.some.inj H
          have hnb92 := NB1199_1176.out
          have hnc92 := NB1176_1199.out
          have hnb93 := NB1199_1183.out
          have hnc93 := NB1183_1199.out
          have hnb94 := NB1199_1188.out
          have hnc94 := NB1188_1199.out
          have hcz95_0 : wc.cell? ⟨gb1199, 0, none⟩ = some (.string t1194) := (blk_cell BK1199.out 0).trans rfl
          have hcz95_1 : wc.cell? ⟨gb1199, 1, none⟩ = some (.slice Ao57 t1195.length co57) := (blk_cell BK1199.out 1).trans rfl
          have hfz95_0 := blk_frozen BK1199.out 0
          have hfz95_1 := blk_frozen BK1199.out 1
          go_wp2
          go_ret
          exact ⟨by first | rfl | (simp [errW_none, errW_some] <;> rfl) | (simp [*, errW_none, errW_some] <;> rfl), by repeat (first | (with_reducible first | exact HB.out | apply below_alloc | apply pw_below_drewN | apply below_drew1 | refine below_set ?_ GE1176.out | refine below_set ?_ GE1183.out | refine below_set ?_ GE1188.out | refine below_set ?_ GE1199.out) | exact HB.out)⟩
 ·
  replace c3 := Bool.eq_false_iff.mpr c3
  subst c3
  have H1 : (none) = some r := by rw [if_neg (show ¬ (false = true) by decide)] at H; exact H
  clear H
  have H := H1
  clear H1
  exact absurd H (by simp)

end Go.Proofs.Ytljmmhihdcnbaaa.G
