-- Written for this claim by hybrid.py's copy of the print program (a program of this session); not trusted: Lean checks it.
import Derived.Test.YtljmmhihdcnbaaaDoorG0
import Derived.Test.YtljmmhihdcnbaaaDoorVMore1
import Derived.Test.YtljmmhihdcnbaaaDoorG23
import Derived.Test.YtljmmhihdcnbaaaDoorG25
import Derived.Test.YtljmmhihdcnbaaaDoorG26
import Derived.Test.YtljmmhihdcnbaaaDoorG27
import Derived.Test.YtljmmhihdcnbaaaDoorG46
import Derived.Test.YtljmmhihdcnbaaaDoorG51
import Derived.Test.YtljmmhihdcnbaaaDoorG52
import Derived.Test.YtljmmhihdcnbaaaDoorG53
namespace Go.Proofs.YtljmmhihdcnbaaaDoor.G
open Go.RowKit Go.Proofs.YtljmmhihdcnbaaaDoorW.PrintWords Go.Proofs.YtljmmhihdcnbaaaDoorW.PrintLast Go.Proofs.YtljmmhihdcnbaaaDoorW.PrintMore
attribute [local go_sem] max2_int min2_int max_two min_two max_three min_three max_four min_four   -- for this text's walks alone
set_option linter.unusedVariables false
set_option linter.unusedSimpArgs false

/-! ### style_Clean: function 8 -/
mutual
def style_Clean.l0 : Nat → List (S32) → List (S32) → Int → Int → Option (ByteArray × (List (S56)))
 | 0, _, _, _, _ => none
 | k + 1, x3, x10, x11, x12 => if x12 < x11 then (if 0 ≤ x12 then (if x12 < (x10.length : Int) then ((style_Known.f ((rd_T32 x10 x12).f0.f0)).bind fun t272 => (if t272 = true then ((mark_Pure.f k ((rd_T32 x10 x12).f0.f0) ((rd_T32 x10 x12).f0.f1)).bind fun t273 => (if t273 = true then ((style_Plain.f ((rd_T32 x10 x12).f1.f0)).bind fun t274 => (if t274 = true then ((attrs_Drop.f k x3 ((rd_T32 x10 x12).f0.f0)).bind fun t275 => ((some (([(⟨(⟨(rd_T32 x10 x12).f0.f0, (rd_T32 x10 x12).f0.f1⟩ : S24), (⟨(rd_T32 x10 x12).f1.f0, (rd_T32 x10 x12).f1.f1⟩ : S24)⟩ : S32)] : List (S32)) : List (S32))).bind fun y278 => (if t275.length + y278.length < 1759218604441 then (style_Clean.l0 k (t275 ++ y278) x10 x11 (wrap64 (x12 + 1))) else (none)))) else (style_Clean.l0 k x3 x10 x11 (wrap64 (x12 + 1))))) else (style_Clean.l0 k x3 x10 x11 (wrap64 (x12 + 1))))) else (style_Clean.l0 k x3 x10 x11 (wrap64 (x12 + 1))))) else (none)) else (none)) else (style_Clean.l1 k ([] : List (S24)) x3 (x3.length : Int) 0)
def style_Clean.l1 : Nat → List (S24) → List (S32) → Int → Int → Option (ByteArray × (List (S56)))
 | 0, _, _, _, _ => none
 | k + 1, x6, x40, x41, x42 => if x42 < x41 then (if 0 ≤ x42 then (if x42 < (x40.length : Int) then ((mark_Of.f (⟨#[58]⟩ : ByteArray) 0).bind fun bt286 => ((mark_Cat.f k (([(⟨(rd_T32 x40 x42).f0.f0, (rd_T32 x40 x42).f0.f1⟩ : S24), (⟨bt286.1, bt286.2⟩ : S24), (⟨(rd_T32 x40 x42).f1.f0, (rd_T32 x40 x42).f1.f1⟩ : S24)] : List (S24)))).bind fun bt293 => ((some (([(⟨bt293.1, bt293.2⟩ : S24)] : List (S24)) : List (S24))).bind fun y297 => (if x6.length + y297.length < 3518437208883 then (style_Clean.l1 k (x6 ++ y297) x40 x41 (wrap64 (x42 + 1))) else (none))))) else (none)) else (none)) else ((mark_Of.f (⟨#[59]⟩ : ByteArray) 0).bind fun bt303 => ((seek_Join.f k x6 bt303.1 bt303.2).bind fun bt307 => (some (bt307.1, bt307.2))))
end
def style_Clean.f (k : Nat) (a0_0 : ByteArray) (l0_1 : List (S56)) : Option (ByteArray × (List (S56))) := (style_Parse.f k a0_0 l0_1).bind fun t267 => (style_Clean.l0 k ([] : List (S32)) t267 (t267.length : Int) 0)
theorem style_Clean.mono_l : ∀ k, (∀ y0 y1 y2 y3, LeO (style_Clean.l0 k y0 y1 y2 y3) (style_Clean.l0 (k + 1) y0 y1 y2 y3)) ∧ (∀ y0 y1 y2 y3, LeO (style_Clean.l1 k y0 y1 y2 y3) (style_Clean.l1 (k + 1) y0 y1 y2 y3))
 | 0 => ⟨fun _ _ _ _ r h => by simp [style_Clean.l0] at h, fun _ _ _ _ r h => by simp [style_Clean.l1] at h⟩
 | k + 1 => by
  obtain ⟨ih0, ih1⟩ := style_Clean.mono_l k
  refine ⟨?_, ?_⟩
  ·
   intro y0 y1 y2 y3
   unfold style_Clean.l0
   repeat' first
   | (with_reducible exact ih0 _ _ _ _)
   | (with_reducible exact ih1 _ _ _ _)
   | (with_reducible exact attrs_Drop.mono _ _ _)
   | (with_reducible exact mark_Cat.mono _ _)
   | (with_reducible exact mark_Pure.mono _ _ _)
   | (with_reducible exact seek_Join.mono _ _ _ _)
   | (with_reducible exact style_Parse.mono _ _ _)
   | (with_reducible exact LeO.refl _)
   | (with_reducible exact LeO.none _)
   | (with_reducible refine LeO.ite ?_ ?_)
   | (with_reducible refine LeO.bind ?_ (fun _ => ?_))
   | exact ih0 _ _ _ _
   | exact ih1 _ _ _ _
   | exact attrs_Drop.mono _ _ _
   | exact mark_Cat.mono _ _
   | exact mark_Pure.mono _ _ _
   | exact seek_Join.mono _ _ _ _
   | exact style_Parse.mono _ _ _
   | exact LeO.none _
   | refine LeO.ite ?_ ?_
   | refine LeO.bind ?_ (fun _ => ?_)
  ·
   intro y0 y1 y2 y3
   unfold style_Clean.l1
   repeat' first
   | (with_reducible exact ih0 _ _ _ _)
   | (with_reducible exact ih1 _ _ _ _)
   | (with_reducible exact attrs_Drop.mono _ _ _)
   | (with_reducible exact mark_Cat.mono _ _)
   | (with_reducible exact mark_Pure.mono _ _ _)
   | (with_reducible exact seek_Join.mono _ _ _ _)
   | (with_reducible exact style_Parse.mono _ _ _)
   | (with_reducible exact LeO.refl _)
   | (with_reducible exact LeO.none _)
   | (with_reducible refine LeO.ite ?_ ?_)
   | (with_reducible refine LeO.bind ?_ (fun _ => ?_))
   | exact ih0 _ _ _ _
   | exact ih1 _ _ _ _
   | exact attrs_Drop.mono _ _ _
   | exact mark_Cat.mono _ _
   | exact mark_Pure.mono _ _ _
   | exact seek_Join.mono _ _ _ _
   | exact style_Parse.mono _ _ _
   | exact LeO.none _
   | refine LeO.ite ?_ ?_
   | refine LeO.bind ?_ (fun _ => ?_)
theorem style_Clean.mono : ∀ a0 a1 k, LeO (style_Clean.f k a0 a1) (style_Clean.f (k + 1) a0 a1) := by
 intro a0 a1 k
 obtain ⟨ih0, ih1⟩ := style_Clean.mono_l k
 unfold style_Clean.f
 repeat' first
   | (with_reducible exact ih0 _ _ _ _)
   | (with_reducible exact ih1 _ _ _ _)
   | (with_reducible exact attrs_Drop.mono _ _ _)
   | (with_reducible exact mark_Cat.mono _ _)
   | (with_reducible exact mark_Pure.mono _ _ _)
   | (with_reducible exact seek_Join.mono _ _ _ _)
   | (with_reducible exact style_Parse.mono _ _ _)
   | (with_reducible exact LeO.refl _)
   | (with_reducible exact LeO.none _)
   | (with_reducible refine LeO.ite ?_ ?_)
   | (with_reducible refine LeO.bind ?_ (fun _ => ?_))
   | exact ih0 _ _ _ _
   | exact ih1 _ _ _ _
   | exact attrs_Drop.mono _ _ _
   | exact mark_Cat.mono _ _
   | exact mark_Pure.mono _ _ _
   | exact seek_Join.mono _ _ _ _
   | exact style_Parse.mono _ _ _
   | exact LeO.none _
   | refine LeO.ite ?_ ?_
   | refine LeO.bind ?_ (fun _ => ?_)
def style_Clean.T6 : Bool × List (List Nat × List Nat) := (true, [([], []), ([], []), ([1], [1]), ([2], [2]), ([0, 3], [0, 3]), ([], []), ([5], [5]), ([4, 6, 4], [4, 6]), ([7, 7, 0, 1, 2, 3, 4, 5, 6, 7], [0, 7])])
def style_Clean.B6 : List Nat := [0, 0, 2, 6, 15, 0, 32, 127, 255]
theorem style_Clean.tab6 : rtab .any (opsOf Tryd.f8 6) = style_Clean.T6 := by kernel_rfl
theorem style_Clean.bits6 : waitsOk style_Clean.T6.2 style_Clean.B6 = true := by kernel_rfl
def style_Clean.T12 : Bool × List (List Nat × List Nat) := (true, [([], []), ([], []), ([1], [1]), ([], []), ([], []), ([4], [4]), ([2, 3, 5], [2, 3, 5]), ([6, 3], [6]), ([7], [7]), ([0, 8, 7], [0, 8]), ([9, 9, 0, 1, 2, 3, 4, 5, 6, 7, 8, 9], [0, 9])])
def style_Clean.B12 : List Nat := [0, 0, 2, 0, 0, 16, 62, 126, 254, 511, 1023]
theorem style_Clean.tab12 : rtab .any (opsOf Tryd.f8 12) = style_Clean.T12 := by kernel_rfl
theorem style_Clean.bits12 : waitsOk style_Clean.T12.2 style_Clean.B12 = true := by kernel_rfl
set_option maxHeartbeats 8000000 in
set_option maxRecDepth 100000 in
theorem style_Clean.calls (k : Nat) (a0_0 : ByteArray) (A0_1 : Option Addr) (c0_1 : Nat) (l0_1 : List (S56)) (r1 : ByteArray) (r2 : List (S56)) (w : World) (hr0_1 : Kd.C k56 w A0_1 l0_1.length l0_1) (hc0_1 : l0_1.length ≤ c0_1) (h : style_Clean.f k a0_0 l0_1 = some (r1, r2)) :
  Calls Tryd.prog 8 #[.agg #[.string a0_0, .slice A0_1 l0_1.length c0_1]] w fun e w' => ∃ v1_ : Value, e = .returned (.agg #[.string r1, v1_]) ∧ Kd.R k56 56 w' w.heap.size (fun _ => True) v1_ r2 ∧ Below w.heap.size w w' := by
 have hu24 := Tryd.underlying24
 have hu32 := Tryd.underlying32
 have HR0_1 := Aside0.mk hr0_1
 have HC0_1 := Aside0.mk hc0_1
 clear hr0_1 hc0_1
 have HB := Aside0.mk (Below.refl w.heap.size w)
 have H : ((style_Parse.f k a0_0 l0_1).bind fun t267 => (style_Clean.l0 k ([] : List (S32)) t267 (t267.length : Int) 0)) = some (r1, r2) := h
 clear h
 replace H := Option.bind_eq_some_iff.mp H
 obtain ⟨t267, A20, H⟩ := H
 replace H : (style_Clean.l0 k ([] : List (S32)) t267 (t267.length : Int) 0) = some (r1, r2) := H
 have A2 := Aside0.mk A20
 clear A20
 have H' := Aside0.mk H
 clear H
 go_enter Tryd.func8, Tryd.ntmps8
 go_wp2_with (first | ((with_reducible refine gate_dst (N := 1) rfl ?_); refine box_event ?hg (N := 1) ?hd (cs := #[.string a0_0, .slice A0_1 l0_1.length c0_1]) (t := 24) ?hr ?_; (case hd => rfl); (case hg => rfl); (case hr => first | (go_simp; done) | (go_simp; rfl)); intro gb265 hg w3 hbox hb; have n0_ := Aside0.mk (below_step (by repeat (first | (with_reducible first | exact HB.out | apply below_alloc | apply pw_below_drewN | apply below_drew1) | exact HB.out)) hb); have n1_ := Aside0.mk (hbox); have n2_ := Aside0.mk ((by rw [hg]; exact (below_size (by repeat (first | (with_reducible first | exact HB.out | apply below_alloc | apply pw_below_drewN | apply below_drew1) | exact HB.out))) : w.heap.size ≤ gb265)); have n3_ := Aside0.mk ((by rw [hg]; exact (below_size (by repeat (first | (with_reducible first | exact HB.out | apply below_alloc | apply pw_below_drewN | apply below_drew1) | exact HB.out))) : w.heap.size ≤ gb265)); clear HB; have HB := n0_; have BK265 := n1_; have GW265 := n2_; have GE265 := n3_; clear n0_ n1_ n2_ n3_; clear hb hbox hg) | ((with_reducible refine gate_dst (N := 2) rfl ?_); refine box_event ?hg (N := 2) ?hd (cs := #[.string (⟨#[]⟩ : ByteArray), .slice none 0 0]) (t := 24) ?hr ?_; (case hd => rfl); (case hg => rfl); (case hr => first | (go_simp; done) | (go_simp; rfl)); intro gb266 hg w4 hbox hb; have n0_ := Aside0.mk (blk_below (g := gb265) (o := .cells #[.string a0_0, .slice A0_1 l0_1.length c0_1] 24 (0, 0)) (by (with_reducible repeat (first | refine blk_drewN ?_ _ | refine blk_drew ?_ | refine blk_alloc ?_ _)); exact BK265.out) hb); have n1_ := Aside0.mk (below_step (by repeat (first | (with_reducible first | exact HB.out | apply below_alloc | apply pw_below_drewN | apply below_drew1 | refine below_set ?_ GE265.out) | exact HB.out)) hb); have n2_ := Aside0.mk (hbox); have n3_ := Aside0.mk ((by rw [hg]; exact (below_size (by repeat (first | (with_reducible first | exact HB.out | apply below_alloc | apply pw_below_drewN | apply below_drew1 | refine below_set ?_ GE265.out) | exact HB.out))) : w.heap.size ≤ gb266)); have n4_ := Aside0.mk ((by rw [hg]; exact (below_size (by repeat (first | (with_reducible first | exact HB.out | apply below_alloc | apply pw_below_drewN | apply below_drew1 | refine below_set ?_ GE265.out) | exact HB.out))) : w.heap.size ≤ gb266)); have n5_ := Aside0.mk ((by rw [hg]; exact Nat.ne_of_lt (blk_lt (g := gb265) (o := .cells #[.string a0_0, .slice A0_1 l0_1.length c0_1] 24 (0, 0)) (by (with_reducible repeat (first | refine blk_drewN ?_ _ | refine blk_drew ?_ | refine blk_alloc ?_ _)); exact BK265.out)) : gb265 ≠ gb266)); have n6_ := Aside0.mk ((by rw [hg]; exact Nat.ne_of_gt (blk_lt (g := gb265) (o := .cells #[.string a0_0, .slice A0_1 l0_1.length c0_1] 24 (0, 0)) (by (with_reducible repeat (first | refine blk_drewN ?_ _ | refine blk_drew ?_ | refine blk_alloc ?_ _)); exact BK265.out)) : gb266 ≠ gb265)); clear BK265; clear HB; have BK265 := n0_; have HB := n1_; have BK266 := n2_; have GW266 := n3_; have GE266 := n4_; have NB265_266 := n5_; have NB266_265 := n6_; clear n0_ n1_ n2_ n3_ n4_ n5_ n6_; clear hb hbox hg; have hnb5 := NB265_266.out; have hnc5 := NB266_265.out; have hcz6_0 : w4.cell? ⟨gb265, 0, none⟩ = some (.string a0_0) := (blk_cell BK265.out 0).trans rfl; have hcz6_1 : w4.cell? ⟨gb265, 1, none⟩ = some (.slice A0_1 l0_1.length c0_1) := (blk_cell BK265.out 1).trans rfl; have hfz6_0 := blk_frozen BK265.out 0; have hfz6_1 := blk_frozen BK265.out 1) | ((with_reducible refine gate_callee (f := 10) rfl ?_); refine goesL_ (some 10) rfl rfl Tryd.func10 (by kernel_rfl) rfl #[.agg #[.string a0_0, .slice A0_1 l0_1.length c0_1]] rfl (by (try simp only [List.map_toArray, List.map_cons, List.map_nil]); first | done | rfl | (simp only [List.length_drop, List.length_take]; rfl)) ?_; (with_reducible refine (style_Parse.calls k a0_0 _ _ l0_1 t267 _ ?side1 ?side2 A2.out).mono ?_); (case side1 => repeat (first | exact (Kd.C_below HR0_1.out HB.out) | (with_reducible refine Kd.C_alloc ?_ _) | (with_reducible refine Kd.C_drewN ?_ _) | (with_reducible refine Kd.C_drew ?_))); (case side2 => exact HC0_1.out); rintro e w7 ⟨v268, rfl, ho0, hb⟩; refine ⟨_, rfl, ?_⟩; have n0_ := Aside0.mk (Kd.N_lower (Kd.N_mono (ok' := fun k_ => k_ ≠ gb265 ∧ k_ ≠ gb266) (Kd.S_N (Kd.S_bound ho0)) (fun k_ hk_ => ⟨(Kd.freshB (g := gb265) (o := .cells #[.string a0_0, .slice A0_1 l0_1.length c0_1] 24 (0, 0)) (by (with_reducible repeat (first | refine blk_drewN ?_ _ | refine blk_drew ?_ | refine blk_alloc ?_ _)); exact BK265.out) k_ hk_.2.1), (Kd.freshB (g := gb266) (o := .cells #[.string (⟨#[]⟩ : ByteArray), .slice none 0 0] 24 (0, 0)) (by (with_reducible repeat (first | refine blk_drewN ?_ _ | refine blk_drew ?_ | refine blk_alloc ?_ _)); exact BK266.out) k_ hk_.2.1)⟩)) (below_size (by repeat (first | (with_reducible first | exact HB.out | apply below_alloc | apply pw_below_drewN | apply below_drew1 | refine below_set ?_ GE265.out | refine below_set ?_ GE266.out) | exact HB.out)))); have n1_ := Aside0.mk (blk_below (g := gb265) (o := .cells #[.string a0_0, .slice A0_1 l0_1.length c0_1] 24 (0, 0)) (by (with_reducible repeat (first | refine blk_drewN ?_ _ | refine blk_drew ?_ | refine blk_alloc ?_ _)); exact BK265.out) hb); have n2_ := Aside0.mk (blk_below (g := gb266) (o := .cells #[.string (⟨#[]⟩ : ByteArray), .slice none 0 0] 24 (0, 0)) (by (with_reducible repeat (first | refine blk_drewN ?_ _ | refine blk_drew ?_ | refine blk_alloc ?_ _)); exact BK266.out) hb); have n3_ := Aside0.mk (below_step (by repeat (first | (with_reducible first | exact HB.out | apply below_alloc | apply pw_below_drewN | apply below_drew1 | refine below_set ?_ GE265.out | refine below_set ?_ GE266.out) | exact HB.out)) hb); clear BK265; clear BK266; clear HB; have HO269 := n0_; have BK265 := n1_; have BK266 := n2_; have HB := n3_; clear n0_ n1_ n2_ n3_; (try clear hb); (try clear hb2); (try clear hk); (try clear hi); (try clear ho0); obtain ⟨Ao8, co8, eo8⟩ := Kd.N_slice HO269.out; subst eo8))
 go_loopg [3, 12] k (fun kq v3 v12 w' => ∃ (x3_1 : List (S32)) (x12_1 : Int), v12 = .int .i64 x12_1 ∧ Aside0 (style_Clean.l0 kq x3_1 t267 (t267.length : Int) x12_1 = some (r1, r2)) ∧ Aside0 (kq ≤ k) ∧ Aside0 (Kd.N k32 32 w' w.heap.size (fun k_ => some k_ ≠ ((.slice Ao8 t267.length co8) : Value).ownBlock ∧ k_ ≠ gb265 ∧ k_ ≠ gb266) v3 x3_1) ∧ Aside0 (Kd.N k32 32 w' w.heap.size (fun k_ => some k_ ≠ (v3 : Value).ownBlock ∧ k_ ≠ gb265 ∧ k_ ≠ gb266) (.slice Ao8 t267.length co8) t267) ∧ Aside0 (w'.heap[gb265]? = some (.cells #[.string a0_0, (.slice A0_1 l0_1.length c0_1)] 24 (0, 0))) ∧ Aside0 (w'.heap[gb266]? = some (.cells #[.string (⟨#[]⟩ : ByteArray), (.slice none 0 0)] 24 (0, 0))) ∧ Aside0 (Below w.heap.size w w'))
 case atStart => exact ⟨(([] : List (S32))), (0), (by first | rfl | (simp; done) | (simp [*]; done)), H', ⟨Nat.le_refl _⟩, ⟨by first | exact Kd.S_nil _ _ _ _ _ | exact Kd.N_nil _ _ _ _ _ | exact Kd.V_nil _ _ _ _ _ | exact Kd.Q_nil _ _ _ _ _ | exact Kd.R_nil _ _ _ _ _⟩, ⟨by (with_reducible repeat (first | apply Kd.N_alloc | apply Kd.N_drewN | apply Kd.N_drew)); exact Kd.N_mono HO269.out (fun _ hk => ⟨(by simp [Value.ownBlock]), ⟨hk.1, hk.2⟩⟩)⟩, ⟨by (with_reducible repeat (first | refine blk_drewN ?_ _ | refine blk_drew ?_ | refine blk_alloc ?_ _)); exact BK265.out⟩, ⟨by (with_reducible repeat (first | refine blk_drewN ?_ _ | refine blk_drew ?_ | refine blk_alloc ?_ _)); exact BK266.out⟩, ⟨by repeat (first | (with_reducible first | exact HB.out | apply below_alloc | apply pw_below_drewN | apply below_drew1 | refine below_set ?_ GE265.out | refine below_set ?_ GE266.out) | exact HB.out)⟩⟩
 case round =>
  clear H'
  try clear c1
  try clear p2
  try clear c5
  try clear c8
  try clear hcz6_0
  try clear hcz6_1
  try clear hfz6_0
  try clear hfz6_1
  obtain ⟨x3_1, x12_1, rfl, HA, HK1, HO_3, HO_10, BK265, BK266, HB⟩ := hrel
  cases gk with
  | zero => exact absurd HA.out (by simp [style_Clean.l0])
  | succ k1 =>
   have H := HA.out
   clear HA
   simp only [style_Clean.l0] at H
   by_cases c9 : x12_1 < (t267.length : Int)
   ·
    rw [if_pos c9] at H
    have c9b0 : decide (x12_1 < (t267.length : Int)) = true := decide_eq_true c9
    clear c9
    by_cases c10 : 0 ≤ x12_1
    ·
     rw [if_pos c10] at H
     have c10b0 : decide (0 ≤ x12_1) = true := decide_eq_true c10
     clear c10
     by_cases c11 : x12_1 < (t267.length : Int)
     ·
      rw [if_pos c11] at H
      have c11b0 : decide (x12_1 < (t267.length : Int)) = true := decide_eq_true c11
      clear c11
      replace H := Option.bind_eq_some_iff.mp H
      obtain ⟨t272, A120, H⟩ := H
      replace H : (if t272 = true then ((mark_Pure.f k1 ((rd_T32 t267 x12_1).f0.f0) ((rd_T32 t267 x12_1).f0.f1)).bind fun t273 => (if t273 = true then ((style_Plain.f ((rd_T32 t267 x12_1).f1.f0)).bind fun t274 => (if t274 = true then ((attrs_Drop.f k1 x3_1 ((rd_T32 t267 x12_1).f0.f0)).bind fun t275 => ((some (([(⟨(⟨(rd_T32 t267 x12_1).f0.f0, (rd_T32 t267 x12_1).f0.f1⟩ : S24), (⟨(rd_T32 t267 x12_1).f1.f0, (rd_T32 t267 x12_1).f1.f1⟩ : S24)⟩ : S32)] : List (S32)) : List (S32))).bind fun y278 => (if t275.length + y278.length < 1759218604441 then (style_Clean.l0 k1 (t275 ++ y278) t267 (t267.length : Int) (wrap64 (x12_1 + 1))) else (none)))) else (style_Clean.l0 k1 x3_1 t267 (t267.length : Int) (wrap64 (x12_1 + 1))))) else (style_Clean.l0 k1 x3_1 t267 (t267.length : Int) (wrap64 (x12_1 + 1))))) else (style_Clean.l0 k1 x3_1 t267 (t267.length : Int) (wrap64 (x12_1 + 1)))) = some (r1, r2) := H
      have A12 := Aside0.mk A120
      clear A120
      by_cases c13 : t272 = true
      ·
       subst c13
       have H1 : ((mark_Pure.f k1 ((rd_T32 t267 x12_1).f0.f0) ((rd_T32 t267 x12_1).f0.f1)).bind fun t273 => (if t273 = true then ((style_Plain.f ((rd_T32 t267 x12_1).f1.f0)).bind fun t274 => (if t274 = true then ((attrs_Drop.f k1 x3_1 ((rd_T32 t267 x12_1).f0.f0)).bind fun t275 => ((some (([(⟨(⟨(rd_T32 t267 x12_1).f0.f0, (rd_T32 t267 x12_1).f0.f1⟩ : S24), (⟨(rd_T32 t267 x12_1).f1.f0, (rd_T32 t267 x12_1).f1.f1⟩ : S24)⟩ : S32)] : List (S32)) : List (S32))).bind fun y278 => (if t275.length + y278.length < 1759218604441 then (style_Clean.l0 k1 (t275 ++ y278) t267 (t267.length : Int) (wrap64 (x12_1 + 1))) else (none)))) else (style_Clean.l0 k1 x3_1 t267 (t267.length : Int) (wrap64 (x12_1 + 1))))) else (style_Clean.l0 k1 x3_1 t267 (t267.length : Int) (wrap64 (x12_1 + 1))))) = some (r1, r2) := by rw [if_pos rfl] at H; exact H
       clear H
       have H := H1
       clear H1
       replace H := Option.bind_eq_some_iff.mp H
       obtain ⟨t273, A140, H⟩ := H
       replace H : (if t273 = true then ((style_Plain.f ((rd_T32 t267 x12_1).f1.f0)).bind fun t274 => (if t274 = true then ((attrs_Drop.f k1 x3_1 ((rd_T32 t267 x12_1).f0.f0)).bind fun t275 => ((some (([(⟨(⟨(rd_T32 t267 x12_1).f0.f0, (rd_T32 t267 x12_1).f0.f1⟩ : S24), (⟨(rd_T32 t267 x12_1).f1.f0, (rd_T32 t267 x12_1).f1.f1⟩ : S24)⟩ : S32)] : List (S32)) : List (S32))).bind fun y278 => (if t275.length + y278.length < 1759218604441 then (style_Clean.l0 k1 (t275 ++ y278) t267 (t267.length : Int) (wrap64 (x12_1 + 1))) else (none)))) else (style_Clean.l0 k1 x3_1 t267 (t267.length : Int) (wrap64 (x12_1 + 1))))) else (style_Clean.l0 k1 x3_1 t267 (t267.length : Int) (wrap64 (x12_1 + 1)))) = some (r1, r2) := H
       have A14 := Aside0.mk A140
       clear A140
       by_cases c15 : t273 = true
       ·
        subst c15
        have H1 : ((style_Plain.f ((rd_T32 t267 x12_1).f1.f0)).bind fun t274 => (if t274 = true then ((attrs_Drop.f k1 x3_1 ((rd_T32 t267 x12_1).f0.f0)).bind fun t275 => ((some (([(⟨(⟨(rd_T32 t267 x12_1).f0.f0, (rd_T32 t267 x12_1).f0.f1⟩ : S24), (⟨(rd_T32 t267 x12_1).f1.f0, (rd_T32 t267 x12_1).f1.f1⟩ : S24)⟩ : S32)] : List (S32)) : List (S32))).bind fun y278 => (if t275.length + y278.length < 1759218604441 then (style_Clean.l0 k1 (t275 ++ y278) t267 (t267.length : Int) (wrap64 (x12_1 + 1))) else (none)))) else (style_Clean.l0 k1 x3_1 t267 (t267.length : Int) (wrap64 (x12_1 + 1))))) = some (r1, r2) := by rw [if_pos rfl] at H; exact H
        clear H
        have H := H1
        clear H1
        replace H := Option.bind_eq_some_iff.mp H
        obtain ⟨t274, A160, H⟩ := H
        replace H : (if t274 = true then ((attrs_Drop.f k1 x3_1 ((rd_T32 t267 x12_1).f0.f0)).bind fun t275 => ((some (([(⟨(⟨(rd_T32 t267 x12_1).f0.f0, (rd_T32 t267 x12_1).f0.f1⟩ : S24), (⟨(rd_T32 t267 x12_1).f1.f0, (rd_T32 t267 x12_1).f1.f1⟩ : S24)⟩ : S32)] : List (S32)) : List (S32))).bind fun y278 => (if t275.length + y278.length < 1759218604441 then (style_Clean.l0 k1 (t275 ++ y278) t267 (t267.length : Int) (wrap64 (x12_1 + 1))) else (none)))) else (style_Clean.l0 k1 x3_1 t267 (t267.length : Int) (wrap64 (x12_1 + 1)))) = some (r1, r2) := H
        have A16 := Aside0.mk A160
        clear A160
        by_cases c17 : t274 = true
        ·
         subst c17
         have H1 : ((attrs_Drop.f k1 x3_1 ((rd_T32 t267 x12_1).f0.f0)).bind fun t275 => ((some (([(⟨(⟨(rd_T32 t267 x12_1).f0.f0, (rd_T32 t267 x12_1).f0.f1⟩ : S24), (⟨(rd_T32 t267 x12_1).f1.f0, (rd_T32 t267 x12_1).f1.f1⟩ : S24)⟩ : S32)] : List (S32)) : List (S32))).bind fun y278 => (if t275.length + y278.length < 1759218604441 then (style_Clean.l0 k1 (t275 ++ y278) t267 (t267.length : Int) (wrap64 (x12_1 + 1))) else (none)))) = some (r1, r2) := by rw [if_pos rfl] at H; exact H
         clear H
         have H := H1
         clear H1
         replace H := Option.bind_eq_some_iff.mp H
         obtain ⟨t275, A180, H⟩ := H
         replace H : ((some (([(⟨(⟨(rd_T32 t267 x12_1).f0.f0, (rd_T32 t267 x12_1).f0.f1⟩ : S24), (⟨(rd_T32 t267 x12_1).f1.f0, (rd_T32 t267 x12_1).f1.f1⟩ : S24)⟩ : S32)] : List (S32)) : List (S32))).bind fun y278 => (if t275.length + y278.length < 1759218604441 then (style_Clean.l0 k1 (t275 ++ y278) t267 (t267.length : Int) (wrap64 (x12_1 + 1))) else (none))) = some (r1, r2) := H
         have A18 := Aside0.mk A180
         clear A180
         obtain ⟨y278, hy278⟩ : ∃ y_ : List (S32), y_ = (([(⟨(⟨(rd_T32 t267 x12_1).f0.f0, (rd_T32 t267 x12_1).f0.f1⟩ : S24), (⟨(rd_T32 t267 x12_1).f1.f0, (rd_T32 t267 x12_1).f1.f1⟩ : S24)⟩ : S32)] : List (S32))) := ⟨_, rfl⟩
         replace H : (if t275.length + y278.length < 1759218604441 then (style_Clean.l0 k1 (t275 ++ y278) t267 (t267.length : Int) (wrap64 (x12_1 + 1))) else (none)) = some (r1, r2) := by first | (rw [hy278]; with_reducible exact H) | (have H2_ := (Option.bind_some _ _).symm.trans H; rw [hy278]; with_reducible exact H2_) | (have H2_ := (Option.bind_some _ _).symm.trans H; with_reducible exact H2_) | with_reducible exact H | (rw [hy278]; exact H) | exact H
         have Ny278 := Aside0.mk hy278
         clear hy278
         by_cases c19 : t275.length + y278.length < 1759218604441
         ·
          rw [if_pos c19] at H
          have LMc19 := Aside0.mk c19
          clear c19
          obtain ⟨y281, hy281⟩ : ∃ y_ : List (S32), y_ = (t275 ++ y278) := ⟨_, rfl⟩
          replace H : (style_Clean.l0 k1 y281 t267 (t267.length : Int) (wrap64 (x12_1 + 1))) = some (r1, r2) := by first | (rw [hy281]; with_reducible exact H) | (have H2_ := (Option.bind_some _ _).symm.trans H; rw [hy281]; with_reducible exact H2_) | (have H2_ := (Option.bind_some _ _).symm.trans H; with_reducible exact H2_) | with_reducible exact H | (rw [hy281]; exact H) | exact H
          have Ny281 := Aside0.mk hy281
          clear hy281
          have H' := Aside0.mk H
          clear H
          have p270 : 0 ≤ (x12_1 : Int) := of_decide_eq_true (by first | (with_reducible assumption) | assumption)
          have q270 : x12_1 < (t267.length : Int) := of_decide_eq_true (by first | (with_reducible assumption) | assumption)
          obtain ⟨ad270, A270_1, c270_1, A270_3, c270_3, e270, hx270_0, hx270_1, hx270_2, hx270_3, hl270_1, hi270_1, hl270_3, hi270_3⟩ := at_T32 (Kd.N_reads' HO_10.out).2.2 x12_1 p270 q270
          cases e270
          obtain ⟨ce270, hce270, hMe270, hcc270⟩ := Kd.N_get HO_10.out z32 x12_1 p270 (by first | exact q270 | exact of_decide_eq_true (by first | (with_reducible assumption) | assumption) | (have e_ := (Kd.N_reads' HO_10.out).1; omega))
          obtain ⟨ua270_1, uc270_1, ua270_3, uc270_3, rfl, ul270_1, ge270_1, ul270_3, ge270_3⟩ := k32_openF hMe270
          have hv270_1 := hcc270 1 _ rfl
          rw [add_field _ _ 1 (by omega)] at hv270_1
          replace hv270_1 := Option.some.inj (hv270_1.symm.trans hx270_1)
          injection hv270_1 with hva_ hvn_ hvc_
          rw [hva_] at ge270_1
          rw [hvc_] at ul270_1
          have HL270_1 := Aside0.mk (show Kd.V k56 56 _ w.heap.size _ _ ((rd_T32 t267 x12_1).f0.f1) from Kd.V_mk ul270_1 ge270_1)
          clear hva_ hvn_ hvc_ ge270_1 ul270_1
          have hv270_3 := hcc270 3 _ rfl
          rw [add_field _ _ 3 (by omega)] at hv270_3
          replace hv270_3 := Option.some.inj (hv270_3.symm.trans hx270_3)
          injection hv270_3 with hva_ hvn_ hvc_
          rw [hva_] at ge270_3
          rw [hvc_] at ul270_3
          have HL270_3 := Aside0.mk (show Kd.V k56 56 _ w.heap.size _ _ ((rd_T32 t267 x12_1).f1.f1) from Kd.V_mk ul270_3 ge270_3)
          clear hva_ hvn_ hvc_ ge270_3 ul270_3
          clear hcc270 hce270
          have HR270_1 := Aside0.mk hi270_1
          have HC270_1 := Aside0.mk hl270_1
          clear hi270_1 hl270_1
          have HR270_3 := Aside0.mk hi270_3
          have HC270_3 := Aside0.mk hl270_3
          clear hi270_3 hl270_3
          replace p270 := eq_true p270
          replace q270 := eq_true q270
          try go_wp2_with (first | ((with_reducible refine gate_dst (N := 5) rfl ?_); refine box_event ?hg (N := 5) ?hd (cs := #[.string (⟨#[]⟩ : ByteArray), .slice none 0 0, .string (⟨#[]⟩ : ByteArray), .slice none 0 0]) (t := 32) ?hr ?_; (case hd => rfl); (case hg => rfl); (case hr => first | (go_simp; done) | (go_simp; rfl)); intro gb271 hg w20 hbox hb; have n0_ := Aside0.mk (Kd.N_below (Kd.N_elderB (by (with_reducible repeat (first | apply Kd.N_alloc | apply Kd.N_drewN | apply Kd.N_drew)); exact HO_3.out) gb271 (Nat.le_of_eq hg.symm)) hb); have n1_ := Aside0.mk (Kd.N_below (Kd.N_elderB (by (with_reducible repeat (first | apply Kd.N_alloc | apply Kd.N_drewN | apply Kd.N_drew)); exact HO_10.out) gb271 (Nat.le_of_eq hg.symm)) hb); have n2_ := Aside0.mk (Kd.V_below (Kd.V_elderB (by (with_reducible repeat (first | apply Kd.V_alloc | apply Kd.V_drewN | apply Kd.V_drew)); exact HL270_1.out) gb271 (Nat.le_of_eq hg.symm)) hb); have n3_ := Aside0.mk (Kd.V_below (Kd.V_elderB (by (with_reducible repeat (first | apply Kd.V_alloc | apply Kd.V_drewN | apply Kd.V_drew)); exact HL270_3.out) gb271 (Nat.le_of_eq hg.symm)) hb); have n4_ := Aside0.mk (blk_below (g := gb265) (o := .cells #[.string a0_0, .slice A0_1 l0_1.length c0_1] 24 (0, 0)) (by (with_reducible repeat (first | refine blk_drewN ?_ _ | refine blk_drew ?_ | refine blk_alloc ?_ _)); exact BK265.out) hb); have n5_ := Aside0.mk (blk_below (g := gb266) (o := .cells #[.string (⟨#[]⟩ : ByteArray), .slice none 0 0] 24 (0, 0)) (by (with_reducible repeat (first | refine blk_drewN ?_ _ | refine blk_drew ?_ | refine blk_alloc ?_ _)); exact BK266.out) hb); have n6_ := Aside0.mk (Kd.C_below (by repeat (first | (with_reducible exact HR270_1.out) | (with_reducible refine Kd.C_alloc ?_ _) | (with_reducible refine Kd.C_drewN ?_ _) | (with_reducible refine Kd.C_drew ?_) | exact HR270_1.out)) hb); have n7_ := Aside0.mk (Kd.C_below (by repeat (first | (with_reducible exact HR270_3.out) | (with_reducible refine Kd.C_alloc ?_ _) | (with_reducible refine Kd.C_drewN ?_ _) | (with_reducible refine Kd.C_drew ?_) | exact HR270_3.out)) hb); have n8_ := Aside0.mk (below_step (by repeat (first | (with_reducible first | exact HB.out | apply below_alloc | apply pw_below_drewN | apply below_drew1 | refine below_set ?_ GE265.out | refine below_set ?_ GE266.out) | exact HB.out)) hb); have n9_ := Aside0.mk (hbox); have n10_ := Aside0.mk ((by rw [hg]; exact (below_size (by repeat (first | (with_reducible first | exact HB.out | apply below_alloc | apply pw_below_drewN | apply below_drew1 | refine below_set ?_ GE265.out | refine below_set ?_ GE266.out) | exact HB.out))) : w.heap.size ≤ gb271)); have n11_ := Aside0.mk ((by rw [hg]; exact (below_size (by repeat (first | (with_reducible first | exact HB.out | apply below_alloc | apply pw_below_drewN | apply below_drew1 | refine below_set ?_ GE265.out | refine below_set ?_ GE266.out) | exact HB.out))) : w.heap.size ≤ gb271)); have n12_ := Aside0.mk ((by rw [hg]; exact Nat.ne_of_lt (blk_lt (g := gb265) (o := .cells #[.string a0_0, .slice A0_1 l0_1.length c0_1] 24 (0, 0)) (by (with_reducible repeat (first | refine blk_drewN ?_ _ | refine blk_drew ?_ | refine blk_alloc ?_ _)); exact BK265.out)) : gb265 ≠ gb271)); have n13_ := Aside0.mk ((by rw [hg]; exact Nat.ne_of_gt (blk_lt (g := gb265) (o := .cells #[.string a0_0, .slice A0_1 l0_1.length c0_1] 24 (0, 0)) (by (with_reducible repeat (first | refine blk_drewN ?_ _ | refine blk_drew ?_ | refine blk_alloc ?_ _)); exact BK265.out)) : gb271 ≠ gb265)); have n14_ := Aside0.mk ((by rw [hg]; exact Nat.ne_of_lt (blk_lt (g := gb266) (o := .cells #[.string (⟨#[]⟩ : ByteArray), .slice none 0 0] 24 (0, 0)) (by (with_reducible repeat (first | refine blk_drewN ?_ _ | refine blk_drew ?_ | refine blk_alloc ?_ _)); exact BK266.out)) : gb266 ≠ gb271)); have n15_ := Aside0.mk ((by rw [hg]; exact Nat.ne_of_gt (blk_lt (g := gb266) (o := .cells #[.string (⟨#[]⟩ : ByteArray), .slice none 0 0] 24 (0, 0)) (by (with_reducible repeat (first | refine blk_drewN ?_ _ | refine blk_drew ?_ | refine blk_alloc ?_ _)); exact BK266.out)) : gb271 ≠ gb266)); clear HO_3; clear HO_10; clear HL270_1; clear HL270_3; clear BK265; clear BK266; clear HR270_1; clear HR270_3; clear HB; have HO_3 := n0_; have HO_10 := n1_; have HL270_1 := n2_; have HL270_3 := n3_; have BK265 := n4_; have BK266 := n5_; have HR270_1 := n6_; have HR270_3 := n7_; have HB := n8_; have BK271 := n9_; have GW271 := n10_; have GE271 := n11_; have NB265_271 := n12_; have NB271_265 := n13_; have NB266_271 := n14_; have NB271_266 := n15_; clear n0_ n1_ n2_ n3_ n4_ n5_ n6_ n7_ n8_ n9_ n10_ n11_ n12_ n13_ n14_ n15_; clear hb hbox hg; have hnb21 := NB271_265.out; have hnc21 := NB265_271.out; have hnb22 := NB271_266.out; have hnc22 := NB266_271.out; have hcz23_0 : w20.cell? ⟨gb271, 0, none⟩ = some (.string (⟨#[]⟩ : ByteArray)) := (blk_cell BK271.out 0).trans rfl; have hcz23_1 : w20.cell? ⟨gb271, 1, none⟩ = some (.slice none 0 0) := (blk_cell BK271.out 1).trans rfl; have hcz23_2 : w20.cell? ⟨gb271, 2, none⟩ = some (.string (⟨#[]⟩ : ByteArray)) := (blk_cell BK271.out 2).trans rfl; have hcz23_3 : w20.cell? ⟨gb271, 3, none⟩ = some (.slice none 0 0) := (blk_cell BK271.out 3).trans rfl; have hfz23_0 := blk_frozen BK271.out 0; have hfz23_1 := blk_frozen BK271.out 1; have hfz23_2 := blk_frozen BK271.out 2; have hfz23_3 := blk_frozen BK271.out 3) | ((with_reducible refine gate_callee (f := 27) rfl ?_); refine goesL_ (some 19) rfl rfl Tryd.func27 (by kernel_rfl) rfl #[.string ((rd_T32 t267 x12_1).f0.f0)] rfl (by (try simp only [List.map_toArray, List.map_cons, List.map_nil]); first | done | rfl | (simp only [List.length_drop, List.length_take]; rfl)) ?_; (with_reducible refine (style_Known.calls ((rd_T32 t267 x12_1).f0.f0) true _ A12.out).mono ?_); rintro e w' ⟨rfl, ⟨nd, rfl⟩⟩; refine ⟨_, rfl, ?_⟩) | (go_at_call 12; (with_reducible refine (mark_Pure.calls k1 ((rd_T32 t267 x12_1).f0.f0) _ _ ((rd_T32 t267 x12_1).f0.f1) true _ ?side1 ?side2 A14.out).mono ?_); (case side1 => repeat (first | exact ((Kd.V_reads' (by (with_reducible repeat (first | apply Kd.V_alloc | apply Kd.V_drewN | apply Kd.V_drew)); exact (Kd.V_mono (Kd.V_far (p := ⟨gb271, 3, none⟩) (Kd.V_far (p := ⟨gb271, 2, none⟩) (Kd.V_far (p := ⟨gb271, 1, none⟩) (Kd.V_far (p := ⟨gb271, 0, none⟩) (Kd.V_mono HL270_1.out (fun k_ hk => (⟨hk, hk.2⟩ : _ ∧ k_ ≠ gb271))) (fun _ hk => hk.2) (.string ((rd_T32 t267 x12_1).f0.f0))) (fun _ hk => hk.2) (.slice A270_1 ((rd_T32 t267 x12_1).f0.f1).length c270_1)) (fun _ hk => hk.2) (.string ((rd_T32 t267 x12_1).f1.f0))) (fun _ hk => hk.2) (.slice A270_3 ((rd_T32 t267 x12_1).f1.f1).length c270_3)) (fun _ h_ => h_.1)))).2.2) | (with_reducible refine Kd.C_alloc ?_ _) | (with_reducible refine Kd.C_drewN ?_ _) | (with_reducible refine Kd.C_drew ?_))); (case side2 => exact HC270_1.out); rintro e w24 ⟨rfl, hb⟩; have n0_ := Aside0.mk (Kd.N_below (by (with_reducible repeat (first | apply Kd.N_alloc | apply Kd.N_drewN | apply Kd.N_drew)); exact (Kd.N_mono (Kd.N_far (p := ⟨gb271, 3, none⟩) (Kd.N_far (p := ⟨gb271, 2, none⟩) (Kd.N_far (p := ⟨gb271, 1, none⟩) (Kd.N_far (p := ⟨gb271, 0, none⟩) (Kd.N_mono HO_3.out (fun k_ hk => (⟨hk, hk.2⟩ : _ ∧ k_ ≠ gb271))) (fun _ hk => hk.2) (.string ((rd_T32 t267 x12_1).f0.f0))) (fun _ hk => hk.2) (.slice A270_1 ((rd_T32 t267 x12_1).f0.f1).length c270_1)) (fun _ hk => hk.2) (.string ((rd_T32 t267 x12_1).f1.f0))) (fun _ hk => hk.2) (.slice A270_3 ((rd_T32 t267 x12_1).f1.f1).length c270_3)) (fun _ h_ => h_.1))) hb); have n1_ := Aside0.mk (Kd.N_below (by (with_reducible repeat (first | apply Kd.N_alloc | apply Kd.N_drewN | apply Kd.N_drew)); exact (Kd.N_mono (Kd.N_far (p := ⟨gb271, 3, none⟩) (Kd.N_far (p := ⟨gb271, 2, none⟩) (Kd.N_far (p := ⟨gb271, 1, none⟩) (Kd.N_far (p := ⟨gb271, 0, none⟩) (Kd.N_mono HO_10.out (fun k_ hk => (⟨hk, hk.2⟩ : _ ∧ k_ ≠ gb271))) (fun _ hk => hk.2) (.string ((rd_T32 t267 x12_1).f0.f0))) (fun _ hk => hk.2) (.slice A270_1 ((rd_T32 t267 x12_1).f0.f1).length c270_1)) (fun _ hk => hk.2) (.string ((rd_T32 t267 x12_1).f1.f0))) (fun _ hk => hk.2) (.slice A270_3 ((rd_T32 t267 x12_1).f1.f1).length c270_3)) (fun _ h_ => h_.1))) hb); have n2_ := Aside0.mk (Kd.V_below (by (with_reducible repeat (first | apply Kd.V_alloc | apply Kd.V_drewN | apply Kd.V_drew)); exact (Kd.V_mono (Kd.V_far (p := ⟨gb271, 3, none⟩) (Kd.V_far (p := ⟨gb271, 2, none⟩) (Kd.V_far (p := ⟨gb271, 1, none⟩) (Kd.V_far (p := ⟨gb271, 0, none⟩) (Kd.V_mono HL270_1.out (fun k_ hk => (⟨hk, hk.2⟩ : _ ∧ k_ ≠ gb271))) (fun _ hk => hk.2) (.string ((rd_T32 t267 x12_1).f0.f0))) (fun _ hk => hk.2) (.slice A270_1 ((rd_T32 t267 x12_1).f0.f1).length c270_1)) (fun _ hk => hk.2) (.string ((rd_T32 t267 x12_1).f1.f0))) (fun _ hk => hk.2) (.slice A270_3 ((rd_T32 t267 x12_1).f1.f1).length c270_3)) (fun _ h_ => h_.1))) hb); have n3_ := Aside0.mk (Kd.V_below (by (with_reducible repeat (first | apply Kd.V_alloc | apply Kd.V_drewN | apply Kd.V_drew)); exact (Kd.V_mono (Kd.V_far (p := ⟨gb271, 3, none⟩) (Kd.V_far (p := ⟨gb271, 2, none⟩) (Kd.V_far (p := ⟨gb271, 1, none⟩) (Kd.V_far (p := ⟨gb271, 0, none⟩) (Kd.V_mono HL270_3.out (fun k_ hk => (⟨hk, hk.2⟩ : _ ∧ k_ ≠ gb271))) (fun _ hk => hk.2) (.string ((rd_T32 t267 x12_1).f0.f0))) (fun _ hk => hk.2) (.slice A270_1 ((rd_T32 t267 x12_1).f0.f1).length c270_1)) (fun _ hk => hk.2) (.string ((rd_T32 t267 x12_1).f1.f0))) (fun _ hk => hk.2) (.slice A270_3 ((rd_T32 t267 x12_1).f1.f1).length c270_3)) (fun _ h_ => h_.1))) hb); have n4_ := Aside0.mk (blk_below (g := gb265) (o := .cells #[.string a0_0, .slice A0_1 l0_1.length c0_1] 24 (0, 0)) (by (with_reducible repeat (first | refine blk_drewN ?_ _ | refine blk_drew ?_ | refine blk_alloc ?_ _)); refine blk_far ?_ NB265_271.out _; (with_reducible repeat (first | refine blk_drewN ?_ _ | refine blk_drew ?_ | refine blk_alloc ?_ _)); refine blk_far ?_ NB265_271.out _; (with_reducible repeat (first | refine blk_drewN ?_ _ | refine blk_drew ?_ | refine blk_alloc ?_ _)); refine blk_far ?_ NB265_271.out _; (with_reducible repeat (first | refine blk_drewN ?_ _ | refine blk_drew ?_ | refine blk_alloc ?_ _)); refine blk_far ?_ NB265_271.out _; (with_reducible repeat (first | refine blk_drewN ?_ _ | refine blk_drew ?_ | refine blk_alloc ?_ _)); exact BK265.out) hb); have n5_ := Aside0.mk (blk_below (g := gb266) (o := .cells #[.string (⟨#[]⟩ : ByteArray), .slice none 0 0] 24 (0, 0)) (by (with_reducible repeat (first | refine blk_drewN ?_ _ | refine blk_drew ?_ | refine blk_alloc ?_ _)); refine blk_far ?_ NB266_271.out _; (with_reducible repeat (first | refine blk_drewN ?_ _ | refine blk_drew ?_ | refine blk_alloc ?_ _)); refine blk_far ?_ NB266_271.out _; (with_reducible repeat (first | refine blk_drewN ?_ _ | refine blk_drew ?_ | refine blk_alloc ?_ _)); refine blk_far ?_ NB266_271.out _; (with_reducible repeat (first | refine blk_drewN ?_ _ | refine blk_drew ?_ | refine blk_alloc ?_ _)); refine blk_far ?_ NB266_271.out _; (with_reducible repeat (first | refine blk_drewN ?_ _ | refine blk_drew ?_ | refine blk_alloc ?_ _)); exact BK266.out) hb); have n6_ := Aside0.mk (Kd.C_below ((Kd.V_reads' (by (with_reducible repeat (first | apply Kd.V_alloc | apply Kd.V_drewN | apply Kd.V_drew)); exact (Kd.V_mono (Kd.V_far (p := ⟨gb271, 3, none⟩) (Kd.V_far (p := ⟨gb271, 2, none⟩) (Kd.V_far (p := ⟨gb271, 1, none⟩) (Kd.V_far (p := ⟨gb271, 0, none⟩) (Kd.V_mono HL270_1.out (fun k_ hk => (⟨hk, hk.2⟩ : _ ∧ k_ ≠ gb271))) (fun _ hk => hk.2) (.string ((rd_T32 t267 x12_1).f0.f0))) (fun _ hk => hk.2) (.slice A270_1 ((rd_T32 t267 x12_1).f0.f1).length c270_1)) (fun _ hk => hk.2) (.string ((rd_T32 t267 x12_1).f1.f0))) (fun _ hk => hk.2) (.slice A270_3 ((rd_T32 t267 x12_1).f1.f1).length c270_3)) (fun _ h_ => h_.1)))).2.2) hb); have n7_ := Aside0.mk (Kd.C_below ((Kd.V_reads' (by (with_reducible repeat (first | apply Kd.V_alloc | apply Kd.V_drewN | apply Kd.V_drew)); exact (Kd.V_mono (Kd.V_far (p := ⟨gb271, 3, none⟩) (Kd.V_far (p := ⟨gb271, 2, none⟩) (Kd.V_far (p := ⟨gb271, 1, none⟩) (Kd.V_far (p := ⟨gb271, 0, none⟩) (Kd.V_mono HL270_3.out (fun k_ hk => (⟨hk, hk.2⟩ : _ ∧ k_ ≠ gb271))) (fun _ hk => hk.2) (.string ((rd_T32 t267 x12_1).f0.f0))) (fun _ hk => hk.2) (.slice A270_1 ((rd_T32 t267 x12_1).f0.f1).length c270_1)) (fun _ hk => hk.2) (.string ((rd_T32 t267 x12_1).f1.f0))) (fun _ hk => hk.2) (.slice A270_3 ((rd_T32 t267 x12_1).f1.f1).length c270_3)) (fun _ h_ => h_.1)))).2.2) hb); have n8_ := Aside0.mk (blk_below (g := gb271) (o := .cells #[.string ((rd_T32 t267 x12_1).f0.f0), .slice A270_1 ((rd_T32 t267 x12_1).f0.f1).length c270_1, .string ((rd_T32 t267 x12_1).f1.f0), .slice A270_3 ((rd_T32 t267 x12_1).f1.f1).length c270_3] 32 (0, 0)) (by (with_reducible repeat (first | refine blk_drewN ?_ _ | refine blk_drew ?_ | refine blk_alloc ?_ _)); refine blk_put (cs := #[.string ((rd_T32 t267 x12_1).f0.f0), .slice A270_1 ((rd_T32 t267 x12_1).f0.f1).length c270_1, .string ((rd_T32 t267 x12_1).f1.f0), .slice none 0 0]) ?_ 3 _ rfl; (with_reducible repeat (first | refine blk_drewN ?_ _ | refine blk_drew ?_ | refine blk_alloc ?_ _)); refine blk_put (cs := #[.string ((rd_T32 t267 x12_1).f0.f0), .slice A270_1 ((rd_T32 t267 x12_1).f0.f1).length c270_1, .string (⟨#[]⟩ : ByteArray), .slice none 0 0]) ?_ 2 _ rfl; (with_reducible repeat (first | refine blk_drewN ?_ _ | refine blk_drew ?_ | refine blk_alloc ?_ _)); refine blk_put (cs := #[.string ((rd_T32 t267 x12_1).f0.f0), .slice none 0 0, .string (⟨#[]⟩ : ByteArray), .slice none 0 0]) ?_ 1 _ rfl; (with_reducible repeat (first | refine blk_drewN ?_ _ | refine blk_drew ?_ | refine blk_alloc ?_ _)); refine blk_put (cs := #[.string (⟨#[]⟩ : ByteArray), .slice none 0 0, .string (⟨#[]⟩ : ByteArray), .slice none 0 0]) ?_ 0 _ rfl; (with_reducible repeat (first | refine blk_drewN ?_ _ | refine blk_drew ?_ | refine blk_alloc ?_ _)); exact BK271.out) hb); have n9_ := Aside0.mk (below_step (by repeat (first | (with_reducible first | exact HB.out | apply below_alloc | apply pw_below_drewN | apply below_drew1 | refine below_set ?_ GE265.out | refine below_set ?_ GE266.out | refine below_set ?_ GE271.out) | exact HB.out)) hb); clear HO_3; clear HO_10; clear HL270_1; clear HL270_3; clear BK265; clear BK266; clear HR270_1; clear HR270_3; clear BK271; clear HB; have HO_3 := n0_; have HO_10 := n1_; have HL270_1 := n2_; have HL270_3 := n3_; have BK265 := n4_; have BK266 := n5_; have HR270_1 := n6_; have HR270_3 := n7_; have BK271 := n8_; have HB := n9_; clear n0_ n1_ n2_ n3_ n4_ n5_ n6_ n7_ n8_ n9_; (try clear hb); (try clear hb2); (try clear hk); (try clear hi); have hcz25_0 : w24.cell? ⟨gb271, 0, none⟩ = some (.string ((rd_T32 t267 x12_1).f0.f0)) := (blk_cell BK271.out 0).trans rfl; have hcz25_1 : w24.cell? ⟨gb271, 1, none⟩ = some (.slice A270_1 ((rd_T32 t267 x12_1).f0.f1).length c270_1) := (blk_cell BK271.out 1).trans rfl; have hcz25_2 : w24.cell? ⟨gb271, 2, none⟩ = some (.string ((rd_T32 t267 x12_1).f1.f0)) := (blk_cell BK271.out 2).trans rfl; have hcz25_3 : w24.cell? ⟨gb271, 3, none⟩ = some (.slice A270_3 ((rd_T32 t267 x12_1).f1.f1).length c270_3) := (blk_cell BK271.out 3).trans rfl; have hfz25_0 := blk_frozen BK271.out 0; have hfz25_1 := blk_frozen BK271.out 1; have hfz25_2 := blk_frozen BK271.out 2; have hfz25_3 := blk_frozen BK271.out 3) | (go_at_call 28; (with_reducible refine (style_Plain.calls ((rd_T32 t267 x12_1).f1.f0) true _ A16.out).mono ?_); rintro e w26 ⟨rfl, hb⟩; have n0_ := Aside0.mk (Kd.N_below (by (with_reducible repeat (first | apply Kd.N_alloc | apply Kd.N_drewN | apply Kd.N_drew)); exact HO_3.out) hb); have n1_ := Aside0.mk (Kd.N_below (by (with_reducible repeat (first | apply Kd.N_alloc | apply Kd.N_drewN | apply Kd.N_drew)); exact HO_10.out) hb); have n2_ := Aside0.mk (Kd.V_below (by (with_reducible repeat (first | apply Kd.V_alloc | apply Kd.V_drewN | apply Kd.V_drew)); exact HL270_1.out) hb); have n3_ := Aside0.mk (Kd.V_below (by (with_reducible repeat (first | apply Kd.V_alloc | apply Kd.V_drewN | apply Kd.V_drew)); exact HL270_3.out) hb); have n4_ := Aside0.mk (blk_below (g := gb265) (o := .cells #[.string a0_0, .slice A0_1 l0_1.length c0_1] 24 (0, 0)) (by (with_reducible repeat (first | refine blk_drewN ?_ _ | refine blk_drew ?_ | refine blk_alloc ?_ _)); exact BK265.out) hb); have n5_ := Aside0.mk (blk_below (g := gb266) (o := .cells #[.string (⟨#[]⟩ : ByteArray), .slice none 0 0] 24 (0, 0)) (by (with_reducible repeat (first | refine blk_drewN ?_ _ | refine blk_drew ?_ | refine blk_alloc ?_ _)); exact BK266.out) hb); have n6_ := Aside0.mk (Kd.C_below (by repeat (first | (with_reducible exact HR270_1.out) | (with_reducible refine Kd.C_alloc ?_ _) | (with_reducible refine Kd.C_drewN ?_ _) | (with_reducible refine Kd.C_drew ?_) | exact HR270_1.out)) hb); have n7_ := Aside0.mk (Kd.C_below (by repeat (first | (with_reducible exact HR270_3.out) | (with_reducible refine Kd.C_alloc ?_ _) | (with_reducible refine Kd.C_drewN ?_ _) | (with_reducible refine Kd.C_drew ?_) | exact HR270_3.out)) hb); have n8_ := Aside0.mk (blk_below (g := gb271) (o := .cells #[.string ((rd_T32 t267 x12_1).f0.f0), .slice A270_1 ((rd_T32 t267 x12_1).f0.f1).length c270_1, .string ((rd_T32 t267 x12_1).f1.f0), .slice A270_3 ((rd_T32 t267 x12_1).f1.f1).length c270_3] 32 (0, 0)) (by (with_reducible repeat (first | refine blk_drewN ?_ _ | refine blk_drew ?_ | refine blk_alloc ?_ _)); exact BK271.out) hb); have n9_ := Aside0.mk (below_step (by repeat (first | (with_reducible first | exact HB.out | apply below_alloc | apply pw_below_drewN | apply below_drew1 | refine below_set ?_ GE265.out | refine below_set ?_ GE266.out | refine below_set ?_ GE271.out) | exact HB.out)) hb); clear HO_3; clear HO_10; clear HL270_1; clear HL270_3; clear BK265; clear BK266; clear HR270_1; clear HR270_3; clear BK271; clear HB; have HO_3 := n0_; have HO_10 := n1_; have HL270_1 := n2_; have HL270_3 := n3_; have BK265 := n4_; have BK266 := n5_; have HR270_1 := n6_; have HR270_3 := n7_; have BK271 := n8_; have HB := n9_; clear n0_ n1_ n2_ n3_ n4_ n5_ n6_ n7_ n8_ n9_; (try clear hb); (try clear hb2); (try clear hk); (try clear hi); obtain ⟨Ao27, co27, eo27⟩ := Kd.N_slice HO_3.out; subst eo27))
          have n0_ := Aside0.mk (Kd.N_drew HO_3.out)
          have n1_ := Aside0.mk (Kd.N_drew HO_10.out)
          have n2_ := Aside0.mk (Kd.V_drew HL270_1.out)
          have n3_ := Aside0.mk (Kd.V_drew HL270_3.out)
          have n4_ := Aside0.mk (blk_drew BK265.out)
          have n5_ := Aside0.mk (blk_drew BK266.out)
          have n6_ := Aside0.mk (blk_drew BK271.out)
          have n7_ := Aside0.mk (Kd.C_drew HR270_1.out)
          have n8_ := Aside0.mk (Kd.C_drew HR270_3.out)
          have n9_ := Aside0.mk (below_drew1 HB.out)
          clear HO_3
          clear HO_10
          clear HL270_1
          clear HL270_3
          clear BK265
          clear BK266
          clear BK271
          clear HR270_1
          clear HR270_3
          clear HB
          have HO_3 := n0_
          have HO_10 := n1_
          have HL270_1 := n2_
          have HL270_3 := n3_
          have BK265 := n4_
          have BK266 := n5_
          have BK271 := n6_
          have HR270_1 := n7_
          have HR270_3 := n8_
          have HB := n9_
          clear n0_ n1_ n2_ n3_ n4_ n5_ n6_ n7_ n8_ n9_
          refine start_ (n := 9) (S := fun w' => w'.cell? ⟨gb271, 0, none⟩ = some (.string ((rd_T32 t267 x12_1).f0.f0)) ∧ w'.cell? ⟨gb271, 1, none⟩ = some (.slice A270_1 ((rd_T32 t267 x12_1).f0.f1).length c270_1) ∧ w'.cell? ⟨gb271, 2, none⟩ = some (.string ((rd_T32 t267 x12_1).f1.f0)) ∧ w'.cell? ⟨gb271, 3, none⟩ = some (.slice A270_3 ((rd_T32 t267 x12_1).f1.f1).length c270_3)) (ds := []) #[false, false, false, false, false, false, false, false, false] (by kernel_rfl) rfl rfl ⟨(blk_cell BK271.out 0).trans rfl, (blk_cell BK271.out 1).trans rfl, (blk_cell BK271.out 2).trans rfl, (blk_cell BK271.out 3).trans rfl⟩ (fun hHeld => ?_); refine with_tabW style_Clean.tab6 style_Clean.bits6 (fun HT_ HW_ => ?_)
          generalize w26.drew = w28 at HO_3 HO_10 HL270_1 HL270_3 BK265 BK266 BK271 HR270_1 HR270_3 HB hHeld ⊢
          refine pure_ (i := 0) (N := some 31) (v := ?_) (a' := ?_) #[true, false, false, false, false, false, false, false, false] rfl rfl (any_of HT_.out (by kernel_rfl)) (fun _ _ _ h => h) (Or.inl ⟨by rfl, ?_⟩) ?_ ?_
          rotate_left
          ·
           intro w'
           go_simp
           with_reducible rfl
          rotate_left
          ·
           simp only [Act.put, List.setIfInBounds_toArray, List.set_cons_zero, List.set_cons_succ, i64_w, i32_w]
           rfl
          refine pure_ (i := 1) (N := some 32) (v := ?_) (a' := ?_) #[true, true, false, false, false, false, false, false, false] rfl rfl (any_of HT_.out (by kernel_rfl)) (fun _ _ _ h => h) (Or.inl ⟨by rfl, ?_⟩) ?_ ?_
          rotate_left
          ·
           intro w'
           go_simp
           with_reducible rfl
          rotate_left
          ·
           simp only [Act.put, List.setIfInBounds_toArray, List.set_cons_zero, List.set_cons_succ, i64_w, i32_w]
           rfl
          refine pure_ (i := 2) (N := some 33) (v := ?_) (a' := ?_) #[true, true, true, false, false, false, false, false, false] rfl rfl (any_of HT_.out (by kernel_rfl)) (fun _ _ _ h => h) (Or.inl ⟨by rfl, ?_⟩) ?_ ?_
          rotate_left
          ·
           intro w'
           go_simp
           with_reducible rfl
          rotate_left
          ·
           simp only [Act.put, List.setIfInBounds_toArray, List.set_cons_zero, List.set_cons_succ, i64_w, i32_w]
           rfl
          refine take_ (i := 3) (N := some 34) (v := ?_) (a' := ?_) #[true, true, true, true, false, false, false, false, false] rfl rfl (take_ofW HT_.out HW_.out (by kernel_rfl)) (fun _ _ _ h => h) (Or.inl ⟨by rfl, ?_⟩) hHeld ?_ ?_
          rotate_left
          ·
           rintro w' ⟨s0, s1, s2, s3⟩
           go_simp
           with_reducible rfl
          rotate_left
          ·
           simp only [Act.put, List.setIfInBounds_toArray, List.set_cons_zero, List.set_cons_succ, i64_w, i32_w]
           rfl
          refine take_ (i := 5) (N := some 36) (v := ?_) (a' := ?_) #[true, true, true, true, false, true, false, false, false] rfl rfl (take_ofW HT_.out HW_.out (by kernel_rfl)) (fun _ _ _ h => h) (Or.inl ⟨by rfl, ?_⟩) hHeld ?_ ?_
          rotate_left
          ·
           rintro w' ⟨s0, s1, s2, s3⟩
           go_simp
           with_reducible rfl
          rotate_left
          ·
           simp only [Act.put, List.setIfInBounds_toArray, List.set_cons_zero, List.set_cons_succ, i64_w, i32_w]
           rfl
          refine join_ (σ := Value × Value) 2 #[true, true, true, true, true, true, true, false, false] (fun s_ => [(35, s_.1), (37, s_.2)]) (fun s_ w' => (w'.cell? ⟨gb271, 0, none⟩ = some (.string ((rd_T32 t267 x12_1).f0.f0)) ∧ w'.cell? ⟨gb271, 1, none⟩ = some (.slice A270_1 ((rd_T32 t267 x12_1).f0.f1).length c270_1) ∧ w'.cell? ⟨gb271, 2, none⟩ = some (.string ((rd_T32 t267 x12_1).f1.f0)) ∧ w'.cell? ⟨gb271, 3, none⟩ = some (.slice A270_3 ((rd_T32 t267 x12_1).f1.f1).length c270_3)) ∧ (Kd.V k56 56 w' w.heap.size (fun k_ => some k_ ≠ (s_.1 : Value).ownBlock ∧ some k_ ≠ (s_.2 : Value).ownBlock ∧ some k_ ≠ (.slice (some ad270) t267.length co8 : Value).ownBlock ∧ some k_ ≠ (.slice Ao27 x3_1.length co27 : Value).ownBlock ∧ k_ ≠ gb265 ∧ k_ ≠ gb266 ∧ k_ ≠ gb271) (.slice A270_1 ((rd_T32 t267 x12_1).f0.f1).length c270_1) ((rd_T32 t267 x12_1).f0.f1)) ∧ (Kd.V k56 56 w' w.heap.size (fun k_ => some k_ ≠ (s_.1 : Value).ownBlock ∧ some k_ ≠ (s_.2 : Value).ownBlock ∧ some k_ ≠ (.slice (some ad270) t267.length co8 : Value).ownBlock ∧ some k_ ≠ (.slice Ao27 x3_1.length co27 : Value).ownBlock ∧ k_ ≠ gb265 ∧ k_ ≠ gb266 ∧ k_ ≠ gb271) (.slice A270_3 ((rd_T32 t267 x12_1).f1.f1).length c270_3) ((rd_T32 t267 x12_1).f1.f1)) ∧ (Kd.N k32 32 w' w.heap.size (fun k_ => some k_ ≠ (s_.2 : Value).ownBlock ∧ some k_ ≠ (.slice (some ad270) t267.length co8 : Value).ownBlock ∧ some k_ ≠ (.slice Ao27 x3_1.length co27 : Value).ownBlock ∧ k_ ≠ gb265 ∧ k_ ≠ gb266 ∧ k_ ≠ gb271) s_.1 t275) ∧ (Kd.N k32 32 w' w.heap.size (fun k_ => some k_ ≠ (s_.1 : Value).ownBlock ∧ some k_ ≠ (.slice (some ad270) t267.length co8 : Value).ownBlock ∧ some k_ ≠ (.slice Ao27 x3_1.length co27 : Value).ownBlock ∧ k_ ≠ gb265 ∧ k_ ≠ gb266 ∧ k_ ≠ gb271) s_.2 y278) ∧ (Kd.N k32 32 w' w.heap.size (fun k_ => some k_ ≠ (s_.1 : Value).ownBlock ∧ some k_ ≠ (s_.2 : Value).ownBlock ∧ some k_ ≠ (.slice Ao27 x3_1.length co27 : Value).ownBlock ∧ k_ ≠ gb265 ∧ k_ ≠ gb266 ∧ k_ ≠ gb271) (.slice (some ad270) t267.length co8) t267) ∧ (Kd.N k32 32 w' w.heap.size (fun k_ => some k_ ≠ (s_.1 : Value).ownBlock ∧ some k_ ≠ (s_.2 : Value).ownBlock ∧ some k_ ≠ (.slice (some ad270) t267.length co8 : Value).ownBlock ∧ k_ ≠ gb265 ∧ k_ ≠ gb266 ∧ k_ ≠ gb271) (.slice Ao27 x3_1.length co27) x3_1) ∧ (w'.heap[gb265]? = some (.cells #[.string a0_0, .slice A0_1 l0_1.length c0_1] 24 (0, 0))) ∧ (w'.heap[gb266]? = some (.cells #[.string (⟨#[]⟩ : ByteArray), .slice none 0 0] 24 (0, 0))) ∧ (w'.heap[gb271]? = some (.cells #[.string ((rd_T32 t267 x12_1).f0.f0), .slice A270_1 ((rd_T32 t267 x12_1).f0.f1).length c270_1, .string ((rd_T32 t267 x12_1).f1.f0), .slice A270_3 ((rd_T32 t267 x12_1).f1.f1).length c270_3] 32 (0, 0))) ∧ (Below w.heap.size w w')) ?_ ?_
          ·
           rintro ⟨v276, v279⟩ w32 ⟨hS_, h0_, h1_, h2_, h3_, h4_, h5_, h6_, h7_, h8_, h9_⟩
           dsimp only at hS_ h0_ h1_ h2_ h3_ h4_ h5_ h6_ h7_ h8_ h9_
           have n0_ := Aside0.mk h0_
           have n1_ := Aside0.mk h1_
           have n2_ := Aside0.mk h2_
           have n3_ := Aside0.mk h3_
           have n4_ := Aside0.mk h4_
           have n5_ := Aside0.mk h5_
           have n6_ := Aside0.mk h6_
           have n7_ := Aside0.mk h7_
           have n8_ := Aside0.mk h8_
           have n9_ := Aside0.mk h9_
           clear HO_3
           clear HO_10
           clear HL270_1
           clear HL270_3
           clear BK265
           clear BK266
           clear BK271
           clear HR270_1
           clear HR270_3
           clear HB
           clear h0_ h1_ h2_ h3_ h4_ h5_ h6_ h7_ h8_ h9_
           have HL270_1 := n0_
           have HL270_3 := n1_
           have HO277 := n2_
           have HO280 := n3_
           have HO_10 := n4_
           have HO_3 := n5_
           have BK265 := n6_
           have BK266 := n7_
           have BK271 := n8_
           have HB := n9_
           clear n0_ n1_ n2_ n3_ n4_ n5_ n6_ n7_ n8_ n9_
           have hHeld := hS_
           obtain ⟨Ao34, co34, eo34⟩ := Kd.N_slice HO280.out
           (first | subst eo34 | (injection eo34 with f1_ f2_ f3_; have f4_ := f1_.symm; have f5_ := f3_.symm; clear f1_ f2_ f3_; subst f4_; subst f5_))
           refine norm_ (a' := ?_) ?_ ?_
           rotate_left
           ·
            simp only [putAll, Act.put, List.setIfInBounds_toArray, List.set_cons_zero, List.set_cons_succ]
            rfl
           refine one_ (i := 7) (N := some 38) #[true, true, true, true, true, true, true, true, false] rfl rfl (one_of HT_.out (by kernel_rfl)) (by decide) (fun K hK => ?_)
           refine Kd.N_append_rows_step k32 (w0 := w) w.heap.size (by rfl) (.tmp 35) (.tmp 37) 28 32 (.agg #[(.string ⟨#[]⟩), (.slice none 0 0), (.string ⟨#[]⟩), (.slice none 0 0)]) 80 rfl Tryd.underlying28 info32 rfl (by decide) (by omega) v276 t275 y278 _ _ _ (fun k_ => some k_ ≠ (.slice Ao27 x3_1.length co27 : Value).ownBlock ∧ some k_ ≠ (.slice (some ad270) t267.length co8 : Value).ownBlock ∧ k_ ≠ gb265 ∧ k_ ≠ gb266 ∧ k_ ≠ gb271) (fun k_ => ((fun k_ => some k_ ≠ (.slice Ao27 x3_1.length co27 : Value).ownBlock ∧ some k_ ≠ (.slice (some ad270) t267.length co8 : Value).ownBlock ∧ k_ ≠ gb265 ∧ k_ ≠ gb266 ∧ k_ ≠ gb271)) k_ ∧ some k_ ≠ (v276 : Value).ownBlock) rfl rfl ?aO ?aR (fun _ hk => hk) ?aF ?aB ?aS ?aL ?_
           (case aR => exact (by skip; exact Kd.N_F (Kd.N_mono (ok' := (fun k_ => ((fun k_ => some k_ ≠ (.slice Ao27 x3_1.length co27 : Value).ownBlock ∧ some k_ ≠ (.slice (some ad270) t267.length co8 : Value).ownBlock ∧ k_ ≠ gb265 ∧ k_ ≠ gb266 ∧ k_ ≠ gb271)) k_ ∧ some k_ ≠ (v276 : Value).ownBlock)) (HO280.out) (fun k_ hk => ⟨⟨hk.2.2.1, ⟨hk.2.1, ⟨hk.2.2.2.1, ⟨hk.2.2.2.2.1, hk.2.2.2.2.2⟩⟩⟩⟩, hk.1⟩))))
           (case aB => exact (by repeat (first | (with_reducible first | exact HB.out | apply below_alloc | apply pw_below_drewN | apply below_drew1 | refine below_set ?_ GE265.out | refine below_set ?_ GE266.out | refine below_set ?_ GE271.out) | exact HB.out)))
           (case aF => exact (fun k_ hk => ⟨Kd.fresh' (Kd.N_lt (Kd.N_go HO_3.out)) k_ hk, Kd.fresh' (Kd.N_lt (Kd.N_go HO_10.out)) k_ hk, Kd.freshB (g := gb265) (o := .cells #[.string a0_0, .slice A0_1 l0_1.length c0_1] 24 (0, 0)) (blk_go BK265.out) k_ hk, Kd.freshB (g := gb266) (o := .cells #[.string (⟨#[]⟩ : ByteArray), .slice none 0 0] 24 (0, 0)) (blk_go BK266.out) k_ hk, Kd.freshB (g := gb271) (o := .cells #[.string ((rd_T32 t267 x12_1).f0.f0), .slice A270_1 ((rd_T32 t267 x12_1).f0.f1).length c270_1, .string ((rd_T32 t267 x12_1).f1.f0), .slice A270_3 ((rd_T32 t267 x12_1).f1.f1).length c270_3] 32 (0, 0)) (blk_go BK271.out) k_ hk⟩))
           (case aO => exact (Kd.N_go (Kd.N_mono HO277.out (fun _ hk => ⟨hk.2.2.1, ⟨hk.2.1, ⟨hk.2.2.2.1, ⟨hk.2.2.2.2.1, hk.2.2.2.2.2⟩⟩⟩⟩))))
           (case aS => exact (below_size (by repeat (first | (with_reducible first | exact HB.out | apply below_alloc | apply pw_below_drewN | apply below_drew1 | refine below_set ?_ GE265.out | refine below_set ?_ GE266.out | refine below_set ?_ GE271.out) | exact HB.out))))
           (case aL => have := LMc19.out; omega)
           intro v282 w33 ho hb hg hat
           rw [← Ny281.out] at ho
           have n0_ := Aside0.mk (Kd.N_afterv (ok := (fun k_ => some k_ ≠ (.slice (some ad270) t267.length co8 : Value).ownBlock ∧ some k_ ≠ (.slice Ao34 y278.length co34 : Value).ownBlock ∧ k_ ≠ gb265 ∧ k_ ≠ gb266 ∧ k_ ≠ gb271)) (Kd.N_go (Kd.N_mono HO_3.out (fun _ hk => ⟨⟨hk.2.2.1, ⟨hk.2.1, ⟨hk.2.2.2.1, ⟨hk.2.2.2.2.1, hk.2.2.2.2.2⟩⟩⟩⟩, hk.1⟩))) hg hat)
           have n1_ := Aside0.mk (Kd.N_afterv (ok := (fun k_ => some k_ ≠ (.slice Ao27 x3_1.length co27 : Value).ownBlock ∧ some k_ ≠ (.slice Ao34 y278.length co34 : Value).ownBlock ∧ k_ ≠ gb265 ∧ k_ ≠ gb266 ∧ k_ ≠ gb271)) (Kd.N_go (Kd.N_mono HO_10.out (fun _ hk => ⟨⟨hk.2.2.1, ⟨hk.2.1, ⟨hk.2.2.2.1, ⟨hk.2.2.2.2.1, hk.2.2.2.2.2⟩⟩⟩⟩, hk.1⟩))) hg hat)
           have n2_ := Aside0.mk (blk_grown (g := gb265) (o := .cells #[.string a0_0, .slice A0_1 l0_1.length c0_1] 24 (0, 0)) (blk_go BK265.out) hg (Kd.N_ne HO277.out BK265.out (by decide)))
           have n3_ := Aside0.mk (blk_grown (g := gb266) (o := .cells #[.string (⟨#[]⟩ : ByteArray), .slice none 0 0] 24 (0, 0)) (blk_go BK266.out) hg (Kd.N_ne HO277.out BK266.out (by decide)))
           have n4_ := Aside0.mk (Kd.V_afterv (ok := (fun k_ => some k_ ≠ (.slice Ao27 x3_1.length co27 : Value).ownBlock ∧ some k_ ≠ (.slice (some ad270) t267.length co8 : Value).ownBlock ∧ some k_ ≠ (.slice Ao34 y278.length co34 : Value).ownBlock ∧ k_ ≠ gb265 ∧ k_ ≠ gb266 ∧ k_ ≠ gb271)) (Kd.V_go (Kd.V_mono HL270_1.out (fun _ hk => ⟨⟨hk.2.2.2.1, ⟨hk.2.2.1, ⟨hk.2.1, ⟨hk.2.2.2.2.1, ⟨hk.2.2.2.2.2.1, hk.2.2.2.2.2.2⟩⟩⟩⟩⟩, hk.1⟩))) hg hat)
           have n5_ := Aside0.mk (Kd.V_afterv (ok := (fun k_ => some k_ ≠ (.slice Ao27 x3_1.length co27 : Value).ownBlock ∧ some k_ ≠ (.slice (some ad270) t267.length co8 : Value).ownBlock ∧ some k_ ≠ (.slice Ao34 y278.length co34 : Value).ownBlock ∧ k_ ≠ gb265 ∧ k_ ≠ gb266 ∧ k_ ≠ gb271)) (Kd.V_go (Kd.V_mono HL270_3.out (fun _ hk => ⟨⟨hk.2.2.2.1, ⟨hk.2.2.1, ⟨hk.2.1, ⟨hk.2.2.2.2.1, ⟨hk.2.2.2.2.2.1, hk.2.2.2.2.2.2⟩⟩⟩⟩⟩, hk.1⟩))) hg hat)
           have n6_ := Aside0.mk (blk_grown (g := gb271) (o := .cells #[.string ((rd_T32 t267 x12_1).f0.f0), .slice A270_1 ((rd_T32 t267 x12_1).f0.f1).length c270_1, .string ((rd_T32 t267 x12_1).f1.f0), .slice A270_3 ((rd_T32 t267 x12_1).f1.f1).length c270_3] 32 (0, 0)) (blk_go BK271.out) hg (Kd.N_away HO277.out (fun _ hk => hk.2.2.2.2.2)))
           have n7_ := Aside0.mk (Kd.N_afterv (ok := (fun k_ => some k_ ≠ (.slice Ao27 x3_1.length co27 : Value).ownBlock ∧ some k_ ≠ (.slice (some ad270) t267.length co8 : Value).ownBlock ∧ k_ ≠ gb265 ∧ k_ ≠ gb266 ∧ k_ ≠ gb271)) (Kd.N_go (Kd.N_mono HO280.out (fun _ hk => ⟨⟨hk.2.2.1, ⟨hk.2.1, ⟨hk.2.2.2.1, ⟨hk.2.2.2.2.1, hk.2.2.2.2.2⟩⟩⟩⟩, hk.1⟩))) hg hat)
           have n8_ := Aside0.mk (hb)
           have n9_ := Aside0.mk (ho)
           clear HO_3
           clear HO_10
           clear BK265
           clear BK266
           clear HL270_1
           clear HL270_3
           clear BK271
           clear HO280
           clear HB
           clear HO277
           have HO_3 := n0_
           have HO_10 := n1_
           have BK265 := n2_
           have BK266 := n3_
           have HL270_1 := n4_
           have HL270_3 := n5_
           have BK271 := n6_
           have HO280 := n7_
           have HB := n8_
           have HO283 := n9_
           clear n0_ n1_ n2_ n3_ n4_ n5_ n6_ n7_ n8_ n9_
           clear ho hb hg hat
           refine hK.out _ _ ⟨(blk_cell BK271.out 0).trans rfl, (blk_cell BK271.out 1).trans rfl, (blk_cell BK271.out 2).trans rfl, (blk_cell BK271.out 3).trans rfl⟩ (fun hHeld => ?_)
           clear hK K
           refine norm_ (a' := ?_) ?_ ?_
           rotate_left
           ·
            show Act.put _ (some 38) _ = _
            simp only [Act.put, List.setIfInBounds_toArray, List.set_cons_zero, List.set_cons_succ, i64_w, i32_w]
            rfl
           refine pure_ (i := 8) (N := some 3) (v := ?_) (a' := ?_) #[true, true, true, true, true, true, true, true, true] rfl rfl (any_of HT_.out (by kernel_rfl)) (fun _ _ _ h => h) (Or.inl ⟨by rfl, ?_⟩) ?_ ?_
           rotate_left
           ·
            intro w'
            go_simp
            with_reducible rfl
           rotate_left
           ·
            simp only [Act.put, List.setIfInBounds_toArray, List.set_cons_zero, List.set_cons_succ, i64_w, i32_w]
            rfl
           refine done_ (done_of HT_.out (by kernel_rfl)) ?_
           try go_wp2
           go_roundg k1
           case measure => have := HK1.out; omega
           case rel => exact ⟨(y281), (wrap64 (x12_1 + 1)), (by first | rfl | (simp; done) | (simp [*]; done)), H', ⟨by have := HK1.out; omega⟩, ⟨by (with_reducible repeat (first | apply Kd.N_alloc | apply Kd.N_drewN | apply Kd.N_drew)); exact Kd.N_mono HO283.out (fun _ hk => ⟨hk.2.1, ⟨hk.2.2.1, hk.2.2.2.1⟩⟩)⟩, ⟨by (with_reducible repeat (first | apply Kd.N_alloc | apply Kd.N_drewN | apply Kd.N_drew)); exact Kd.N_mono HO_10.out (fun _ hk => ⟨hk.2, ⟨hk.1.2.2.1, hk.1.2.2.2.1⟩⟩)⟩, ⟨by (with_reducible repeat (first | refine blk_drewN ?_ _ | refine blk_drew ?_ | refine blk_alloc ?_ _)); exact BK265.out⟩, ⟨by (with_reducible repeat (first | refine blk_drewN ?_ _ | refine blk_drew ?_ | refine blk_alloc ?_ _)); exact BK266.out⟩, ⟨by repeat (first | (with_reducible first | exact HB.out | apply below_alloc | apply pw_below_drewN | apply below_drew1 | refine below_set ?_ GE265.out | refine below_set ?_ GE266.out | refine below_set ?_ GE271.out) | exact HB.out)⟩⟩
          intro hCont
          refine two_ (i := 4) (j := 6) (Ni := some 35) (Nj := some 37) #[true, true, true, true, true, true, false, false, false] #[true, true, true, true, false, true, true, false, false] rfl rfl rfl rfl (two_of HT_.out (by kernel_rfl)) (by decide) (by decide) (fun K hK => ?_) (fun K hK => ?_)
          ·
           skip
           refine goes_ Tryd.func29 (by kernel_rfl) rfl #[.slice Ao27 x3_1.length co27, .string ((rd_T32 t267 x12_1).f0.f0)] (by rfl) rfl rfl (by (try simp only [List.map_toArray, List.map_cons, List.map_nil]); first | done | rfl | (simp only [List.length_drop, List.length_take]; rfl)) ?_
           with_reducible refine (attrs_Drop.calls k1 _ _ x3_1 ((rd_T32 t267 x12_1).f0.f0) t275 _ ?side1 ?side2 A18.out).mono ?_
           (case side1 => repeat (first | exact (Kd.N_reads' HO_3.out).2.2 | (with_reducible refine Kd.C_alloc ?_ _) | (with_reducible refine Kd.C_drewN ?_ _) | (with_reducible refine Kd.C_drew ?_)))
           (case side2 => exact (Kd.N_reads' HO_3.out).2.1)
           rintro e w29 ⟨v276, rfl, ho0, hb⟩
           refine ⟨_, rfl, ?_⟩
           have n0_ := Aside0.mk (Kd.N_elder' (Kd.N_go HO_3.out) (Kd.N_base ho0) hb)
           have n1_ := Aside0.mk (Kd.N_elder' (Kd.N_go HO_10.out) (Kd.N_base ho0) hb)
           have n2_ := Aside0.mk (Kd.V_elder' (Kd.V_go HL270_1.out) (Kd.N_base ho0) hb)
           have n3_ := Aside0.mk (Kd.V_elder' (Kd.V_go HL270_3.out) (Kd.N_base ho0) hb)
           have n4_ := Aside0.mk (Kd.N_lower (Kd.N_mono (ok' := fun k_ => some k_ ≠ (.slice Ao27 x3_1.length co27 : Value).ownBlock ∧ some k_ ≠ (.slice (some ad270) t267.length co8 : Value).ownBlock ∧ k_ ≠ gb265 ∧ k_ ≠ gb266 ∧ k_ ≠ gb271) ho0 (fun k_ hk_ => ⟨(Kd.fresh' (Kd.N_lt (Kd.N_go HO_3.out)) k_ hk_), (Kd.fresh' (Kd.N_lt (Kd.N_go HO_10.out)) k_ hk_), (Kd.freshB (g := gb265) (o := .cells #[.string a0_0, .slice A0_1 l0_1.length c0_1] 24 (0, 0)) (blk_go BK265.out) k_ hk_), (Kd.freshB (g := gb266) (o := .cells #[.string (⟨#[]⟩ : ByteArray), .slice none 0 0] 24 (0, 0)) (blk_go BK266.out) k_ hk_), (Kd.freshB (g := gb271) (o := .cells #[.string ((rd_T32 t267 x12_1).f0.f0), .slice A270_1 ((rd_T32 t267 x12_1).f0.f1).length c270_1, .string ((rd_T32 t267 x12_1).f1.f0), .slice A270_3 ((rd_T32 t267 x12_1).f1.f1).length c270_3] 32 (0, 0)) (blk_go BK271.out) k_ hk_)⟩)) (below_size (by repeat (first | (with_reducible first | exact HB.out | apply below_alloc | apply pw_below_drewN | apply below_drew1 | refine below_set ?_ GE265.out | refine below_set ?_ GE266.out | refine below_set ?_ GE271.out) | exact HB.out))))
           have n5_ := Aside0.mk (blk_below (blk_go BK265.out) hb)
           have n6_ := Aside0.mk (blk_below (blk_go BK266.out) hb)
           have n7_ := Aside0.mk (Kd.C_below (by repeat (first | (with_reducible exact HR270_1.out) | (with_reducible refine Kd.C_alloc ?_ _) | (with_reducible refine Kd.C_drewN ?_ _) | (with_reducible refine Kd.C_drew ?_) | exact HR270_1.out)) hb)
           have n8_ := Aside0.mk (Kd.C_below (by repeat (first | (with_reducible exact HR270_3.out) | (with_reducible refine Kd.C_alloc ?_ _) | (with_reducible refine Kd.C_drewN ?_ _) | (with_reducible refine Kd.C_drew ?_) | exact HR270_3.out)) hb)
           have n9_ := Aside0.mk (blk_below (blk_go BK271.out) hb)
           have n10_ := Aside0.mk (below_step (by repeat (first | (with_reducible first | exact HB.out | apply below_alloc | apply pw_below_drewN | apply below_drew1 | refine below_set ?_ GE265.out | refine below_set ?_ GE266.out | refine below_set ?_ GE271.out) | exact HB.out)) hb)
           clear HO_3
           clear HO_10
           clear HL270_1
           clear HL270_3
           clear BK265
           clear BK266
           clear HR270_1
           clear HR270_3
           clear BK271
           clear HB
           have HO_3 := n0_
           have HO_10 := n1_
           have HL270_1 := n2_
           have HL270_3 := n3_
           have HO277 := n4_
           have BK265 := n5_
           have BK266 := n6_
           have HR270_1 := n7_
           have HR270_3 := n8_
           have BK271 := n9_
           have HB := n10_
           clear n0_ n1_ n2_ n3_ n4_ n5_ n6_ n7_ n8_ n9_ n10_
           (try clear hb)
           (try clear hb2)
           (try clear hk)
           (try clear hi)
           (try clear ho0)
           refine hK.out _ _ ⟨(blk_cell BK271.out 0).trans rfl, (blk_cell BK271.out 1).trans rfl, (blk_cell BK271.out 2).trans rfl, (blk_cell BK271.out 3).trans rfl⟩ (fun hHeld => ?_)
           clear hK K
           refine norm_ (a' := ?_) ?_ ?_
           rotate_left
           ·
            show Act.put _ (some 35) _ = _
            simp only [Act.put, List.setIfInBounds_toArray, List.set_cons_zero, List.set_cons_succ, i64_w, i32_w]
            rfl
           refine one_ (i := 6) (N := some 37) #[true, true, true, true, true, true, true, false, false] rfl rfl (one_of HT_.out (by kernel_rfl)) (by decide) (fun K hK => ?_)
           refine Kd.N_lit_step k32 _ 32 ?hg (N' := 37) ?hd (xs := ([(⟨(⟨(rd_T32 t267 x12_1).f0.f0, (rd_T32 t267 x12_1).f0.f1⟩ : S24), (⟨(rd_T32 t267 x12_1).f1.f0, (rd_T32 t267 x12_1).f1.f1⟩ : S24)⟩ : S32)] : List (S32))) (inner := [.string ((rd_T32 t267 x12_1).f0.f0), .slice A270_1 ((rd_T32 t267 x12_1).f0.f1).length c270_1, .string ((rd_T32 t267 x12_1).f1.f0), .slice A270_3 ((rd_T32 t267 x12_1).f1.f1).length c270_3]) (ok := (fun k_ => some k_ ≠ (.slice Ao27 x3_1.length co27 : Value).ownBlock ∧ some k_ ≠ (.slice (some ad270) t267.length co8 : Value).ownBlock ∧ some k_ ≠ (v276 : Value).ownBlock ∧ k_ ≠ gb265 ∧ k_ ≠ gb266 ∧ k_ ≠ gb271)) (okp := (fun k_ => some k_ ≠ (.slice Ao27 x3_1.length co27 : Value).ownBlock ∧ some k_ ≠ (.slice (some ad270) t267.length co8 : Value).ownBlock ∧ some k_ ≠ (v276 : Value).ownBlock ∧ k_ ≠ gb265 ∧ k_ ≠ gb266 ∧ k_ ≠ gb271)) ?hr ?hp (fun _ hk => hk) ((show ∀ k_, w29.heap.size ≤ k_ → (fun k_ => some k_ ≠ (.slice Ao27 x3_1.length co27 : Value).ownBlock ∧ some k_ ≠ (.slice (some ad270) t267.length co8 : Value).ownBlock ∧ some k_ ≠ (v276 : Value).ownBlock ∧ k_ ≠ gb265 ∧ k_ ≠ gb266 ∧ k_ ≠ gb271) k_ from fun k_ hk => ⟨Kd.fresh' (Kd.N_lt (Kd.N_go HO_3.out)) k_ hk, Kd.fresh' (Kd.N_lt (Kd.N_go HO_10.out)) k_ hk, Kd.fresh' (Kd.N_lt (Kd.N_go HO277.out)) k_ hk, Kd.freshB (g := gb265) (o := .cells #[.string a0_0, .slice A0_1 l0_1.length c0_1] 24 (0, 0)) (blk_go BK265.out) k_ hk, Kd.freshB (g := gb266) (o := .cells #[.string (⟨#[]⟩ : ByteArray), .slice none 0 0] 24 (0, 0)) (blk_go BK266.out) k_ hk, Kd.freshB (g := gb271) (o := .cells #[.string ((rd_T32 t267 x12_1).f0.f0), .slice A270_1 ((rd_T32 t267 x12_1).f0.f1).length c270_1, .string ((rd_T32 t267 x12_1).f1.f0), .slice A270_3 ((rd_T32 t267 x12_1).f1.f1).length c270_3] 32 (0, 0)) (blk_go BK271.out) k_ hk⟩) _ (Nat.le_refl _)) (Below.refl _ _) (Nat.le_refl _) (by simp) ?_; (case hd => rfl); (case hg => rfl); (case hr => first | (go_simp; done) | (go_simp; rfl)); (case hp => exact (Reps.c4 (show Kd.FK k32 _ _ (⟨(⟨(rd_T32 t267 x12_1).f0.f0, (rd_T32 t267 x12_1).f0.f1⟩ : S24), (⟨(rd_T32 t267 x12_1).f1.f0, (rd_T32 t267 x12_1).f1.f1⟩ : S24)⟩ : S32) [.string ((rd_T32 t267 x12_1).f0.f0), .slice A270_1 ((rd_T32 t267 x12_1).f0.f1).length c270_1, .string ((rd_T32 t267 x12_1).f1.f0), .slice A270_3 ((rd_T32 t267 x12_1).f1.f1).length c270_3] from (k32_mkF _ _ (⟨(⟨(rd_T32 t267 x12_1).f0.f0, (rd_T32 t267 x12_1).f0.f1⟩ : S24), (⟨(rd_T32 t267 x12_1).f1.f0, (rd_T32 t267 x12_1).f1.f1⟩ : S24)⟩ : S32) (Kd.V_reads' (Kd.V_mono (ok' := (fun k_ => some k_ ≠ (.slice Ao27 x3_1.length co27 : Value).ownBlock ∧ some k_ ≠ (.slice (some ad270) t267.length co8 : Value).ownBlock ∧ some k_ ≠ (v276 : Value).ownBlock ∧ k_ ≠ gb265 ∧ k_ ≠ gb266 ∧ k_ ≠ gb271)) (HL270_1.out) (fun k_ hk => ⟨hk.1.1.1.1, ⟨hk.1.1.2, ⟨hk.2, ⟨hk.1.1.1.2.1, ⟨hk.1.1.1.2.2, hk.1.2⟩⟩⟩⟩⟩))).2.1 (Kd.V_F (Kd.V_mono (ok' := (fun k_ => some k_ ≠ (.slice Ao27 x3_1.length co27 : Value).ownBlock ∧ some k_ ≠ (.slice (some ad270) t267.length co8 : Value).ownBlock ∧ some k_ ≠ (v276 : Value).ownBlock ∧ k_ ≠ gb265 ∧ k_ ≠ gb266 ∧ k_ ≠ gb271)) (HL270_1.out) (fun k_ hk => ⟨hk.1.1.1.1, ⟨hk.1.1.2, ⟨hk.2, ⟨hk.1.1.1.2.1, ⟨hk.1.1.1.2.2, hk.1.2⟩⟩⟩⟩⟩))) (Kd.V_reads' (Kd.V_mono (ok' := (fun k_ => some k_ ≠ (.slice Ao27 x3_1.length co27 : Value).ownBlock ∧ some k_ ≠ (.slice (some ad270) t267.length co8 : Value).ownBlock ∧ some k_ ≠ (v276 : Value).ownBlock ∧ k_ ≠ gb265 ∧ k_ ≠ gb266 ∧ k_ ≠ gb271)) (HL270_3.out) (fun k_ hk => ⟨hk.1.1.1.1, ⟨hk.1.1.2, ⟨hk.2, ⟨hk.1.1.1.2.1, ⟨hk.1.1.1.2.2, hk.1.2⟩⟩⟩⟩⟩))).2.1 (Kd.V_F (Kd.V_mono (ok' := (fun k_ => some k_ ≠ (.slice Ao27 x3_1.length co27 : Value).ownBlock ∧ some k_ ≠ (.slice (some ad270) t267.length co8 : Value).ownBlock ∧ some k_ ≠ (v276 : Value).ownBlock ∧ k_ ≠ gb265 ∧ k_ ≠ gb266 ∧ k_ ≠ gb271)) (HL270_3.out) (fun k_ hk => ⟨hk.1.1.1.1, ⟨hk.1.1.2, ⟨hk.2, ⟨hk.1.1.1.2.1, ⟨hk.1.1.1.2.2, hk.1.2⟩⟩⟩⟩⟩))))) (Reps.none _ _)))
           intro v279 w30 ho31 hb hg_ hnew_
           clear hg_ hnew_
           (first | rw [← Ny278.out] at ho31 | (simp only [Int.reduceToNat] at ho31; rw [← Ny278.out] at ho31))
           have n0_ := Aside0.mk (Kd.N_elder' (Kd.N_go HO_3.out) (Kd.N_base ho31) hb)
           have n1_ := Aside0.mk (Kd.N_elder' (Kd.N_go HO_10.out) (Kd.N_base ho31) hb)
           have n2_ := Aside0.mk (Kd.V_elder' (Kd.V_go HL270_1.out) (Kd.N_base ho31) hb)
           have n3_ := Aside0.mk (Kd.V_elder' (Kd.V_go HL270_3.out) (Kd.N_base ho31) hb)
           have n4_ := Aside0.mk (Kd.N_elder' (Kd.N_go HO277.out) (Kd.N_base ho31) hb)
           have n5_ := Aside0.mk (Kd.N_lower ho31 (below_size (by repeat (first | (with_reducible first | exact HB.out | apply below_alloc | apply pw_below_drewN | apply below_drew1 | refine below_set ?_ GE265.out | refine below_set ?_ GE266.out | refine below_set ?_ GE271.out) | exact HB.out))))
           have n6_ := Aside0.mk (blk_below (blk_go BK265.out) hb)
           have n7_ := Aside0.mk (blk_below (blk_go BK266.out) hb)
           have n8_ := Aside0.mk (Kd.C_below (by repeat (first | (with_reducible exact HR270_1.out) | (with_reducible refine Kd.C_alloc ?_ _) | (with_reducible refine Kd.C_drewN ?_ _) | (with_reducible refine Kd.C_drew ?_) | exact HR270_1.out)) hb)
           have n9_ := Aside0.mk (Kd.C_below (by repeat (first | (with_reducible exact HR270_3.out) | (with_reducible refine Kd.C_alloc ?_ _) | (with_reducible refine Kd.C_drewN ?_ _) | (with_reducible refine Kd.C_drew ?_) | exact HR270_3.out)) hb)
           have n10_ := Aside0.mk (blk_below (blk_go BK271.out) hb)
           have n11_ := Aside0.mk (below_step (by repeat (first | (with_reducible first | exact HB.out | apply below_alloc | apply pw_below_drewN | apply below_drew1 | refine below_set ?_ GE265.out | refine below_set ?_ GE266.out | refine below_set ?_ GE271.out) | exact HB.out)) hb)
           clear HO_3
           clear HO_10
           clear HL270_1
           clear HL270_3
           clear HO277
           clear BK265
           clear BK266
           clear HR270_1
           clear HR270_3
           clear BK271
           clear HB
           have HO_3 := n0_
           have HO_10 := n1_
           have HL270_1 := n2_
           have HL270_3 := n3_
           have HO277 := n4_
           have HO280 := n5_
           have BK265 := n6_
           have BK266 := n7_
           have HR270_1 := n8_
           have HR270_3 := n9_
           have BK271 := n10_
           have HB := n11_
           clear n0_ n1_ n2_ n3_ n4_ n5_ n6_ n7_ n8_ n9_ n10_ n11_
           clear hb ho31
           refine hK.out _ _ ⟨(blk_cell BK271.out 0).trans rfl, (blk_cell BK271.out 1).trans rfl, (blk_cell BK271.out 2).trans rfl, (blk_cell BK271.out 3).trans rfl⟩ (fun hHeld => ?_)
           clear hK K
           refine norm_ (a' := ?_) ?_ ?_
           rotate_left
           ·
            show Act.put _ (some 37) _ = _
            simp only [Act.put, List.setIfInBounds_toArray, List.set_cons_zero, List.set_cons_succ, i64_w, i32_w]
            rfl
           exact norm_ (by simp only [putAll, Act.put, List.setIfInBounds_toArray, List.set_cons_zero, List.set_cons_succ]) (hCont (v276, v279) _ ⟨hHeld, (Kd.V_go (Kd.V_mono HL270_1.out (fun _ hk => ⟨hk.1.2, ⟨hk.2, ⟨hk.1.1.1.2, ⟨hk.1.1.1.1.1, ⟨hk.1.1.1.1.2.1, ⟨hk.1.1.1.1.2.2, hk.1.1.2⟩⟩⟩⟩⟩⟩))), (Kd.V_go (Kd.V_mono HL270_3.out (fun _ hk => ⟨hk.1.2, ⟨hk.2, ⟨hk.1.1.1.2, ⟨hk.1.1.1.1.1, ⟨hk.1.1.1.1.2.1, ⟨hk.1.1.1.1.2.2, hk.1.1.2⟩⟩⟩⟩⟩⟩))), (Kd.N_go (Kd.N_mono HO277.out (fun _ hk => ⟨hk.2, ⟨hk.1.2.1, ⟨hk.1.1, ⟨hk.1.2.2.1, ⟨hk.1.2.2.2.1, hk.1.2.2.2.2⟩⟩⟩⟩⟩))), (Kd.N_go (Kd.N_mono HO280.out (fun _ hk => ⟨hk.2.2.1, ⟨hk.2.1, ⟨hk.1, ⟨hk.2.2.2.1, ⟨hk.2.2.2.2.1, hk.2.2.2.2.2⟩⟩⟩⟩⟩))), (Kd.N_go (Kd.N_mono HO_10.out (fun _ hk => ⟨hk.1.2, ⟨hk.2, ⟨hk.1.1.1.1, ⟨hk.1.1.1.2.1, ⟨hk.1.1.1.2.2, hk.1.1.2⟩⟩⟩⟩⟩))), (Kd.N_go (Kd.N_mono HO_3.out (fun _ hk => ⟨hk.1.2, ⟨hk.2, ⟨hk.1.1.1.1, ⟨hk.1.1.1.2.1, ⟨hk.1.1.1.2.2, hk.1.1.2⟩⟩⟩⟩⟩))), (blk_go BK265.out), (blk_go BK266.out), (blk_go BK271.out), (by repeat (first | (with_reducible first | exact HB.out | apply below_alloc | apply pw_below_drewN | apply below_drew1 | refine below_set ?_ GE265.out | refine below_set ?_ GE266.out | refine below_set ?_ GE271.out) | exact HB.out))⟩)
          ·
           skip
           refine Kd.N_lit_step k32 _ 32 ?hg (N' := 37) ?hd (xs := ([(⟨(⟨(rd_T32 t267 x12_1).f0.f0, (rd_T32 t267 x12_1).f0.f1⟩ : S24), (⟨(rd_T32 t267 x12_1).f1.f0, (rd_T32 t267 x12_1).f1.f1⟩ : S24)⟩ : S32)] : List (S32))) (inner := [.string ((rd_T32 t267 x12_1).f0.f0), .slice A270_1 ((rd_T32 t267 x12_1).f0.f1).length c270_1, .string ((rd_T32 t267 x12_1).f1.f0), .slice A270_3 ((rd_T32 t267 x12_1).f1.f1).length c270_3]) (ok := (fun k_ => some k_ ≠ (.slice Ao27 x3_1.length co27 : Value).ownBlock ∧ some k_ ≠ (.slice (some ad270) t267.length co8 : Value).ownBlock ∧ k_ ≠ gb265 ∧ k_ ≠ gb266 ∧ k_ ≠ gb271)) (okp := (fun k_ => some k_ ≠ (.slice Ao27 x3_1.length co27 : Value).ownBlock ∧ some k_ ≠ (.slice (some ad270) t267.length co8 : Value).ownBlock ∧ k_ ≠ gb265 ∧ k_ ≠ gb266 ∧ k_ ≠ gb271)) ?hr ?hp (fun _ hk => hk) ((show ∀ k_, w28.heap.size ≤ k_ → (fun k_ => some k_ ≠ (.slice Ao27 x3_1.length co27 : Value).ownBlock ∧ some k_ ≠ (.slice (some ad270) t267.length co8 : Value).ownBlock ∧ k_ ≠ gb265 ∧ k_ ≠ gb266 ∧ k_ ≠ gb271) k_ from fun k_ hk => ⟨Kd.fresh' (Kd.N_lt (Kd.N_go HO_3.out)) k_ hk, Kd.fresh' (Kd.N_lt (Kd.N_go HO_10.out)) k_ hk, Kd.freshB (g := gb265) (o := .cells #[.string a0_0, .slice A0_1 l0_1.length c0_1] 24 (0, 0)) (blk_go BK265.out) k_ hk, Kd.freshB (g := gb266) (o := .cells #[.string (⟨#[]⟩ : ByteArray), .slice none 0 0] 24 (0, 0)) (blk_go BK266.out) k_ hk, Kd.freshB (g := gb271) (o := .cells #[.string ((rd_T32 t267 x12_1).f0.f0), .slice A270_1 ((rd_T32 t267 x12_1).f0.f1).length c270_1, .string ((rd_T32 t267 x12_1).f1.f0), .slice A270_3 ((rd_T32 t267 x12_1).f1.f1).length c270_3] 32 (0, 0)) (blk_go BK271.out) k_ hk⟩) _ (Nat.le_refl _)) (Below.refl _ _) (Nat.le_refl _) (by simp) ?_; (case hd => rfl); (case hg => rfl); (case hr => first | (go_simp; done) | (go_simp; rfl)); (case hp => exact (Reps.c4 (show Kd.FK k32 _ _ (⟨(⟨(rd_T32 t267 x12_1).f0.f0, (rd_T32 t267 x12_1).f0.f1⟩ : S24), (⟨(rd_T32 t267 x12_1).f1.f0, (rd_T32 t267 x12_1).f1.f1⟩ : S24)⟩ : S32) [.string ((rd_T32 t267 x12_1).f0.f0), .slice A270_1 ((rd_T32 t267 x12_1).f0.f1).length c270_1, .string ((rd_T32 t267 x12_1).f1.f0), .slice A270_3 ((rd_T32 t267 x12_1).f1.f1).length c270_3] from (k32_mkF _ _ (⟨(⟨(rd_T32 t267 x12_1).f0.f0, (rd_T32 t267 x12_1).f0.f1⟩ : S24), (⟨(rd_T32 t267 x12_1).f1.f0, (rd_T32 t267 x12_1).f1.f1⟩ : S24)⟩ : S32) (Kd.V_reads' (Kd.V_mono (ok' := (fun k_ => some k_ ≠ (.slice Ao27 x3_1.length co27 : Value).ownBlock ∧ some k_ ≠ (.slice (some ad270) t267.length co8 : Value).ownBlock ∧ k_ ≠ gb265 ∧ k_ ≠ gb266 ∧ k_ ≠ gb271)) (HL270_1.out) (fun k_ hk => ⟨hk.1.1.1, ⟨hk.1.2, ⟨hk.1.1.2.1, ⟨hk.1.1.2.2, hk.2⟩⟩⟩⟩))).2.1 (Kd.V_F (Kd.V_mono (ok' := (fun k_ => some k_ ≠ (.slice Ao27 x3_1.length co27 : Value).ownBlock ∧ some k_ ≠ (.slice (some ad270) t267.length co8 : Value).ownBlock ∧ k_ ≠ gb265 ∧ k_ ≠ gb266 ∧ k_ ≠ gb271)) (HL270_1.out) (fun k_ hk => ⟨hk.1.1.1, ⟨hk.1.2, ⟨hk.1.1.2.1, ⟨hk.1.1.2.2, hk.2⟩⟩⟩⟩))) (Kd.V_reads' (Kd.V_mono (ok' := (fun k_ => some k_ ≠ (.slice Ao27 x3_1.length co27 : Value).ownBlock ∧ some k_ ≠ (.slice (some ad270) t267.length co8 : Value).ownBlock ∧ k_ ≠ gb265 ∧ k_ ≠ gb266 ∧ k_ ≠ gb271)) (HL270_3.out) (fun k_ hk => ⟨hk.1.1.1, ⟨hk.1.2, ⟨hk.1.1.2.1, ⟨hk.1.1.2.2, hk.2⟩⟩⟩⟩))).2.1 (Kd.V_F (Kd.V_mono (ok' := (fun k_ => some k_ ≠ (.slice Ao27 x3_1.length co27 : Value).ownBlock ∧ some k_ ≠ (.slice (some ad270) t267.length co8 : Value).ownBlock ∧ k_ ≠ gb265 ∧ k_ ≠ gb266 ∧ k_ ≠ gb271)) (HL270_3.out) (fun k_ hk => ⟨hk.1.1.1, ⟨hk.1.2, ⟨hk.1.1.2.1, ⟨hk.1.1.2.2, hk.2⟩⟩⟩⟩))))) (Reps.none _ _)))
           intro v279 w29 ho30 hb hg_ hnew_
           clear hg_ hnew_
           (first | rw [← Ny278.out] at ho30 | (simp only [Int.reduceToNat] at ho30; rw [← Ny278.out] at ho30))
           have n0_ := Aside0.mk (Kd.N_elder' (Kd.N_go HO_3.out) (Kd.N_base ho30) hb)
           have n1_ := Aside0.mk (Kd.N_elder' (Kd.N_go HO_10.out) (Kd.N_base ho30) hb)
           have n2_ := Aside0.mk (Kd.V_elder' (Kd.V_go HL270_1.out) (Kd.N_base ho30) hb)
           have n3_ := Aside0.mk (Kd.V_elder' (Kd.V_go HL270_3.out) (Kd.N_base ho30) hb)
           have n4_ := Aside0.mk (Kd.N_lower ho30 (below_size (by repeat (first | (with_reducible first | exact HB.out | apply below_alloc | apply pw_below_drewN | apply below_drew1 | refine below_set ?_ GE265.out | refine below_set ?_ GE266.out | refine below_set ?_ GE271.out) | exact HB.out))))
           have n5_ := Aside0.mk (blk_below (blk_go BK265.out) hb)
           have n6_ := Aside0.mk (blk_below (blk_go BK266.out) hb)
           have n7_ := Aside0.mk (Kd.C_below (by repeat (first | (with_reducible exact HR270_1.out) | (with_reducible refine Kd.C_alloc ?_ _) | (with_reducible refine Kd.C_drewN ?_ _) | (with_reducible refine Kd.C_drew ?_) | exact HR270_1.out)) hb)
           have n8_ := Aside0.mk (Kd.C_below (by repeat (first | (with_reducible exact HR270_3.out) | (with_reducible refine Kd.C_alloc ?_ _) | (with_reducible refine Kd.C_drewN ?_ _) | (with_reducible refine Kd.C_drew ?_) | exact HR270_3.out)) hb)
           have n9_ := Aside0.mk (blk_below (blk_go BK271.out) hb)
           have n10_ := Aside0.mk (below_step (by repeat (first | (with_reducible first | exact HB.out | apply below_alloc | apply pw_below_drewN | apply below_drew1 | refine below_set ?_ GE265.out | refine below_set ?_ GE266.out | refine below_set ?_ GE271.out) | exact HB.out)) hb)
           clear HO_3
           clear HO_10
           clear HL270_1
           clear HL270_3
           clear BK265
           clear BK266
           clear HR270_1
           clear HR270_3
           clear BK271
           clear HB
           have HO_3 := n0_
           have HO_10 := n1_
           have HL270_1 := n2_
           have HL270_3 := n3_
           have HO280 := n4_
           have BK265 := n5_
           have BK266 := n6_
           have HR270_1 := n7_
           have HR270_3 := n8_
           have BK271 := n9_
           have HB := n10_
           clear n0_ n1_ n2_ n3_ n4_ n5_ n6_ n7_ n8_ n9_ n10_
           clear hb ho30
           refine hK.out _ _ ⟨(blk_cell BK271.out 0).trans rfl, (blk_cell BK271.out 1).trans rfl, (blk_cell BK271.out 2).trans rfl, (blk_cell BK271.out 3).trans rfl⟩ (fun hHeld => ?_)
           clear hK K
           refine norm_ (a' := ?_) ?_ ?_
           rotate_left
           ·
            show Act.put _ (some 37) _ = _
            simp only [Act.put, List.setIfInBounds_toArray, List.set_cons_zero, List.set_cons_succ, i64_w, i32_w]
            rfl
           refine one_ (i := 4) (N := some 35) #[true, true, true, true, true, true, true, false, false] rfl rfl (one_of HT_.out (by kernel_rfl)) (by decide) (fun K hK => ?_)
           refine goes_ Tryd.func29 (by kernel_rfl) rfl #[.slice Ao27 x3_1.length co27, .string ((rd_T32 t267 x12_1).f0.f0)] (by rfl) rfl rfl (by (try simp only [List.map_toArray, List.map_cons, List.map_nil]); first | done | rfl | (simp only [List.length_drop, List.length_take]; rfl)) ?_
           with_reducible refine (attrs_Drop.calls k1 _ _ x3_1 ((rd_T32 t267 x12_1).f0.f0) t275 _ ?side1 ?side2 A18.out).mono ?_
           (case side1 => repeat (first | exact (Kd.N_reads' HO_3.out).2.2 | (with_reducible refine Kd.C_alloc ?_ _) | (with_reducible refine Kd.C_drewN ?_ _) | (with_reducible refine Kd.C_drew ?_)))
           (case side2 => exact (Kd.N_reads' HO_3.out).2.1)
           rintro e w31 ⟨v276, rfl, ho0, hb⟩
           refine ⟨_, rfl, ?_⟩
           have n0_ := Aside0.mk (Kd.N_elder' (Kd.N_go HO_3.out) (Kd.N_base ho0) hb)
           have n1_ := Aside0.mk (Kd.N_elder' (Kd.N_go HO_10.out) (Kd.N_base ho0) hb)
           have n2_ := Aside0.mk (Kd.V_elder' (Kd.V_go HL270_1.out) (Kd.N_base ho0) hb)
           have n3_ := Aside0.mk (Kd.V_elder' (Kd.V_go HL270_3.out) (Kd.N_base ho0) hb)
           have n4_ := Aside0.mk (Kd.N_elder' (Kd.N_go HO280.out) (Kd.N_base ho0) hb)
           have n5_ := Aside0.mk (Kd.N_lower (Kd.N_mono (ok' := fun k_ => some k_ ≠ (.slice Ao27 x3_1.length co27 : Value).ownBlock ∧ some k_ ≠ (.slice (some ad270) t267.length co8 : Value).ownBlock ∧ some k_ ≠ (v279 : Value).ownBlock ∧ k_ ≠ gb265 ∧ k_ ≠ gb266 ∧ k_ ≠ gb271) ho0 (fun k_ hk_ => ⟨(Kd.fresh' (Kd.N_lt (Kd.N_go HO_3.out)) k_ hk_), (Kd.fresh' (Kd.N_lt (Kd.N_go HO_10.out)) k_ hk_), (Kd.fresh' (Kd.N_lt (Kd.N_go HO280.out)) k_ hk_), (Kd.freshB (g := gb265) (o := .cells #[.string a0_0, .slice A0_1 l0_1.length c0_1] 24 (0, 0)) (blk_go BK265.out) k_ hk_), (Kd.freshB (g := gb266) (o := .cells #[.string (⟨#[]⟩ : ByteArray), .slice none 0 0] 24 (0, 0)) (blk_go BK266.out) k_ hk_), (Kd.freshB (g := gb271) (o := .cells #[.string ((rd_T32 t267 x12_1).f0.f0), .slice A270_1 ((rd_T32 t267 x12_1).f0.f1).length c270_1, .string ((rd_T32 t267 x12_1).f1.f0), .slice A270_3 ((rd_T32 t267 x12_1).f1.f1).length c270_3] 32 (0, 0)) (blk_go BK271.out) k_ hk_)⟩)) (below_size (by repeat (first | (with_reducible first | exact HB.out | apply below_alloc | apply pw_below_drewN | apply below_drew1 | refine below_set ?_ GE265.out | refine below_set ?_ GE266.out | refine below_set ?_ GE271.out) | exact HB.out))))
           have n6_ := Aside0.mk (blk_below (blk_go BK265.out) hb)
           have n7_ := Aside0.mk (blk_below (blk_go BK266.out) hb)
           have n8_ := Aside0.mk (Kd.C_below (by repeat (first | (with_reducible exact HR270_1.out) | (with_reducible refine Kd.C_alloc ?_ _) | (with_reducible refine Kd.C_drewN ?_ _) | (with_reducible refine Kd.C_drew ?_) | exact HR270_1.out)) hb)
           have n9_ := Aside0.mk (Kd.C_below (by repeat (first | (with_reducible exact HR270_3.out) | (with_reducible refine Kd.C_alloc ?_ _) | (with_reducible refine Kd.C_drewN ?_ _) | (with_reducible refine Kd.C_drew ?_) | exact HR270_3.out)) hb)
           have n10_ := Aside0.mk (blk_below (blk_go BK271.out) hb)
           have n11_ := Aside0.mk (below_step (by repeat (first | (with_reducible first | exact HB.out | apply below_alloc | apply pw_below_drewN | apply below_drew1 | refine below_set ?_ GE265.out | refine below_set ?_ GE266.out | refine below_set ?_ GE271.out) | exact HB.out)) hb)
           clear HO_3
           clear HO_10
           clear HL270_1
           clear HL270_3
           clear HO280
           clear BK265
           clear BK266
           clear HR270_1
           clear HR270_3
           clear BK271
           clear HB
           have HO_3 := n0_
           have HO_10 := n1_
           have HL270_1 := n2_
           have HL270_3 := n3_
           have HO280 := n4_
           have HO277 := n5_
           have BK265 := n6_
           have BK266 := n7_
           have HR270_1 := n8_
           have HR270_3 := n9_
           have BK271 := n10_
           have HB := n11_
           clear n0_ n1_ n2_ n3_ n4_ n5_ n6_ n7_ n8_ n9_ n10_ n11_
           (try clear hb)
           (try clear hb2)
           (try clear hk)
           (try clear hi)
           (try clear ho0)
           refine hK.out _ _ ⟨(blk_cell BK271.out 0).trans rfl, (blk_cell BK271.out 1).trans rfl, (blk_cell BK271.out 2).trans rfl, (blk_cell BK271.out 3).trans rfl⟩ (fun hHeld => ?_)
           clear hK K
           refine norm_ (a' := ?_) ?_ ?_
           rotate_left
           ·
            show Act.put _ (some 35) _ = _
            simp only [Act.put, List.setIfInBounds_toArray, List.set_cons_zero, List.set_cons_succ, i64_w, i32_w]
            rfl
           exact norm_ (by simp only [putAll, Act.put, List.setIfInBounds_toArray, List.set_cons_zero, List.set_cons_succ]) (hCont (v276, v279) _ ⟨hHeld, (Kd.V_go (Kd.V_mono HL270_1.out (fun _ hk => ⟨hk.2, ⟨hk.1.2, ⟨hk.1.1.1.2, ⟨hk.1.1.1.1.1, ⟨hk.1.1.1.1.2.1, ⟨hk.1.1.1.1.2.2, hk.1.1.2⟩⟩⟩⟩⟩⟩))), (Kd.V_go (Kd.V_mono HL270_3.out (fun _ hk => ⟨hk.2, ⟨hk.1.2, ⟨hk.1.1.1.2, ⟨hk.1.1.1.1.1, ⟨hk.1.1.1.1.2.1, ⟨hk.1.1.1.1.2.2, hk.1.1.2⟩⟩⟩⟩⟩⟩))), (Kd.N_go (Kd.N_mono HO277.out (fun _ hk => ⟨hk.2.2.1, ⟨hk.2.1, ⟨hk.1, ⟨hk.2.2.2.1, ⟨hk.2.2.2.2.1, hk.2.2.2.2.2⟩⟩⟩⟩⟩))), (Kd.N_go (Kd.N_mono HO280.out (fun _ hk => ⟨hk.2, ⟨hk.1.2.1, ⟨hk.1.1, ⟨hk.1.2.2.1, ⟨hk.1.2.2.2.1, hk.1.2.2.2.2⟩⟩⟩⟩⟩))), (Kd.N_go (Kd.N_mono HO_10.out (fun _ hk => ⟨hk.2, ⟨hk.1.2, ⟨hk.1.1.1.1, ⟨hk.1.1.1.2.1, ⟨hk.1.1.1.2.2, hk.1.1.2⟩⟩⟩⟩⟩))), (Kd.N_go (Kd.N_mono HO_3.out (fun _ hk => ⟨hk.2, ⟨hk.1.2, ⟨hk.1.1.1.1, ⟨hk.1.1.1.2.1, ⟨hk.1.1.1.2.2, hk.1.1.2⟩⟩⟩⟩⟩))), (blk_go BK265.out), (blk_go BK266.out), (blk_go BK271.out), (by repeat (first | (with_reducible first | exact HB.out | apply below_alloc | apply pw_below_drewN | apply below_drew1 | refine below_set ?_ GE265.out | refine below_set ?_ GE266.out | refine below_set ?_ GE271.out) | exact HB.out))⟩)
         ·
          rw [if_neg c19] at H
          exact absurd H (by simp)
        ·
         replace c17 := Bool.eq_false_iff.mpr c17
         subst c17
         have H1 : (style_Clean.l0 k1 x3_1 t267 (t267.length : Int) (wrap64 (x12_1 + 1))) = some (r1, r2) := by rw [if_neg (show ¬ (false = true) by decide)] at H; exact H
         clear H
         have H := H1
         clear H1
         have H' := Aside0.mk H
         clear H
         have p270 : 0 ≤ (x12_1 : Int) := of_decide_eq_true (by first | (with_reducible assumption) | assumption)
         have q270 : x12_1 < (t267.length : Int) := of_decide_eq_true (by first | (with_reducible assumption) | assumption)
         obtain ⟨ad270, A270_1, c270_1, A270_3, c270_3, e270, hx270_0, hx270_1, hx270_2, hx270_3, hl270_1, hi270_1, hl270_3, hi270_3⟩ := at_T32 (Kd.N_reads' HO_10.out).2.2 x12_1 p270 q270
         cases e270
         obtain ⟨ce270, hce270, hMe270, hcc270⟩ := Kd.N_get HO_10.out z32 x12_1 p270 (by first | exact q270 | exact of_decide_eq_true (by first | (with_reducible assumption) | assumption) | (have e_ := (Kd.N_reads' HO_10.out).1; omega))
         obtain ⟨ua270_1, uc270_1, ua270_3, uc270_3, rfl, ul270_1, ge270_1, ul270_3, ge270_3⟩ := k32_openF hMe270
         have hv270_1 := hcc270 1 _ rfl
         rw [add_field _ _ 1 (by omega)] at hv270_1
         replace hv270_1 := Option.some.inj (hv270_1.symm.trans hx270_1)
         injection hv270_1 with hva_ hvn_ hvc_
         rw [hva_] at ge270_1
         rw [hvc_] at ul270_1
         have HL270_1 := Aside0.mk (show Kd.V k56 56 _ w.heap.size _ _ ((rd_T32 t267 x12_1).f0.f1) from Kd.V_mk ul270_1 ge270_1)
         clear hva_ hvn_ hvc_ ge270_1 ul270_1
         have hv270_3 := hcc270 3 _ rfl
         rw [add_field _ _ 3 (by omega)] at hv270_3
         replace hv270_3 := Option.some.inj (hv270_3.symm.trans hx270_3)
         injection hv270_3 with hva_ hvn_ hvc_
         rw [hva_] at ge270_3
         rw [hvc_] at ul270_3
         have HL270_3 := Aside0.mk (show Kd.V k56 56 _ w.heap.size _ _ ((rd_T32 t267 x12_1).f1.f1) from Kd.V_mk ul270_3 ge270_3)
         clear hva_ hvn_ hvc_ ge270_3 ul270_3
         clear hcc270 hce270
         have HR270_1 := Aside0.mk hi270_1
         have HC270_1 := Aside0.mk hl270_1
         clear hi270_1 hl270_1
         have HR270_3 := Aside0.mk hi270_3
         have HC270_3 := Aside0.mk hl270_3
         clear hi270_3 hl270_3
         replace p270 := eq_true p270
         replace q270 := eq_true q270
         go_wp2_with (first | ((with_reducible refine gate_dst (N := 5) rfl ?_); refine box_event ?hg (N := 5) ?hd (cs := #[.string (⟨#[]⟩ : ByteArray), .slice none 0 0, .string (⟨#[]⟩ : ByteArray), .slice none 0 0]) (t := 32) ?hr ?_; (case hd => rfl); (case hg => rfl); (case hr => first | (go_simp; done) | (go_simp; rfl)); intro gb271 hg w35 hbox hb; have n0_ := Aside0.mk (Kd.N_below (Kd.N_elderB (by (with_reducible repeat (first | apply Kd.N_alloc | apply Kd.N_drewN | apply Kd.N_drew)); exact HO_3.out) gb271 (Nat.le_of_eq hg.symm)) hb); have n1_ := Aside0.mk (Kd.N_below (Kd.N_elderB (by (with_reducible repeat (first | apply Kd.N_alloc | apply Kd.N_drewN | apply Kd.N_drew)); exact HO_10.out) gb271 (Nat.le_of_eq hg.symm)) hb); have n2_ := Aside0.mk (Kd.V_below (Kd.V_elderB (by (with_reducible repeat (first | apply Kd.V_alloc | apply Kd.V_drewN | apply Kd.V_drew)); exact HL270_1.out) gb271 (Nat.le_of_eq hg.symm)) hb); have n3_ := Aside0.mk (Kd.V_below (Kd.V_elderB (by (with_reducible repeat (first | apply Kd.V_alloc | apply Kd.V_drewN | apply Kd.V_drew)); exact HL270_3.out) gb271 (Nat.le_of_eq hg.symm)) hb); have n4_ := Aside0.mk (blk_below (g := gb265) (o := .cells #[.string a0_0, .slice A0_1 l0_1.length c0_1] 24 (0, 0)) (by (with_reducible repeat (first | refine blk_drewN ?_ _ | refine blk_drew ?_ | refine blk_alloc ?_ _)); exact BK265.out) hb); have n5_ := Aside0.mk (blk_below (g := gb266) (o := .cells #[.string (⟨#[]⟩ : ByteArray), .slice none 0 0] 24 (0, 0)) (by (with_reducible repeat (first | refine blk_drewN ?_ _ | refine blk_drew ?_ | refine blk_alloc ?_ _)); exact BK266.out) hb); have n6_ := Aside0.mk (Kd.C_below (by repeat (first | (with_reducible exact HR270_1.out) | (with_reducible refine Kd.C_alloc ?_ _) | (with_reducible refine Kd.C_drewN ?_ _) | (with_reducible refine Kd.C_drew ?_) | exact HR270_1.out)) hb); have n7_ := Aside0.mk (Kd.C_below (by repeat (first | (with_reducible exact HR270_3.out) | (with_reducible refine Kd.C_alloc ?_ _) | (with_reducible refine Kd.C_drewN ?_ _) | (with_reducible refine Kd.C_drew ?_) | exact HR270_3.out)) hb); have n8_ := Aside0.mk (below_step (by repeat (first | (with_reducible first | exact HB.out | apply below_alloc | apply pw_below_drewN | apply below_drew1 | refine below_set ?_ GE265.out | refine below_set ?_ GE266.out) | exact HB.out)) hb); have n9_ := Aside0.mk (hbox); have n10_ := Aside0.mk ((by rw [hg]; exact (below_size (by repeat (first | (with_reducible first | exact HB.out | apply below_alloc | apply pw_below_drewN | apply below_drew1 | refine below_set ?_ GE265.out | refine below_set ?_ GE266.out) | exact HB.out))) : w.heap.size ≤ gb271)); have n11_ := Aside0.mk ((by rw [hg]; exact (below_size (by repeat (first | (with_reducible first | exact HB.out | apply below_alloc | apply pw_below_drewN | apply below_drew1 | refine below_set ?_ GE265.out | refine below_set ?_ GE266.out) | exact HB.out))) : w.heap.size ≤ gb271)); have n12_ := Aside0.mk ((by rw [hg]; exact Nat.ne_of_lt (blk_lt (g := gb265) (o := .cells #[.string a0_0, .slice A0_1 l0_1.length c0_1] 24 (0, 0)) (by (with_reducible repeat (first | refine blk_drewN ?_ _ | refine blk_drew ?_ | refine blk_alloc ?_ _)); exact BK265.out)) : gb265 ≠ gb271)); have n13_ := Aside0.mk ((by rw [hg]; exact Nat.ne_of_gt (blk_lt (g := gb265) (o := .cells #[.string a0_0, .slice A0_1 l0_1.length c0_1] 24 (0, 0)) (by (with_reducible repeat (first | refine blk_drewN ?_ _ | refine blk_drew ?_ | refine blk_alloc ?_ _)); exact BK265.out)) : gb271 ≠ gb265)); have n14_ := Aside0.mk ((by rw [hg]; exact Nat.ne_of_lt (blk_lt (g := gb266) (o := .cells #[.string (⟨#[]⟩ : ByteArray), .slice none 0 0] 24 (0, 0)) (by (with_reducible repeat (first | refine blk_drewN ?_ _ | refine blk_drew ?_ | refine blk_alloc ?_ _)); exact BK266.out)) : gb266 ≠ gb271)); have n15_ := Aside0.mk ((by rw [hg]; exact Nat.ne_of_gt (blk_lt (g := gb266) (o := .cells #[.string (⟨#[]⟩ : ByteArray), .slice none 0 0] 24 (0, 0)) (by (with_reducible repeat (first | refine blk_drewN ?_ _ | refine blk_drew ?_ | refine blk_alloc ?_ _)); exact BK266.out)) : gb271 ≠ gb266)); clear HO_3; clear HO_10; clear HL270_1; clear HL270_3; clear BK265; clear BK266; clear HR270_1; clear HR270_3; clear HB; have HO_3 := n0_; have HO_10 := n1_; have HL270_1 := n2_; have HL270_3 := n3_; have BK265 := n4_; have BK266 := n5_; have HR270_1 := n6_; have HR270_3 := n7_; have HB := n8_; have BK271 := n9_; have GW271 := n10_; have GE271 := n11_; have NB265_271 := n12_; have NB271_265 := n13_; have NB266_271 := n14_; have NB271_266 := n15_; clear n0_ n1_ n2_ n3_ n4_ n5_ n6_ n7_ n8_ n9_ n10_ n11_ n12_ n13_ n14_ n15_; clear hb hbox hg; have hnb36 := NB271_265.out; have hnc36 := NB265_271.out; have hnb37 := NB271_266.out; have hnc37 := NB266_271.out; have hcz38_0 : w35.cell? ⟨gb271, 0, none⟩ = some (.string (⟨#[]⟩ : ByteArray)) := (blk_cell BK271.out 0).trans rfl; have hcz38_1 : w35.cell? ⟨gb271, 1, none⟩ = some (.slice none 0 0) := (blk_cell BK271.out 1).trans rfl; have hcz38_2 : w35.cell? ⟨gb271, 2, none⟩ = some (.string (⟨#[]⟩ : ByteArray)) := (blk_cell BK271.out 2).trans rfl; have hcz38_3 : w35.cell? ⟨gb271, 3, none⟩ = some (.slice none 0 0) := (blk_cell BK271.out 3).trans rfl; have hfz38_0 := blk_frozen BK271.out 0; have hfz38_1 := blk_frozen BK271.out 1; have hfz38_2 := blk_frozen BK271.out 2; have hfz38_3 := blk_frozen BK271.out 3) | ((with_reducible refine gate_callee (f := 27) rfl ?_); refine goesL_ (some 19) rfl rfl Tryd.func27 (by kernel_rfl) rfl #[.string ((rd_T32 t267 x12_1).f0.f0)] rfl (by (try simp only [List.map_toArray, List.map_cons, List.map_nil]); first | done | rfl | (simp only [List.length_drop, List.length_take]; rfl)) ?_; (with_reducible refine (style_Known.calls ((rd_T32 t267 x12_1).f0.f0) true _ A12.out).mono ?_); rintro e w' ⟨rfl, ⟨nd, rfl⟩⟩; refine ⟨_, rfl, ?_⟩) | (go_at_call 12; (with_reducible refine (mark_Pure.calls k1 ((rd_T32 t267 x12_1).f0.f0) _ _ ((rd_T32 t267 x12_1).f0.f1) true _ ?side1 ?side2 A14.out).mono ?_); (case side1 => repeat (first | exact ((Kd.V_reads' (by (with_reducible repeat (first | apply Kd.V_alloc | apply Kd.V_drewN | apply Kd.V_drew)); exact (Kd.V_mono (Kd.V_far (p := ⟨gb271, 3, none⟩) (Kd.V_far (p := ⟨gb271, 2, none⟩) (Kd.V_far (p := ⟨gb271, 1, none⟩) (Kd.V_far (p := ⟨gb271, 0, none⟩) (Kd.V_mono HL270_1.out (fun k_ hk => (⟨hk, hk.2⟩ : _ ∧ k_ ≠ gb271))) (fun _ hk => hk.2) (.string ((rd_T32 t267 x12_1).f0.f0))) (fun _ hk => hk.2) (.slice A270_1 ((rd_T32 t267 x12_1).f0.f1).length c270_1)) (fun _ hk => hk.2) (.string ((rd_T32 t267 x12_1).f1.f0))) (fun _ hk => hk.2) (.slice A270_3 ((rd_T32 t267 x12_1).f1.f1).length c270_3)) (fun _ h_ => h_.1)))).2.2) | (with_reducible refine Kd.C_alloc ?_ _) | (with_reducible refine Kd.C_drewN ?_ _) | (with_reducible refine Kd.C_drew ?_))); (case side2 => exact HC270_1.out); rintro e w39 ⟨rfl, hb⟩; have n0_ := Aside0.mk (Kd.N_below (by (with_reducible repeat (first | apply Kd.N_alloc | apply Kd.N_drewN | apply Kd.N_drew)); exact (Kd.N_mono (Kd.N_far (p := ⟨gb271, 3, none⟩) (Kd.N_far (p := ⟨gb271, 2, none⟩) (Kd.N_far (p := ⟨gb271, 1, none⟩) (Kd.N_far (p := ⟨gb271, 0, none⟩) (Kd.N_mono HO_3.out (fun k_ hk => (⟨hk, hk.2⟩ : _ ∧ k_ ≠ gb271))) (fun _ hk => hk.2) (.string ((rd_T32 t267 x12_1).f0.f0))) (fun _ hk => hk.2) (.slice A270_1 ((rd_T32 t267 x12_1).f0.f1).length c270_1)) (fun _ hk => hk.2) (.string ((rd_T32 t267 x12_1).f1.f0))) (fun _ hk => hk.2) (.slice A270_3 ((rd_T32 t267 x12_1).f1.f1).length c270_3)) (fun _ h_ => h_.1))) hb); have n1_ := Aside0.mk (Kd.N_below (by (with_reducible repeat (first | apply Kd.N_alloc | apply Kd.N_drewN | apply Kd.N_drew)); exact (Kd.N_mono (Kd.N_far (p := ⟨gb271, 3, none⟩) (Kd.N_far (p := ⟨gb271, 2, none⟩) (Kd.N_far (p := ⟨gb271, 1, none⟩) (Kd.N_far (p := ⟨gb271, 0, none⟩) (Kd.N_mono HO_10.out (fun k_ hk => (⟨hk, hk.2⟩ : _ ∧ k_ ≠ gb271))) (fun _ hk => hk.2) (.string ((rd_T32 t267 x12_1).f0.f0))) (fun _ hk => hk.2) (.slice A270_1 ((rd_T32 t267 x12_1).f0.f1).length c270_1)) (fun _ hk => hk.2) (.string ((rd_T32 t267 x12_1).f1.f0))) (fun _ hk => hk.2) (.slice A270_3 ((rd_T32 t267 x12_1).f1.f1).length c270_3)) (fun _ h_ => h_.1))) hb); have n2_ := Aside0.mk (Kd.V_below (by (with_reducible repeat (first | apply Kd.V_alloc | apply Kd.V_drewN | apply Kd.V_drew)); exact (Kd.V_mono (Kd.V_far (p := ⟨gb271, 3, none⟩) (Kd.V_far (p := ⟨gb271, 2, none⟩) (Kd.V_far (p := ⟨gb271, 1, none⟩) (Kd.V_far (p := ⟨gb271, 0, none⟩) (Kd.V_mono HL270_1.out (fun k_ hk => (⟨hk, hk.2⟩ : _ ∧ k_ ≠ gb271))) (fun _ hk => hk.2) (.string ((rd_T32 t267 x12_1).f0.f0))) (fun _ hk => hk.2) (.slice A270_1 ((rd_T32 t267 x12_1).f0.f1).length c270_1)) (fun _ hk => hk.2) (.string ((rd_T32 t267 x12_1).f1.f0))) (fun _ hk => hk.2) (.slice A270_3 ((rd_T32 t267 x12_1).f1.f1).length c270_3)) (fun _ h_ => h_.1))) hb); have n3_ := Aside0.mk (Kd.V_below (by (with_reducible repeat (first | apply Kd.V_alloc | apply Kd.V_drewN | apply Kd.V_drew)); exact (Kd.V_mono (Kd.V_far (p := ⟨gb271, 3, none⟩) (Kd.V_far (p := ⟨gb271, 2, none⟩) (Kd.V_far (p := ⟨gb271, 1, none⟩) (Kd.V_far (p := ⟨gb271, 0, none⟩) (Kd.V_mono HL270_3.out (fun k_ hk => (⟨hk, hk.2⟩ : _ ∧ k_ ≠ gb271))) (fun _ hk => hk.2) (.string ((rd_T32 t267 x12_1).f0.f0))) (fun _ hk => hk.2) (.slice A270_1 ((rd_T32 t267 x12_1).f0.f1).length c270_1)) (fun _ hk => hk.2) (.string ((rd_T32 t267 x12_1).f1.f0))) (fun _ hk => hk.2) (.slice A270_3 ((rd_T32 t267 x12_1).f1.f1).length c270_3)) (fun _ h_ => h_.1))) hb); have n4_ := Aside0.mk (blk_below (g := gb265) (o := .cells #[.string a0_0, .slice A0_1 l0_1.length c0_1] 24 (0, 0)) (by (with_reducible repeat (first | refine blk_drewN ?_ _ | refine blk_drew ?_ | refine blk_alloc ?_ _)); refine blk_far ?_ NB265_271.out _; (with_reducible repeat (first | refine blk_drewN ?_ _ | refine blk_drew ?_ | refine blk_alloc ?_ _)); refine blk_far ?_ NB265_271.out _; (with_reducible repeat (first | refine blk_drewN ?_ _ | refine blk_drew ?_ | refine blk_alloc ?_ _)); refine blk_far ?_ NB265_271.out _; (with_reducible repeat (first | refine blk_drewN ?_ _ | refine blk_drew ?_ | refine blk_alloc ?_ _)); refine blk_far ?_ NB265_271.out _; (with_reducible repeat (first | refine blk_drewN ?_ _ | refine blk_drew ?_ | refine blk_alloc ?_ _)); exact BK265.out) hb); have n5_ := Aside0.mk (blk_below (g := gb266) (o := .cells #[.string (⟨#[]⟩ : ByteArray), .slice none 0 0] 24 (0, 0)) (by (with_reducible repeat (first | refine blk_drewN ?_ _ | refine blk_drew ?_ | refine blk_alloc ?_ _)); refine blk_far ?_ NB266_271.out _; (with_reducible repeat (first | refine blk_drewN ?_ _ | refine blk_drew ?_ | refine blk_alloc ?_ _)); refine blk_far ?_ NB266_271.out _; (with_reducible repeat (first | refine blk_drewN ?_ _ | refine blk_drew ?_ | refine blk_alloc ?_ _)); refine blk_far ?_ NB266_271.out _; (with_reducible repeat (first | refine blk_drewN ?_ _ | refine blk_drew ?_ | refine blk_alloc ?_ _)); refine blk_far ?_ NB266_271.out _; (with_reducible repeat (first | refine blk_drewN ?_ _ | refine blk_drew ?_ | refine blk_alloc ?_ _)); exact BK266.out) hb); have n6_ := Aside0.mk (Kd.C_below ((Kd.V_reads' (by (with_reducible repeat (first | apply Kd.V_alloc | apply Kd.V_drewN | apply Kd.V_drew)); exact (Kd.V_mono (Kd.V_far (p := ⟨gb271, 3, none⟩) (Kd.V_far (p := ⟨gb271, 2, none⟩) (Kd.V_far (p := ⟨gb271, 1, none⟩) (Kd.V_far (p := ⟨gb271, 0, none⟩) (Kd.V_mono HL270_1.out (fun k_ hk => (⟨hk, hk.2⟩ : _ ∧ k_ ≠ gb271))) (fun _ hk => hk.2) (.string ((rd_T32 t267 x12_1).f0.f0))) (fun _ hk => hk.2) (.slice A270_1 ((rd_T32 t267 x12_1).f0.f1).length c270_1)) (fun _ hk => hk.2) (.string ((rd_T32 t267 x12_1).f1.f0))) (fun _ hk => hk.2) (.slice A270_3 ((rd_T32 t267 x12_1).f1.f1).length c270_3)) (fun _ h_ => h_.1)))).2.2) hb); have n7_ := Aside0.mk (Kd.C_below ((Kd.V_reads' (by (with_reducible repeat (first | apply Kd.V_alloc | apply Kd.V_drewN | apply Kd.V_drew)); exact (Kd.V_mono (Kd.V_far (p := ⟨gb271, 3, none⟩) (Kd.V_far (p := ⟨gb271, 2, none⟩) (Kd.V_far (p := ⟨gb271, 1, none⟩) (Kd.V_far (p := ⟨gb271, 0, none⟩) (Kd.V_mono HL270_3.out (fun k_ hk => (⟨hk, hk.2⟩ : _ ∧ k_ ≠ gb271))) (fun _ hk => hk.2) (.string ((rd_T32 t267 x12_1).f0.f0))) (fun _ hk => hk.2) (.slice A270_1 ((rd_T32 t267 x12_1).f0.f1).length c270_1)) (fun _ hk => hk.2) (.string ((rd_T32 t267 x12_1).f1.f0))) (fun _ hk => hk.2) (.slice A270_3 ((rd_T32 t267 x12_1).f1.f1).length c270_3)) (fun _ h_ => h_.1)))).2.2) hb); have n8_ := Aside0.mk (blk_below (g := gb271) (o := .cells #[.string ((rd_T32 t267 x12_1).f0.f0), .slice A270_1 ((rd_T32 t267 x12_1).f0.f1).length c270_1, .string ((rd_T32 t267 x12_1).f1.f0), .slice A270_3 ((rd_T32 t267 x12_1).f1.f1).length c270_3] 32 (0, 0)) (by (with_reducible repeat (first | refine blk_drewN ?_ _ | refine blk_drew ?_ | refine blk_alloc ?_ _)); refine blk_put (cs := #[.string ((rd_T32 t267 x12_1).f0.f0), .slice A270_1 ((rd_T32 t267 x12_1).f0.f1).length c270_1, .string ((rd_T32 t267 x12_1).f1.f0), .slice none 0 0]) ?_ 3 _ rfl; (with_reducible repeat (first | refine blk_drewN ?_ _ | refine blk_drew ?_ | refine blk_alloc ?_ _)); refine blk_put (cs := #[.string ((rd_T32 t267 x12_1).f0.f0), .slice A270_1 ((rd_T32 t267 x12_1).f0.f1).length c270_1, .string (⟨#[]⟩ : ByteArray), .slice none 0 0]) ?_ 2 _ rfl; (with_reducible repeat (first | refine blk_drewN ?_ _ | refine blk_drew ?_ | refine blk_alloc ?_ _)); refine blk_put (cs := #[.string ((rd_T32 t267 x12_1).f0.f0), .slice none 0 0, .string (⟨#[]⟩ : ByteArray), .slice none 0 0]) ?_ 1 _ rfl; (with_reducible repeat (first | refine blk_drewN ?_ _ | refine blk_drew ?_ | refine blk_alloc ?_ _)); refine blk_put (cs := #[.string (⟨#[]⟩ : ByteArray), .slice none 0 0, .string (⟨#[]⟩ : ByteArray), .slice none 0 0]) ?_ 0 _ rfl; (with_reducible repeat (first | refine blk_drewN ?_ _ | refine blk_drew ?_ | refine blk_alloc ?_ _)); exact BK271.out) hb); have n9_ := Aside0.mk (below_step (by repeat (first | (with_reducible first | exact HB.out | apply below_alloc | apply pw_below_drewN | apply below_drew1 | refine below_set ?_ GE265.out | refine below_set ?_ GE266.out | refine below_set ?_ GE271.out) | exact HB.out)) hb); clear HO_3; clear HO_10; clear HL270_1; clear HL270_3; clear BK265; clear BK266; clear HR270_1; clear HR270_3; clear BK271; clear HB; have HO_3 := n0_; have HO_10 := n1_; have HL270_1 := n2_; have HL270_3 := n3_; have BK265 := n4_; have BK266 := n5_; have HR270_1 := n6_; have HR270_3 := n7_; have BK271 := n8_; have HB := n9_; clear n0_ n1_ n2_ n3_ n4_ n5_ n6_ n7_ n8_ n9_; (try clear hb); (try clear hb2); (try clear hk); (try clear hi); have hcz40_0 : w39.cell? ⟨gb271, 0, none⟩ = some (.string ((rd_T32 t267 x12_1).f0.f0)) := (blk_cell BK271.out 0).trans rfl; have hcz40_1 : w39.cell? ⟨gb271, 1, none⟩ = some (.slice A270_1 ((rd_T32 t267 x12_1).f0.f1).length c270_1) := (blk_cell BK271.out 1).trans rfl; have hcz40_2 : w39.cell? ⟨gb271, 2, none⟩ = some (.string ((rd_T32 t267 x12_1).f1.f0)) := (blk_cell BK271.out 2).trans rfl; have hcz40_3 : w39.cell? ⟨gb271, 3, none⟩ = some (.slice A270_3 ((rd_T32 t267 x12_1).f1.f1).length c270_3) := (blk_cell BK271.out 3).trans rfl; have hfz40_0 := blk_frozen BK271.out 0; have hfz40_1 := blk_frozen BK271.out 1; have hfz40_2 := blk_frozen BK271.out 2; have hfz40_3 := blk_frozen BK271.out 3) | (go_at_call 28; (with_reducible refine (style_Plain.calls ((rd_T32 t267 x12_1).f1.f0) false _ A16.out).mono ?_); rintro e w41 ⟨rfl, hb⟩; have n0_ := Aside0.mk (Kd.N_below (by (with_reducible repeat (first | apply Kd.N_alloc | apply Kd.N_drewN | apply Kd.N_drew)); exact HO_3.out) hb); have n1_ := Aside0.mk (Kd.N_below (by (with_reducible repeat (first | apply Kd.N_alloc | apply Kd.N_drewN | apply Kd.N_drew)); exact HO_10.out) hb); have n2_ := Aside0.mk (Kd.V_below (by (with_reducible repeat (first | apply Kd.V_alloc | apply Kd.V_drewN | apply Kd.V_drew)); exact HL270_1.out) hb); have n3_ := Aside0.mk (Kd.V_below (by (with_reducible repeat (first | apply Kd.V_alloc | apply Kd.V_drewN | apply Kd.V_drew)); exact HL270_3.out) hb); have n4_ := Aside0.mk (blk_below (g := gb265) (o := .cells #[.string a0_0, .slice A0_1 l0_1.length c0_1] 24 (0, 0)) (by (with_reducible repeat (first | refine blk_drewN ?_ _ | refine blk_drew ?_ | refine blk_alloc ?_ _)); exact BK265.out) hb); have n5_ := Aside0.mk (blk_below (g := gb266) (o := .cells #[.string (⟨#[]⟩ : ByteArray), .slice none 0 0] 24 (0, 0)) (by (with_reducible repeat (first | refine blk_drewN ?_ _ | refine blk_drew ?_ | refine blk_alloc ?_ _)); exact BK266.out) hb); have n6_ := Aside0.mk (Kd.C_below (by repeat (first | (with_reducible exact HR270_1.out) | (with_reducible refine Kd.C_alloc ?_ _) | (with_reducible refine Kd.C_drewN ?_ _) | (with_reducible refine Kd.C_drew ?_) | exact HR270_1.out)) hb); have n7_ := Aside0.mk (Kd.C_below (by repeat (first | (with_reducible exact HR270_3.out) | (with_reducible refine Kd.C_alloc ?_ _) | (with_reducible refine Kd.C_drewN ?_ _) | (with_reducible refine Kd.C_drew ?_) | exact HR270_3.out)) hb); have n8_ := Aside0.mk (blk_below (g := gb271) (o := .cells #[.string ((rd_T32 t267 x12_1).f0.f0), .slice A270_1 ((rd_T32 t267 x12_1).f0.f1).length c270_1, .string ((rd_T32 t267 x12_1).f1.f0), .slice A270_3 ((rd_T32 t267 x12_1).f1.f1).length c270_3] 32 (0, 0)) (by (with_reducible repeat (first | refine blk_drewN ?_ _ | refine blk_drew ?_ | refine blk_alloc ?_ _)); exact BK271.out) hb); have n9_ := Aside0.mk (below_step (by repeat (first | (with_reducible first | exact HB.out | apply below_alloc | apply pw_below_drewN | apply below_drew1 | refine below_set ?_ GE265.out | refine below_set ?_ GE266.out | refine below_set ?_ GE271.out) | exact HB.out)) hb); clear HO_3; clear HO_10; clear HL270_1; clear HL270_3; clear BK265; clear BK266; clear HR270_1; clear HR270_3; clear BK271; clear HB; have HO_3 := n0_; have HO_10 := n1_; have HL270_1 := n2_; have HL270_3 := n3_; have BK265 := n4_; have BK266 := n5_; have HR270_1 := n6_; have HR270_3 := n7_; have BK271 := n8_; have HB := n9_; clear n0_ n1_ n2_ n3_ n4_ n5_ n6_ n7_ n8_ n9_; (try clear hb); (try clear hb2); (try clear hk); (try clear hi)))
         go_roundg k1
         case measure => have := HK1.out; omega
         case rel => exact ⟨(x3_1), (wrap64 (x12_1 + 1)), (by first | rfl | (simp; done) | (simp [*]; done)), H', ⟨by have := HK1.out; omega⟩, ⟨by (with_reducible repeat (first | apply Kd.N_alloc | apply Kd.N_drewN | apply Kd.N_drew)); exact Kd.N_mono HO_3.out (fun _ hk => ⟨hk.1.1, ⟨hk.1.2.1, hk.1.2.2⟩⟩)⟩, ⟨by (with_reducible repeat (first | apply Kd.N_alloc | apply Kd.N_drewN | apply Kd.N_drew)); exact Kd.N_mono HO_10.out (fun _ hk => ⟨hk.1.1, ⟨hk.1.2.1, hk.1.2.2⟩⟩)⟩, ⟨by (with_reducible repeat (first | refine blk_drewN ?_ _ | refine blk_drew ?_ | refine blk_alloc ?_ _)); exact BK265.out⟩, ⟨by (with_reducible repeat (first | refine blk_drewN ?_ _ | refine blk_drew ?_ | refine blk_alloc ?_ _)); exact BK266.out⟩, ⟨by repeat (first | (with_reducible first | exact HB.out | apply below_alloc | apply pw_below_drewN | apply below_drew1 | refine below_set ?_ GE265.out | refine below_set ?_ GE266.out | refine below_set ?_ GE271.out) | exact HB.out)⟩⟩
       ·
        replace c15 := Bool.eq_false_iff.mpr c15
        subst c15
        have H1 : (style_Clean.l0 k1 x3_1 t267 (t267.length : Int) (wrap64 (x12_1 + 1))) = some (r1, r2) := by rw [if_neg (show ¬ (false = true) by decide)] at H; exact H
        clear H
        have H := H1
        clear H1
        have H' := Aside0.mk H
        clear H
        have p270 : 0 ≤ (x12_1 : Int) := of_decide_eq_true (by first | (with_reducible assumption) | assumption)
        have q270 : x12_1 < (t267.length : Int) := of_decide_eq_true (by first | (with_reducible assumption) | assumption)
        obtain ⟨ad270, A270_1, c270_1, A270_3, c270_3, e270, hx270_0, hx270_1, hx270_2, hx270_3, hl270_1, hi270_1, hl270_3, hi270_3⟩ := at_T32 (Kd.N_reads' HO_10.out).2.2 x12_1 p270 q270
        cases e270
        obtain ⟨ce270, hce270, hMe270, hcc270⟩ := Kd.N_get HO_10.out z32 x12_1 p270 (by first | exact q270 | exact of_decide_eq_true (by first | (with_reducible assumption) | assumption) | (have e_ := (Kd.N_reads' HO_10.out).1; omega))
        obtain ⟨ua270_1, uc270_1, ua270_3, uc270_3, rfl, ul270_1, ge270_1, ul270_3, ge270_3⟩ := k32_openF hMe270
        have hv270_1 := hcc270 1 _ rfl
        rw [add_field _ _ 1 (by omega)] at hv270_1
        replace hv270_1 := Option.some.inj (hv270_1.symm.trans hx270_1)
        injection hv270_1 with hva_ hvn_ hvc_
        rw [hva_] at ge270_1
        rw [hvc_] at ul270_1
        have HL270_1 := Aside0.mk (show Kd.V k56 56 _ w.heap.size _ _ ((rd_T32 t267 x12_1).f0.f1) from Kd.V_mk ul270_1 ge270_1)
        clear hva_ hvn_ hvc_ ge270_1 ul270_1
        have hv270_3 := hcc270 3 _ rfl
        rw [add_field _ _ 3 (by omega)] at hv270_3
        replace hv270_3 := Option.some.inj (hv270_3.symm.trans hx270_3)
        injection hv270_3 with hva_ hvn_ hvc_
        rw [hva_] at ge270_3
        rw [hvc_] at ul270_3
        have HL270_3 := Aside0.mk (show Kd.V k56 56 _ w.heap.size _ _ ((rd_T32 t267 x12_1).f1.f1) from Kd.V_mk ul270_3 ge270_3)
        clear hva_ hvn_ hvc_ ge270_3 ul270_3
        clear hcc270 hce270
        have HR270_1 := Aside0.mk hi270_1
        have HC270_1 := Aside0.mk hl270_1
        clear hi270_1 hl270_1
        have HR270_3 := Aside0.mk hi270_3
        have HC270_3 := Aside0.mk hl270_3
        clear hi270_3 hl270_3
        replace p270 := eq_true p270
        replace q270 := eq_true q270
        go_wp2_with (first | ((with_reducible refine gate_dst (N := 5) rfl ?_); refine box_event ?hg (N := 5) ?hd (cs := #[.string (⟨#[]⟩ : ByteArray), .slice none 0 0, .string (⟨#[]⟩ : ByteArray), .slice none 0 0]) (t := 32) ?hr ?_; (case hd => rfl); (case hg => rfl); (case hr => first | (go_simp; done) | (go_simp; rfl)); intro gb271 hg w42 hbox hb; have n0_ := Aside0.mk (Kd.N_below (Kd.N_elderB (by (with_reducible repeat (first | apply Kd.N_alloc | apply Kd.N_drewN | apply Kd.N_drew)); exact HO_3.out) gb271 (Nat.le_of_eq hg.symm)) hb); have n1_ := Aside0.mk (Kd.N_below (Kd.N_elderB (by (with_reducible repeat (first | apply Kd.N_alloc | apply Kd.N_drewN | apply Kd.N_drew)); exact HO_10.out) gb271 (Nat.le_of_eq hg.symm)) hb); have n2_ := Aside0.mk (Kd.V_below (Kd.V_elderB (by (with_reducible repeat (first | apply Kd.V_alloc | apply Kd.V_drewN | apply Kd.V_drew)); exact HL270_1.out) gb271 (Nat.le_of_eq hg.symm)) hb); have n3_ := Aside0.mk (Kd.V_below (Kd.V_elderB (by (with_reducible repeat (first | apply Kd.V_alloc | apply Kd.V_drewN | apply Kd.V_drew)); exact HL270_3.out) gb271 (Nat.le_of_eq hg.symm)) hb); have n4_ := Aside0.mk (blk_below (g := gb265) (o := .cells #[.string a0_0, .slice A0_1 l0_1.length c0_1] 24 (0, 0)) (by (with_reducible repeat (first | refine blk_drewN ?_ _ | refine blk_drew ?_ | refine blk_alloc ?_ _)); exact BK265.out) hb); have n5_ := Aside0.mk (blk_below (g := gb266) (o := .cells #[.string (⟨#[]⟩ : ByteArray), .slice none 0 0] 24 (0, 0)) (by (with_reducible repeat (first | refine blk_drewN ?_ _ | refine blk_drew ?_ | refine blk_alloc ?_ _)); exact BK266.out) hb); have n6_ := Aside0.mk (Kd.C_below (by repeat (first | (with_reducible exact HR270_1.out) | (with_reducible refine Kd.C_alloc ?_ _) | (with_reducible refine Kd.C_drewN ?_ _) | (with_reducible refine Kd.C_drew ?_) | exact HR270_1.out)) hb); have n7_ := Aside0.mk (Kd.C_below (by repeat (first | (with_reducible exact HR270_3.out) | (with_reducible refine Kd.C_alloc ?_ _) | (with_reducible refine Kd.C_drewN ?_ _) | (with_reducible refine Kd.C_drew ?_) | exact HR270_3.out)) hb); have n8_ := Aside0.mk (below_step (by repeat (first | (with_reducible first | exact HB.out | apply below_alloc | apply pw_below_drewN | apply below_drew1 | refine below_set ?_ GE265.out | refine below_set ?_ GE266.out) | exact HB.out)) hb); have n9_ := Aside0.mk (hbox); have n10_ := Aside0.mk ((by rw [hg]; exact (below_size (by repeat (first | (with_reducible first | exact HB.out | apply below_alloc | apply pw_below_drewN | apply below_drew1 | refine below_set ?_ GE265.out | refine below_set ?_ GE266.out) | exact HB.out))) : w.heap.size ≤ gb271)); have n11_ := Aside0.mk ((by rw [hg]; exact (below_size (by repeat (first | (with_reducible first | exact HB.out | apply below_alloc | apply pw_below_drewN | apply below_drew1 | refine below_set ?_ GE265.out | refine below_set ?_ GE266.out) | exact HB.out))) : w.heap.size ≤ gb271)); have n12_ := Aside0.mk ((by rw [hg]; exact Nat.ne_of_lt (blk_lt (g := gb265) (o := .cells #[.string a0_0, .slice A0_1 l0_1.length c0_1] 24 (0, 0)) (by (with_reducible repeat (first | refine blk_drewN ?_ _ | refine blk_drew ?_ | refine blk_alloc ?_ _)); exact BK265.out)) : gb265 ≠ gb271)); have n13_ := Aside0.mk ((by rw [hg]; exact Nat.ne_of_gt (blk_lt (g := gb265) (o := .cells #[.string a0_0, .slice A0_1 l0_1.length c0_1] 24 (0, 0)) (by (with_reducible repeat (first | refine blk_drewN ?_ _ | refine blk_drew ?_ | refine blk_alloc ?_ _)); exact BK265.out)) : gb271 ≠ gb265)); have n14_ := Aside0.mk ((by rw [hg]; exact Nat.ne_of_lt (blk_lt (g := gb266) (o := .cells #[.string (⟨#[]⟩ : ByteArray), .slice none 0 0] 24 (0, 0)) (by (with_reducible repeat (first | refine blk_drewN ?_ _ | refine blk_drew ?_ | refine blk_alloc ?_ _)); exact BK266.out)) : gb266 ≠ gb271)); have n15_ := Aside0.mk ((by rw [hg]; exact Nat.ne_of_gt (blk_lt (g := gb266) (o := .cells #[.string (⟨#[]⟩ : ByteArray), .slice none 0 0] 24 (0, 0)) (by (with_reducible repeat (first | refine blk_drewN ?_ _ | refine blk_drew ?_ | refine blk_alloc ?_ _)); exact BK266.out)) : gb271 ≠ gb266)); clear HO_3; clear HO_10; clear HL270_1; clear HL270_3; clear BK265; clear BK266; clear HR270_1; clear HR270_3; clear HB; have HO_3 := n0_; have HO_10 := n1_; have HL270_1 := n2_; have HL270_3 := n3_; have BK265 := n4_; have BK266 := n5_; have HR270_1 := n6_; have HR270_3 := n7_; have HB := n8_; have BK271 := n9_; have GW271 := n10_; have GE271 := n11_; have NB265_271 := n12_; have NB271_265 := n13_; have NB266_271 := n14_; have NB271_266 := n15_; clear n0_ n1_ n2_ n3_ n4_ n5_ n6_ n7_ n8_ n9_ n10_ n11_ n12_ n13_ n14_ n15_; clear hb hbox hg; have hnb43 := NB271_265.out; have hnc43 := NB265_271.out; have hnb44 := NB271_266.out; have hnc44 := NB266_271.out; have hcz45_0 : w42.cell? ⟨gb271, 0, none⟩ = some (.string (⟨#[]⟩ : ByteArray)) := (blk_cell BK271.out 0).trans rfl; have hcz45_1 : w42.cell? ⟨gb271, 1, none⟩ = some (.slice none 0 0) := (blk_cell BK271.out 1).trans rfl; have hcz45_2 : w42.cell? ⟨gb271, 2, none⟩ = some (.string (⟨#[]⟩ : ByteArray)) := (blk_cell BK271.out 2).trans rfl; have hcz45_3 : w42.cell? ⟨gb271, 3, none⟩ = some (.slice none 0 0) := (blk_cell BK271.out 3).trans rfl; have hfz45_0 := blk_frozen BK271.out 0; have hfz45_1 := blk_frozen BK271.out 1; have hfz45_2 := blk_frozen BK271.out 2; have hfz45_3 := blk_frozen BK271.out 3) | ((with_reducible refine gate_callee (f := 27) rfl ?_); refine goesL_ (some 19) rfl rfl Tryd.func27 (by kernel_rfl) rfl #[.string ((rd_T32 t267 x12_1).f0.f0)] rfl (by (try simp only [List.map_toArray, List.map_cons, List.map_nil]); first | done | rfl | (simp only [List.length_drop, List.length_take]; rfl)) ?_; (with_reducible refine (style_Known.calls ((rd_T32 t267 x12_1).f0.f0) true _ A12.out).mono ?_); rintro e w' ⟨rfl, ⟨nd, rfl⟩⟩; refine ⟨_, rfl, ?_⟩) | (go_at_call 12; (with_reducible refine (mark_Pure.calls k1 ((rd_T32 t267 x12_1).f0.f0) _ _ ((rd_T32 t267 x12_1).f0.f1) false _ ?side1 ?side2 A14.out).mono ?_); (case side1 => repeat (first | exact ((Kd.V_reads' (by (with_reducible repeat (first | apply Kd.V_alloc | apply Kd.V_drewN | apply Kd.V_drew)); exact (Kd.V_mono (Kd.V_far (p := ⟨gb271, 3, none⟩) (Kd.V_far (p := ⟨gb271, 2, none⟩) (Kd.V_far (p := ⟨gb271, 1, none⟩) (Kd.V_far (p := ⟨gb271, 0, none⟩) (Kd.V_mono HL270_1.out (fun k_ hk => (⟨hk, hk.2⟩ : _ ∧ k_ ≠ gb271))) (fun _ hk => hk.2) (.string ((rd_T32 t267 x12_1).f0.f0))) (fun _ hk => hk.2) (.slice A270_1 ((rd_T32 t267 x12_1).f0.f1).length c270_1)) (fun _ hk => hk.2) (.string ((rd_T32 t267 x12_1).f1.f0))) (fun _ hk => hk.2) (.slice A270_3 ((rd_T32 t267 x12_1).f1.f1).length c270_3)) (fun _ h_ => h_.1)))).2.2) | (with_reducible refine Kd.C_alloc ?_ _) | (with_reducible refine Kd.C_drewN ?_ _) | (with_reducible refine Kd.C_drew ?_))); (case side2 => exact HC270_1.out); rintro e w46 ⟨rfl, hb⟩; have n0_ := Aside0.mk (Kd.N_below (by (with_reducible repeat (first | apply Kd.N_alloc | apply Kd.N_drewN | apply Kd.N_drew)); exact (Kd.N_mono (Kd.N_far (p := ⟨gb271, 3, none⟩) (Kd.N_far (p := ⟨gb271, 2, none⟩) (Kd.N_far (p := ⟨gb271, 1, none⟩) (Kd.N_far (p := ⟨gb271, 0, none⟩) (Kd.N_mono HO_3.out (fun k_ hk => (⟨hk, hk.2⟩ : _ ∧ k_ ≠ gb271))) (fun _ hk => hk.2) (.string ((rd_T32 t267 x12_1).f0.f0))) (fun _ hk => hk.2) (.slice A270_1 ((rd_T32 t267 x12_1).f0.f1).length c270_1)) (fun _ hk => hk.2) (.string ((rd_T32 t267 x12_1).f1.f0))) (fun _ hk => hk.2) (.slice A270_3 ((rd_T32 t267 x12_1).f1.f1).length c270_3)) (fun _ h_ => h_.1))) hb); have n1_ := Aside0.mk (Kd.N_below (by (with_reducible repeat (first | apply Kd.N_alloc | apply Kd.N_drewN | apply Kd.N_drew)); exact (Kd.N_mono (Kd.N_far (p := ⟨gb271, 3, none⟩) (Kd.N_far (p := ⟨gb271, 2, none⟩) (Kd.N_far (p := ⟨gb271, 1, none⟩) (Kd.N_far (p := ⟨gb271, 0, none⟩) (Kd.N_mono HO_10.out (fun k_ hk => (⟨hk, hk.2⟩ : _ ∧ k_ ≠ gb271))) (fun _ hk => hk.2) (.string ((rd_T32 t267 x12_1).f0.f0))) (fun _ hk => hk.2) (.slice A270_1 ((rd_T32 t267 x12_1).f0.f1).length c270_1)) (fun _ hk => hk.2) (.string ((rd_T32 t267 x12_1).f1.f0))) (fun _ hk => hk.2) (.slice A270_3 ((rd_T32 t267 x12_1).f1.f1).length c270_3)) (fun _ h_ => h_.1))) hb); have n2_ := Aside0.mk (Kd.V_below (by (with_reducible repeat (first | apply Kd.V_alloc | apply Kd.V_drewN | apply Kd.V_drew)); exact (Kd.V_mono (Kd.V_far (p := ⟨gb271, 3, none⟩) (Kd.V_far (p := ⟨gb271, 2, none⟩) (Kd.V_far (p := ⟨gb271, 1, none⟩) (Kd.V_far (p := ⟨gb271, 0, none⟩) (Kd.V_mono HL270_1.out (fun k_ hk => (⟨hk, hk.2⟩ : _ ∧ k_ ≠ gb271))) (fun _ hk => hk.2) (.string ((rd_T32 t267 x12_1).f0.f0))) (fun _ hk => hk.2) (.slice A270_1 ((rd_T32 t267 x12_1).f0.f1).length c270_1)) (fun _ hk => hk.2) (.string ((rd_T32 t267 x12_1).f1.f0))) (fun _ hk => hk.2) (.slice A270_3 ((rd_T32 t267 x12_1).f1.f1).length c270_3)) (fun _ h_ => h_.1))) hb); have n3_ := Aside0.mk (Kd.V_below (by (with_reducible repeat (first | apply Kd.V_alloc | apply Kd.V_drewN | apply Kd.V_drew)); exact (Kd.V_mono (Kd.V_far (p := ⟨gb271, 3, none⟩) (Kd.V_far (p := ⟨gb271, 2, none⟩) (Kd.V_far (p := ⟨gb271, 1, none⟩) (Kd.V_far (p := ⟨gb271, 0, none⟩) (Kd.V_mono HL270_3.out (fun k_ hk => (⟨hk, hk.2⟩ : _ ∧ k_ ≠ gb271))) (fun _ hk => hk.2) (.string ((rd_T32 t267 x12_1).f0.f0))) (fun _ hk => hk.2) (.slice A270_1 ((rd_T32 t267 x12_1).f0.f1).length c270_1)) (fun _ hk => hk.2) (.string ((rd_T32 t267 x12_1).f1.f0))) (fun _ hk => hk.2) (.slice A270_3 ((rd_T32 t267 x12_1).f1.f1).length c270_3)) (fun _ h_ => h_.1))) hb); have n4_ := Aside0.mk (blk_below (g := gb265) (o := .cells #[.string a0_0, .slice A0_1 l0_1.length c0_1] 24 (0, 0)) (by (with_reducible repeat (first | refine blk_drewN ?_ _ | refine blk_drew ?_ | refine blk_alloc ?_ _)); refine blk_far ?_ NB265_271.out _; (with_reducible repeat (first | refine blk_drewN ?_ _ | refine blk_drew ?_ | refine blk_alloc ?_ _)); refine blk_far ?_ NB265_271.out _; (with_reducible repeat (first | refine blk_drewN ?_ _ | refine blk_drew ?_ | refine blk_alloc ?_ _)); refine blk_far ?_ NB265_271.out _; (with_reducible repeat (first | refine blk_drewN ?_ _ | refine blk_drew ?_ | refine blk_alloc ?_ _)); refine blk_far ?_ NB265_271.out _; (with_reducible repeat (first | refine blk_drewN ?_ _ | refine blk_drew ?_ | refine blk_alloc ?_ _)); exact BK265.out) hb); have n5_ := Aside0.mk (blk_below (g := gb266) (o := .cells #[.string (⟨#[]⟩ : ByteArray), .slice none 0 0] 24 (0, 0)) (by (with_reducible repeat (first | refine blk_drewN ?_ _ | refine blk_drew ?_ | refine blk_alloc ?_ _)); refine blk_far ?_ NB266_271.out _; (with_reducible repeat (first | refine blk_drewN ?_ _ | refine blk_drew ?_ | refine blk_alloc ?_ _)); refine blk_far ?_ NB266_271.out _; (with_reducible repeat (first | refine blk_drewN ?_ _ | refine blk_drew ?_ | refine blk_alloc ?_ _)); refine blk_far ?_ NB266_271.out _; (with_reducible repeat (first | refine blk_drewN ?_ _ | refine blk_drew ?_ | refine blk_alloc ?_ _)); refine blk_far ?_ NB266_271.out _; (with_reducible repeat (first | refine blk_drewN ?_ _ | refine blk_drew ?_ | refine blk_alloc ?_ _)); exact BK266.out) hb); have n6_ := Aside0.mk (Kd.C_below ((Kd.V_reads' (by (with_reducible repeat (first | apply Kd.V_alloc | apply Kd.V_drewN | apply Kd.V_drew)); exact (Kd.V_mono (Kd.V_far (p := ⟨gb271, 3, none⟩) (Kd.V_far (p := ⟨gb271, 2, none⟩) (Kd.V_far (p := ⟨gb271, 1, none⟩) (Kd.V_far (p := ⟨gb271, 0, none⟩) (Kd.V_mono HL270_1.out (fun k_ hk => (⟨hk, hk.2⟩ : _ ∧ k_ ≠ gb271))) (fun _ hk => hk.2) (.string ((rd_T32 t267 x12_1).f0.f0))) (fun _ hk => hk.2) (.slice A270_1 ((rd_T32 t267 x12_1).f0.f1).length c270_1)) (fun _ hk => hk.2) (.string ((rd_T32 t267 x12_1).f1.f0))) (fun _ hk => hk.2) (.slice A270_3 ((rd_T32 t267 x12_1).f1.f1).length c270_3)) (fun _ h_ => h_.1)))).2.2) hb); have n7_ := Aside0.mk (Kd.C_below ((Kd.V_reads' (by (with_reducible repeat (first | apply Kd.V_alloc | apply Kd.V_drewN | apply Kd.V_drew)); exact (Kd.V_mono (Kd.V_far (p := ⟨gb271, 3, none⟩) (Kd.V_far (p := ⟨gb271, 2, none⟩) (Kd.V_far (p := ⟨gb271, 1, none⟩) (Kd.V_far (p := ⟨gb271, 0, none⟩) (Kd.V_mono HL270_3.out (fun k_ hk => (⟨hk, hk.2⟩ : _ ∧ k_ ≠ gb271))) (fun _ hk => hk.2) (.string ((rd_T32 t267 x12_1).f0.f0))) (fun _ hk => hk.2) (.slice A270_1 ((rd_T32 t267 x12_1).f0.f1).length c270_1)) (fun _ hk => hk.2) (.string ((rd_T32 t267 x12_1).f1.f0))) (fun _ hk => hk.2) (.slice A270_3 ((rd_T32 t267 x12_1).f1.f1).length c270_3)) (fun _ h_ => h_.1)))).2.2) hb); have n8_ := Aside0.mk (blk_below (g := gb271) (o := .cells #[.string ((rd_T32 t267 x12_1).f0.f0), .slice A270_1 ((rd_T32 t267 x12_1).f0.f1).length c270_1, .string ((rd_T32 t267 x12_1).f1.f0), .slice A270_3 ((rd_T32 t267 x12_1).f1.f1).length c270_3] 32 (0, 0)) (by (with_reducible repeat (first | refine blk_drewN ?_ _ | refine blk_drew ?_ | refine blk_alloc ?_ _)); refine blk_put (cs := #[.string ((rd_T32 t267 x12_1).f0.f0), .slice A270_1 ((rd_T32 t267 x12_1).f0.f1).length c270_1, .string ((rd_T32 t267 x12_1).f1.f0), .slice none 0 0]) ?_ 3 _ rfl; (with_reducible repeat (first | refine blk_drewN ?_ _ | refine blk_drew ?_ | refine blk_alloc ?_ _)); refine blk_put (cs := #[.string ((rd_T32 t267 x12_1).f0.f0), .slice A270_1 ((rd_T32 t267 x12_1).f0.f1).length c270_1, .string (⟨#[]⟩ : ByteArray), .slice none 0 0]) ?_ 2 _ rfl; (with_reducible repeat (first | refine blk_drewN ?_ _ | refine blk_drew ?_ | refine blk_alloc ?_ _)); refine blk_put (cs := #[.string ((rd_T32 t267 x12_1).f0.f0), .slice none 0 0, .string (⟨#[]⟩ : ByteArray), .slice none 0 0]) ?_ 1 _ rfl; (with_reducible repeat (first | refine blk_drewN ?_ _ | refine blk_drew ?_ | refine blk_alloc ?_ _)); refine blk_put (cs := #[.string (⟨#[]⟩ : ByteArray), .slice none 0 0, .string (⟨#[]⟩ : ByteArray), .slice none 0 0]) ?_ 0 _ rfl; (with_reducible repeat (first | refine blk_drewN ?_ _ | refine blk_drew ?_ | refine blk_alloc ?_ _)); exact BK271.out) hb); have n9_ := Aside0.mk (below_step (by repeat (first | (with_reducible first | exact HB.out | apply below_alloc | apply pw_below_drewN | apply below_drew1 | refine below_set ?_ GE265.out | refine below_set ?_ GE266.out | refine below_set ?_ GE271.out) | exact HB.out)) hb); clear HO_3; clear HO_10; clear HL270_1; clear HL270_3; clear BK265; clear BK266; clear HR270_1; clear HR270_3; clear BK271; clear HB; have HO_3 := n0_; have HO_10 := n1_; have HL270_1 := n2_; have HL270_3 := n3_; have BK265 := n4_; have BK266 := n5_; have HR270_1 := n6_; have HR270_3 := n7_; have BK271 := n8_; have HB := n9_; clear n0_ n1_ n2_ n3_ n4_ n5_ n6_ n7_ n8_ n9_; (try clear hb); (try clear hb2); (try clear hk); (try clear hi)))
        go_roundg k1
        case measure => have := HK1.out; omega
        case rel => exact ⟨(x3_1), (wrap64 (x12_1 + 1)), (by first | rfl | (simp; done) | (simp [*]; done)), H', ⟨by have := HK1.out; omega⟩, ⟨by (with_reducible repeat (first | apply Kd.N_alloc | apply Kd.N_drewN | apply Kd.N_drew)); exact Kd.N_mono HO_3.out (fun _ hk => ⟨hk.1.1, ⟨hk.1.2.1, hk.1.2.2⟩⟩)⟩, ⟨by (with_reducible repeat (first | apply Kd.N_alloc | apply Kd.N_drewN | apply Kd.N_drew)); exact Kd.N_mono HO_10.out (fun _ hk => ⟨hk.1.1, ⟨hk.1.2.1, hk.1.2.2⟩⟩)⟩, ⟨by (with_reducible repeat (first | refine blk_drewN ?_ _ | refine blk_drew ?_ | refine blk_alloc ?_ _)); exact BK265.out⟩, ⟨by (with_reducible repeat (first | refine blk_drewN ?_ _ | refine blk_drew ?_ | refine blk_alloc ?_ _)); exact BK266.out⟩, ⟨by repeat (first | (with_reducible first | exact HB.out | apply below_alloc | apply pw_below_drewN | apply below_drew1 | refine below_set ?_ GE265.out | refine below_set ?_ GE266.out | refine below_set ?_ GE271.out) | exact HB.out)⟩⟩
      ·
       replace c13 := Bool.eq_false_iff.mpr c13
       subst c13
       have H1 : (style_Clean.l0 k1 x3_1 t267 (t267.length : Int) (wrap64 (x12_1 + 1))) = some (r1, r2) := by rw [if_neg (show ¬ (false = true) by decide)] at H; exact H
       clear H
       have H := H1
       clear H1
       have H' := Aside0.mk H
       clear H
       have p270 : 0 ≤ (x12_1 : Int) := of_decide_eq_true (by first | (with_reducible assumption) | assumption)
       have q270 : x12_1 < (t267.length : Int) := of_decide_eq_true (by first | (with_reducible assumption) | assumption)
       obtain ⟨ad270, A270_1, c270_1, A270_3, c270_3, e270, hx270_0, hx270_1, hx270_2, hx270_3, hl270_1, hi270_1, hl270_3, hi270_3⟩ := at_T32 (Kd.N_reads' HO_10.out).2.2 x12_1 p270 q270
       cases e270
       obtain ⟨ce270, hce270, hMe270, hcc270⟩ := Kd.N_get HO_10.out z32 x12_1 p270 (by first | exact q270 | exact of_decide_eq_true (by first | (with_reducible assumption) | assumption) | (have e_ := (Kd.N_reads' HO_10.out).1; omega))
       obtain ⟨ua270_1, uc270_1, ua270_3, uc270_3, rfl, ul270_1, ge270_1, ul270_3, ge270_3⟩ := k32_openF hMe270
       have hv270_1 := hcc270 1 _ rfl
       rw [add_field _ _ 1 (by omega)] at hv270_1
       replace hv270_1 := Option.some.inj (hv270_1.symm.trans hx270_1)
       injection hv270_1 with hva_ hvn_ hvc_
       rw [hva_] at ge270_1
       rw [hvc_] at ul270_1
       have HL270_1 := Aside0.mk (show Kd.V k56 56 _ w.heap.size _ _ ((rd_T32 t267 x12_1).f0.f1) from Kd.V_mk ul270_1 ge270_1)
       clear hva_ hvn_ hvc_ ge270_1 ul270_1
       have hv270_3 := hcc270 3 _ rfl
       rw [add_field _ _ 3 (by omega)] at hv270_3
       replace hv270_3 := Option.some.inj (hv270_3.symm.trans hx270_3)
       injection hv270_3 with hva_ hvn_ hvc_
       rw [hva_] at ge270_3
       rw [hvc_] at ul270_3
       have HL270_3 := Aside0.mk (show Kd.V k56 56 _ w.heap.size _ _ ((rd_T32 t267 x12_1).f1.f1) from Kd.V_mk ul270_3 ge270_3)
       clear hva_ hvn_ hvc_ ge270_3 ul270_3
       clear hcc270 hce270
       have HR270_1 := Aside0.mk hi270_1
       have HC270_1 := Aside0.mk hl270_1
       clear hi270_1 hl270_1
       have HR270_3 := Aside0.mk hi270_3
       have HC270_3 := Aside0.mk hl270_3
       clear hi270_3 hl270_3
       replace p270 := eq_true p270
       replace q270 := eq_true q270
       go_wp2_with (first | ((with_reducible refine gate_dst (N := 5) rfl ?_); refine box_event ?hg (N := 5) ?hd (cs := #[.string (⟨#[]⟩ : ByteArray), .slice none 0 0, .string (⟨#[]⟩ : ByteArray), .slice none 0 0]) (t := 32) ?hr ?_; (case hd => rfl); (case hg => rfl); (case hr => first | (go_simp; done) | (go_simp; rfl)); intro gb271 hg w47 hbox hb; have n0_ := Aside0.mk (Kd.N_below (Kd.N_elderB (by (with_reducible repeat (first | apply Kd.N_alloc | apply Kd.N_drewN | apply Kd.N_drew)); exact HO_3.out) gb271 (Nat.le_of_eq hg.symm)) hb); have n1_ := Aside0.mk (Kd.N_below (Kd.N_elderB (by (with_reducible repeat (first | apply Kd.N_alloc | apply Kd.N_drewN | apply Kd.N_drew)); exact HO_10.out) gb271 (Nat.le_of_eq hg.symm)) hb); have n2_ := Aside0.mk (Kd.V_below (Kd.V_elderB (by (with_reducible repeat (first | apply Kd.V_alloc | apply Kd.V_drewN | apply Kd.V_drew)); exact HL270_1.out) gb271 (Nat.le_of_eq hg.symm)) hb); have n3_ := Aside0.mk (Kd.V_below (Kd.V_elderB (by (with_reducible repeat (first | apply Kd.V_alloc | apply Kd.V_drewN | apply Kd.V_drew)); exact HL270_3.out) gb271 (Nat.le_of_eq hg.symm)) hb); have n4_ := Aside0.mk (blk_below (g := gb265) (o := .cells #[.string a0_0, .slice A0_1 l0_1.length c0_1] 24 (0, 0)) (by (with_reducible repeat (first | refine blk_drewN ?_ _ | refine blk_drew ?_ | refine blk_alloc ?_ _)); exact BK265.out) hb); have n5_ := Aside0.mk (blk_below (g := gb266) (o := .cells #[.string (⟨#[]⟩ : ByteArray), .slice none 0 0] 24 (0, 0)) (by (with_reducible repeat (first | refine blk_drewN ?_ _ | refine blk_drew ?_ | refine blk_alloc ?_ _)); exact BK266.out) hb); have n6_ := Aside0.mk (Kd.C_below (by repeat (first | (with_reducible exact HR270_1.out) | (with_reducible refine Kd.C_alloc ?_ _) | (with_reducible refine Kd.C_drewN ?_ _) | (with_reducible refine Kd.C_drew ?_) | exact HR270_1.out)) hb); have n7_ := Aside0.mk (Kd.C_below (by repeat (first | (with_reducible exact HR270_3.out) | (with_reducible refine Kd.C_alloc ?_ _) | (with_reducible refine Kd.C_drewN ?_ _) | (with_reducible refine Kd.C_drew ?_) | exact HR270_3.out)) hb); have n8_ := Aside0.mk (below_step (by repeat (first | (with_reducible first | exact HB.out | apply below_alloc | apply pw_below_drewN | apply below_drew1 | refine below_set ?_ GE265.out | refine below_set ?_ GE266.out) | exact HB.out)) hb); have n9_ := Aside0.mk (hbox); have n10_ := Aside0.mk ((by rw [hg]; exact (below_size (by repeat (first | (with_reducible first | exact HB.out | apply below_alloc | apply pw_below_drewN | apply below_drew1 | refine below_set ?_ GE265.out | refine below_set ?_ GE266.out) | exact HB.out))) : w.heap.size ≤ gb271)); have n11_ := Aside0.mk ((by rw [hg]; exact (below_size (by repeat (first | (with_reducible first | exact HB.out | apply below_alloc | apply pw_below_drewN | apply below_drew1 | refine below_set ?_ GE265.out | refine below_set ?_ GE266.out) | exact HB.out))) : w.heap.size ≤ gb271)); have n12_ := Aside0.mk ((by rw [hg]; exact Nat.ne_of_lt (blk_lt (g := gb265) (o := .cells #[.string a0_0, .slice A0_1 l0_1.length c0_1] 24 (0, 0)) (by (with_reducible repeat (first | refine blk_drewN ?_ _ | refine blk_drew ?_ | refine blk_alloc ?_ _)); exact BK265.out)) : gb265 ≠ gb271)); have n13_ := Aside0.mk ((by rw [hg]; exact Nat.ne_of_gt (blk_lt (g := gb265) (o := .cells #[.string a0_0, .slice A0_1 l0_1.length c0_1] 24 (0, 0)) (by (with_reducible repeat (first | refine blk_drewN ?_ _ | refine blk_drew ?_ | refine blk_alloc ?_ _)); exact BK265.out)) : gb271 ≠ gb265)); have n14_ := Aside0.mk ((by rw [hg]; exact Nat.ne_of_lt (blk_lt (g := gb266) (o := .cells #[.string (⟨#[]⟩ : ByteArray), .slice none 0 0] 24 (0, 0)) (by (with_reducible repeat (first | refine blk_drewN ?_ _ | refine blk_drew ?_ | refine blk_alloc ?_ _)); exact BK266.out)) : gb266 ≠ gb271)); have n15_ := Aside0.mk ((by rw [hg]; exact Nat.ne_of_gt (blk_lt (g := gb266) (o := .cells #[.string (⟨#[]⟩ : ByteArray), .slice none 0 0] 24 (0, 0)) (by (with_reducible repeat (first | refine blk_drewN ?_ _ | refine blk_drew ?_ | refine blk_alloc ?_ _)); exact BK266.out)) : gb271 ≠ gb266)); clear HO_3; clear HO_10; clear HL270_1; clear HL270_3; clear BK265; clear BK266; clear HR270_1; clear HR270_3; clear HB; have HO_3 := n0_; have HO_10 := n1_; have HL270_1 := n2_; have HL270_3 := n3_; have BK265 := n4_; have BK266 := n5_; have HR270_1 := n6_; have HR270_3 := n7_; have HB := n8_; have BK271 := n9_; have GW271 := n10_; have GE271 := n11_; have NB265_271 := n12_; have NB271_265 := n13_; have NB266_271 := n14_; have NB271_266 := n15_; clear n0_ n1_ n2_ n3_ n4_ n5_ n6_ n7_ n8_ n9_ n10_ n11_ n12_ n13_ n14_ n15_; clear hb hbox hg; have hnb48 := NB271_265.out; have hnc48 := NB265_271.out; have hnb49 := NB271_266.out; have hnc49 := NB266_271.out; have hcz50_0 : w47.cell? ⟨gb271, 0, none⟩ = some (.string (⟨#[]⟩ : ByteArray)) := (blk_cell BK271.out 0).trans rfl; have hcz50_1 : w47.cell? ⟨gb271, 1, none⟩ = some (.slice none 0 0) := (blk_cell BK271.out 1).trans rfl; have hcz50_2 : w47.cell? ⟨gb271, 2, none⟩ = some (.string (⟨#[]⟩ : ByteArray)) := (blk_cell BK271.out 2).trans rfl; have hcz50_3 : w47.cell? ⟨gb271, 3, none⟩ = some (.slice none 0 0) := (blk_cell BK271.out 3).trans rfl; have hfz50_0 := blk_frozen BK271.out 0; have hfz50_1 := blk_frozen BK271.out 1; have hfz50_2 := blk_frozen BK271.out 2; have hfz50_3 := blk_frozen BK271.out 3) | ((with_reducible refine gate_callee (f := 27) rfl ?_); refine goesL_ (some 19) rfl rfl Tryd.func27 (by kernel_rfl) rfl #[.string ((rd_T32 t267 x12_1).f0.f0)] rfl (by (try simp only [List.map_toArray, List.map_cons, List.map_nil]); first | done | rfl | (simp only [List.length_drop, List.length_take]; rfl)) ?_; (with_reducible refine (style_Known.calls ((rd_T32 t267 x12_1).f0.f0) false _ A12.out).mono ?_); rintro e w' ⟨rfl, ⟨nd, rfl⟩⟩; refine ⟨_, rfl, ?_⟩))
       go_roundg k1
       case measure => have := HK1.out; omega
       case rel => exact ⟨(x3_1), (wrap64 (x12_1 + 1)), (by first | rfl | (simp; done) | (simp [*]; done)), H', ⟨by have := HK1.out; omega⟩, ⟨by (with_reducible repeat (first | apply Kd.N_alloc | apply Kd.N_drewN | apply Kd.N_drew)); exact Kd.N_mono (Kd.N_far (p := ⟨gb271, 3, none⟩) (Kd.N_far (p := ⟨gb271, 2, none⟩) (Kd.N_far (p := ⟨gb271, 1, none⟩) (Kd.N_far (p := ⟨gb271, 0, none⟩) (Kd.N_mono HO_3.out (fun k_ hk => (⟨hk, hk.2⟩ : _ ∧ k_ ≠ gb271))) (fun _ hk => hk.2) (.string ((rd_T32 t267 x12_1).f0.f0))) (fun _ hk => hk.2) (.slice A270_1 ((rd_T32 t267 x12_1).f0.f1).length c270_1)) (fun _ hk => hk.2) (.string ((rd_T32 t267 x12_1).f1.f0))) (fun _ hk => hk.2) (.slice A270_3 ((rd_T32 t267 x12_1).f1.f1).length c270_3)) (fun _ hk => ⟨hk.1.1.1, ⟨hk.1.1.2.1, hk.1.1.2.2⟩⟩)⟩, ⟨by (with_reducible repeat (first | apply Kd.N_alloc | apply Kd.N_drewN | apply Kd.N_drew)); exact Kd.N_mono (Kd.N_far (p := ⟨gb271, 3, none⟩) (Kd.N_far (p := ⟨gb271, 2, none⟩) (Kd.N_far (p := ⟨gb271, 1, none⟩) (Kd.N_far (p := ⟨gb271, 0, none⟩) (Kd.N_mono HO_10.out (fun k_ hk => (⟨hk, hk.2⟩ : _ ∧ k_ ≠ gb271))) (fun _ hk => hk.2) (.string ((rd_T32 t267 x12_1).f0.f0))) (fun _ hk => hk.2) (.slice A270_1 ((rd_T32 t267 x12_1).f0.f1).length c270_1)) (fun _ hk => hk.2) (.string ((rd_T32 t267 x12_1).f1.f0))) (fun _ hk => hk.2) (.slice A270_3 ((rd_T32 t267 x12_1).f1.f1).length c270_3)) (fun _ hk => ⟨hk.1.1.1, ⟨hk.1.1.2.1, hk.1.1.2.2⟩⟩)⟩, ⟨by (with_reducible repeat (first | refine blk_drewN ?_ _ | refine blk_drew ?_ | refine blk_alloc ?_ _)); refine blk_far ?_ NB265_271.out _; (with_reducible repeat (first | refine blk_drewN ?_ _ | refine blk_drew ?_ | refine blk_alloc ?_ _)); refine blk_far ?_ NB265_271.out _; (with_reducible repeat (first | refine blk_drewN ?_ _ | refine blk_drew ?_ | refine blk_alloc ?_ _)); refine blk_far ?_ NB265_271.out _; (with_reducible repeat (first | refine blk_drewN ?_ _ | refine blk_drew ?_ | refine blk_alloc ?_ _)); refine blk_far ?_ NB265_271.out _; (with_reducible repeat (first | refine blk_drewN ?_ _ | refine blk_drew ?_ | refine blk_alloc ?_ _)); exact BK265.out⟩, ⟨by (with_reducible repeat (first | refine blk_drewN ?_ _ | refine blk_drew ?_ | refine blk_alloc ?_ _)); refine blk_far ?_ NB266_271.out _; (with_reducible repeat (first | refine blk_drewN ?_ _ | refine blk_drew ?_ | refine blk_alloc ?_ _)); refine blk_far ?_ NB266_271.out _; (with_reducible repeat (first | refine blk_drewN ?_ _ | refine blk_drew ?_ | refine blk_alloc ?_ _)); refine blk_far ?_ NB266_271.out _; (with_reducible repeat (first | refine blk_drewN ?_ _ | refine blk_drew ?_ | refine blk_alloc ?_ _)); refine blk_far ?_ NB266_271.out _; (with_reducible repeat (first | refine blk_drewN ?_ _ | refine blk_drew ?_ | refine blk_alloc ?_ _)); exact BK266.out⟩, ⟨by repeat (first | (with_reducible first | exact HB.out | apply below_alloc | apply pw_below_drewN | apply below_drew1 | refine below_set ?_ GE265.out | refine below_set ?_ GE266.out | refine below_set ?_ GE271.out) | exact HB.out)⟩⟩
     ·
      rw [if_neg c11] at H
      exact absurd H (by simp)
    ·
     rw [if_neg c10] at H
     exact absurd H (by simp)
   ·
    rw [if_neg c9] at H
    have c9b0 : decide (x12_1 < (t267.length : Int)) = false := decide_eq_false c9
    clear c9
    have H' := Aside0.mk H
    clear H
    obtain ⟨Ao51, co51, eo51⟩ := Kd.N_slice HO_3.out
    subst eo51
    go_wp2
    go_loopg [6, 42] k1 (fun kq v6 v42 w' => ∃ (x6_2 : List (S24)) (x42_2 : Int), v42 = .int .i64 x42_2 ∧ Aside0 (style_Clean.l1 kq x6_2 x3_1 (x3_1.length : Int) x42_2 = some (r1, r2)) ∧ Aside0 (kq ≤ k1) ∧ Aside0 (Kd.N k24 24 w' w.heap.size (fun k_ => some k_ ≠ ((.slice Ao51 x3_1.length co51) : Value).ownBlock ∧ k_ ≠ gb265 ∧ k_ ≠ gb266) v6 x6_2) ∧ Aside0 (Kd.N k32 32 w' w.heap.size (fun k_ => some k_ ≠ (v6 : Value).ownBlock ∧ k_ ≠ gb265 ∧ k_ ≠ gb266) (.slice Ao51 x3_1.length co51) x3_1) ∧ Aside0 (w'.heap[gb265]? = some (.cells #[.string a0_0, (.slice A0_1 l0_1.length c0_1)] 24 (0, 0))) ∧ Aside0 (w'.heap[gb266]? = some (.cells #[.string (⟨#[]⟩ : ByteArray), (.slice none 0 0)] 24 (0, 0))) ∧ Aside0 (Below w.heap.size w w'))
    case atStart => exact ⟨(([] : List (S24))), (0), (by first | rfl | (simp; done) | (simp [*]; done)), H', ⟨Nat.le_refl _⟩, ⟨by first | exact Kd.S_nil _ _ _ _ _ | exact Kd.N_nil _ _ _ _ _ | exact Kd.V_nil _ _ _ _ _ | exact Kd.Q_nil _ _ _ _ _ | exact Kd.R_nil _ _ _ _ _⟩, ⟨by (with_reducible repeat (first | apply Kd.N_alloc | apply Kd.N_drewN | apply Kd.N_drew)); exact Kd.N_mono HO_3.out (fun _ hk => ⟨(by simp [Value.ownBlock]), ⟨hk.2.1, hk.2.2⟩⟩)⟩, ⟨by (with_reducible repeat (first | refine blk_drewN ?_ _ | refine blk_drew ?_ | refine blk_alloc ?_ _)); exact BK265.out⟩, ⟨by (with_reducible repeat (first | refine blk_drewN ?_ _ | refine blk_drew ?_ | refine blk_alloc ?_ _)); exact BK266.out⟩, ⟨by repeat (first | (with_reducible first | exact HB.out | apply below_alloc | apply pw_below_drewN | apply below_drew1 | refine below_set ?_ GE265.out | refine below_set ?_ GE266.out) | exact HB.out)⟩⟩
    case round =>
     clear H'
     try clear c1
     try clear c2
     try clear p2
     try clear q2
     try clear hx2
     try clear c3
     try clear c4
     try clear p6
     try clear c9
     try clear c9b0
     try clear c10
     try clear c11
     try clear c13
     try clear c15
     try clear c17
     try clear c19
     try clear c21
     try clear c22
     try clear c27
     try clear p27
     try clear q27
     try clear hx27
     try clear c29
     try clear c36
     try clear c37
     try clear c43
     try clear c44
     try clear c48
     try clear c49
     try clear hcz23_0
     try clear hcz23_1
     try clear hcz23_2
     try clear hcz23_3
     try clear hcz25_0
     try clear hcz25_1
     try clear hcz25_2
     try clear hcz25_3
     try clear hcz38_0
     try clear hcz38_1
     try clear hcz38_2
     try clear hcz38_3
     try clear hcz40_0
     try clear hcz40_1
     try clear hcz40_2
     try clear hcz40_3
     try clear hcz45_0
     try clear hcz45_1
     try clear hcz45_2
     try clear hcz45_3
     try clear hcz50_0
     try clear hcz50_1
     try clear hcz50_2
     try clear hcz50_3
     try clear hfz23_0
     try clear hfz23_1
     try clear hfz23_2
     try clear hfz23_3
     try clear hfz25_0
     try clear hfz25_1
     try clear hfz25_2
     try clear hfz25_3
     try clear hfz38_0
     try clear hfz38_1
     try clear hfz38_2
     try clear hfz38_3
     try clear hfz40_0
     try clear hfz40_1
     try clear hfz40_2
     try clear hfz40_3
     try clear hfz45_0
     try clear hfz45_1
     try clear hfz45_2
     try clear hfz45_3
     try clear hfz50_0
     try clear hfz50_1
     try clear hfz50_2
     try clear hfz50_3
     try clear hx270_0
     try clear hx270_1
     try clear hx270_2
     try clear hx270_3
     try clear p270
     try clear q270
     obtain ⟨x6_2, x42_2, rfl, HA, HK2, HO_6, HO_40, BK265, BK266, HB⟩ := hrel
     cases gk with
     | zero => exact absurd HA.out (by simp [style_Clean.l1])
     | succ k2 =>
      have H := HA.out
      clear HA
      simp only [style_Clean.l1] at H
      by_cases c52 : x42_2 < (x3_1.length : Int)
      ·
       rw [if_pos c52] at H
       have c52b0 : decide (x42_2 < (x3_1.length : Int)) = true := decide_eq_true c52
       clear c52
       by_cases c53 : 0 ≤ x42_2
       ·
        rw [if_pos c53] at H
        have c53b0 : decide (0 ≤ x42_2) = true := decide_eq_true c53
        clear c53
        by_cases c54 : x42_2 < (x3_1.length : Int)
        ·
         rw [if_pos c54] at H
         have c54b0 : decide (x42_2 < (x3_1.length : Int)) = true := decide_eq_true c54
         clear c54
         replace H := Option.bind_eq_some_iff.mp H
         obtain ⟨⟨t286, t287⟩, A550, H⟩ := H
         replace H : ((mark_Cat.f k2 (([(⟨(rd_T32 x3_1 x42_2).f0.f0, (rd_T32 x3_1 x42_2).f0.f1⟩ : S24), (⟨t286, t287⟩ : S24), (⟨(rd_T32 x3_1 x42_2).f1.f0, (rd_T32 x3_1 x42_2).f1.f1⟩ : S24)] : List (S24)))).bind fun bt293 => ((some (([(⟨bt293.1, bt293.2⟩ : S24)] : List (S24)) : List (S24))).bind fun y297 => (if x6_2.length + y297.length < 3518437208883 then (style_Clean.l1 k2 (x6_2 ++ y297) x3_1 (x3_1.length : Int) (wrap64 (x42_2 + 1))) else (none)))) = some (r1, r2) := H
         have A55 := Aside0.mk A550
         clear A550
         obtain ⟨y290, hy290⟩ : ∃ y_ : List (S24), y_ = (([(⟨(rd_T32 x3_1 x42_2).f0.f0, (rd_T32 x3_1 x42_2).f0.f1⟩ : S24), (⟨t286, t287⟩ : S24), (⟨(rd_T32 x3_1 x42_2).f1.f0, (rd_T32 x3_1 x42_2).f1.f1⟩ : S24)] : List (S24))) := ⟨_, rfl⟩
         replace H : ((mark_Cat.f k2 y290).bind fun bt293 => ((some (([(⟨bt293.1, bt293.2⟩ : S24)] : List (S24)) : List (S24))).bind fun y297 => (if x6_2.length + y297.length < 3518437208883 then (style_Clean.l1 k2 (x6_2 ++ y297) x3_1 (x3_1.length : Int) (wrap64 (x42_2 + 1))) else (none)))) = some (r1, r2) := by first | (rw [hy290]; with_reducible exact H) | (have H2_ := (Option.bind_some _ _).symm.trans H; rw [hy290]; with_reducible exact H2_) | (have H2_ := (Option.bind_some _ _).symm.trans H; with_reducible exact H2_) | with_reducible exact H | (rw [hy290]; exact H) | exact H
         have Ny290 := Aside0.mk hy290
         clear hy290
         replace H := Option.bind_eq_some_iff.mp H
         obtain ⟨⟨t293, t294⟩, A560, H⟩ := H
         replace H : ((some (([(⟨t293, t294⟩ : S24)] : List (S24)) : List (S24))).bind fun y297 => (if x6_2.length + y297.length < 3518437208883 then (style_Clean.l1 k2 (x6_2 ++ y297) x3_1 (x3_1.length : Int) (wrap64 (x42_2 + 1))) else (none))) = some (r1, r2) := H
         have A56 := Aside0.mk A560
         clear A560
         obtain ⟨y297, hy297⟩ : ∃ y_ : List (S24), y_ = (([(⟨t293, t294⟩ : S24)] : List (S24))) := ⟨_, rfl⟩
         replace H : (if x6_2.length + y297.length < 3518437208883 then (style_Clean.l1 k2 (x6_2 ++ y297) x3_1 (x3_1.length : Int) (wrap64 (x42_2 + 1))) else (none)) = some (r1, r2) := by first | (rw [hy297]; with_reducible exact H) | (have H2_ := (Option.bind_some _ _).symm.trans H; rw [hy297]; with_reducible exact H2_) | (have H2_ := (Option.bind_some _ _).symm.trans H; with_reducible exact H2_) | with_reducible exact H | (rw [hy297]; exact H) | exact H
         have Ny297 := Aside0.mk hy297
         clear hy297
         by_cases c57 : x6_2.length + y297.length < 3518437208883
         ·
          rw [if_pos c57] at H
          have LMc57 := Aside0.mk c57
          clear c57
          obtain ⟨y300, hy300⟩ : ∃ y_ : List (S24), y_ = (x6_2 ++ y297) := ⟨_, rfl⟩
          replace H : (style_Clean.l1 k2 y300 x3_1 (x3_1.length : Int) (wrap64 (x42_2 + 1))) = some (r1, r2) := by first | (rw [hy300]; with_reducible exact H) | (have H2_ := (Option.bind_some _ _).symm.trans H; rw [hy300]; with_reducible exact H2_) | (have H2_ := (Option.bind_some _ _).symm.trans H; with_reducible exact H2_) | with_reducible exact H | (rw [hy300]; exact H) | exact H
          have Ny300 := Aside0.mk hy300
          clear hy300
          have H' := Aside0.mk H
          clear H
          have p284 : 0 ≤ (x42_2 : Int) := of_decide_eq_true (by first | (with_reducible assumption) | assumption)
          have q284 : x42_2 < (x3_1.length : Int) := of_decide_eq_true (by first | (with_reducible assumption) | assumption)
          obtain ⟨ad284, A284_1, c284_1, A284_3, c284_3, e284, hx284_0, hx284_1, hx284_2, hx284_3, hl284_1, hi284_1, hl284_3, hi284_3⟩ := at_T32 (Kd.N_reads' HO_40.out).2.2 x42_2 p284 q284
          cases e284
          obtain ⟨ce284, hce284, hMe284, hcc284⟩ := Kd.N_get HO_40.out z32 x42_2 p284 (by first | exact q284 | exact of_decide_eq_true (by first | (with_reducible assumption) | assumption) | (have e_ := (Kd.N_reads' HO_40.out).1; omega))
          obtain ⟨ua284_1, uc284_1, ua284_3, uc284_3, rfl, ul284_1, ge284_1, ul284_3, ge284_3⟩ := k32_openF hMe284
          have hv284_1 := hcc284 1 _ rfl
          rw [add_field _ _ 1 (by omega)] at hv284_1
          replace hv284_1 := Option.some.inj (hv284_1.symm.trans hx284_1)
          injection hv284_1 with hva_ hvn_ hvc_
          rw [hva_] at ge284_1
          rw [hvc_] at ul284_1
          have HL284_1 := Aside0.mk (show Kd.V k56 56 _ w.heap.size _ _ ((rd_T32 x3_1 x42_2).f0.f1) from Kd.V_mk ul284_1 ge284_1)
          clear hva_ hvn_ hvc_ ge284_1 ul284_1
          have hv284_3 := hcc284 3 _ rfl
          rw [add_field _ _ 3 (by omega)] at hv284_3
          replace hv284_3 := Option.some.inj (hv284_3.symm.trans hx284_3)
          injection hv284_3 with hva_ hvn_ hvc_
          rw [hva_] at ge284_3
          rw [hvc_] at ul284_3
          have HL284_3 := Aside0.mk (show Kd.V k56 56 _ w.heap.size _ _ ((rd_T32 x3_1 x42_2).f1.f1) from Kd.V_mk ul284_3 ge284_3)
          clear hva_ hvn_ hvc_ ge284_3 ul284_3
          clear hcc284 hce284
          have HR284_1 := Aside0.mk hi284_1
          have HC284_1 := Aside0.mk hl284_1
          clear hi284_1 hl284_1
          have HR284_3 := Aside0.mk hi284_3
          have HC284_3 := Aside0.mk hl284_3
          clear hi284_3 hl284_3
          replace p284 := eq_true p284
          replace q284 := eq_true q284
          try go_wp2_with (first | ((with_reducible refine gate_dst (N := 8) rfl ?_); refine box_event ?hg (N := 8) ?hd (cs := #[.string (⟨#[]⟩ : ByteArray), .slice none 0 0, .string (⟨#[]⟩ : ByteArray), .slice none 0 0]) (t := 32) ?hr ?_; (case hd => rfl); (case hg => rfl); (case hr => first | (go_simp; done) | (go_simp; rfl)); intro gb285 hg w58 hbox hb; have n0_ := Aside0.mk (Kd.N_below (Kd.N_elderB (by (with_reducible repeat (first | apply Kd.N_alloc | apply Kd.N_drewN | apply Kd.N_drew)); exact HO_6.out) gb285 (Nat.le_of_eq hg.symm)) hb); have n1_ := Aside0.mk (Kd.N_below (Kd.N_elderB (by (with_reducible repeat (first | apply Kd.N_alloc | apply Kd.N_drewN | apply Kd.N_drew)); exact HO_40.out) gb285 (Nat.le_of_eq hg.symm)) hb); have n2_ := Aside0.mk (Kd.V_below (Kd.V_elderB (by (with_reducible repeat (first | apply Kd.V_alloc | apply Kd.V_drewN | apply Kd.V_drew)); exact HL284_1.out) gb285 (Nat.le_of_eq hg.symm)) hb); have n3_ := Aside0.mk (Kd.V_below (Kd.V_elderB (by (with_reducible repeat (first | apply Kd.V_alloc | apply Kd.V_drewN | apply Kd.V_drew)); exact HL284_3.out) gb285 (Nat.le_of_eq hg.symm)) hb); have n4_ := Aside0.mk (blk_below (g := gb265) (o := .cells #[.string a0_0, .slice A0_1 l0_1.length c0_1] 24 (0, 0)) (by (with_reducible repeat (first | refine blk_drewN ?_ _ | refine blk_drew ?_ | refine blk_alloc ?_ _)); exact BK265.out) hb); have n5_ := Aside0.mk (blk_below (g := gb266) (o := .cells #[.string (⟨#[]⟩ : ByteArray), .slice none 0 0] 24 (0, 0)) (by (with_reducible repeat (first | refine blk_drewN ?_ _ | refine blk_drew ?_ | refine blk_alloc ?_ _)); exact BK266.out) hb); have n6_ := Aside0.mk (Kd.C_below (by repeat (first | (with_reducible exact HR284_1.out) | (with_reducible refine Kd.C_alloc ?_ _) | (with_reducible refine Kd.C_drewN ?_ _) | (with_reducible refine Kd.C_drew ?_) | exact HR284_1.out)) hb); have n7_ := Aside0.mk (Kd.C_below (by repeat (first | (with_reducible exact HR284_3.out) | (with_reducible refine Kd.C_alloc ?_ _) | (with_reducible refine Kd.C_drewN ?_ _) | (with_reducible refine Kd.C_drew ?_) | exact HR284_3.out)) hb); have n8_ := Aside0.mk (below_step (by repeat (first | (with_reducible first | exact HB.out | apply below_alloc | apply pw_below_drewN | apply below_drew1 | refine below_set ?_ GE265.out | refine below_set ?_ GE266.out) | exact HB.out)) hb); have n9_ := Aside0.mk (hbox); have n10_ := Aside0.mk ((by rw [hg]; exact (below_size (by repeat (first | (with_reducible first | exact HB.out | apply below_alloc | apply pw_below_drewN | apply below_drew1 | refine below_set ?_ GE265.out | refine below_set ?_ GE266.out) | exact HB.out))) : w.heap.size ≤ gb285)); have n11_ := Aside0.mk ((by rw [hg]; exact (below_size (by repeat (first | (with_reducible first | exact HB.out | apply below_alloc | apply pw_below_drewN | apply below_drew1 | refine below_set ?_ GE265.out | refine below_set ?_ GE266.out) | exact HB.out))) : w.heap.size ≤ gb285)); have n12_ := Aside0.mk ((by rw [hg]; exact Nat.ne_of_lt (blk_lt (g := gb265) (o := .cells #[.string a0_0, .slice A0_1 l0_1.length c0_1] 24 (0, 0)) (by (with_reducible repeat (first | refine blk_drewN ?_ _ | refine blk_drew ?_ | refine blk_alloc ?_ _)); exact BK265.out)) : gb265 ≠ gb285)); have n13_ := Aside0.mk ((by rw [hg]; exact Nat.ne_of_gt (blk_lt (g := gb265) (o := .cells #[.string a0_0, .slice A0_1 l0_1.length c0_1] 24 (0, 0)) (by (with_reducible repeat (first | refine blk_drewN ?_ _ | refine blk_drew ?_ | refine blk_alloc ?_ _)); exact BK265.out)) : gb285 ≠ gb265)); have n14_ := Aside0.mk ((by rw [hg]; exact Nat.ne_of_lt (blk_lt (g := gb266) (o := .cells #[.string (⟨#[]⟩ : ByteArray), .slice none 0 0] 24 (0, 0)) (by (with_reducible repeat (first | refine blk_drewN ?_ _ | refine blk_drew ?_ | refine blk_alloc ?_ _)); exact BK266.out)) : gb266 ≠ gb285)); have n15_ := Aside0.mk ((by rw [hg]; exact Nat.ne_of_gt (blk_lt (g := gb266) (o := .cells #[.string (⟨#[]⟩ : ByteArray), .slice none 0 0] 24 (0, 0)) (by (with_reducible repeat (first | refine blk_drewN ?_ _ | refine blk_drew ?_ | refine blk_alloc ?_ _)); exact BK266.out)) : gb285 ≠ gb266)); clear HO_6; clear HO_40; clear HL284_1; clear HL284_3; clear BK265; clear BK266; clear HR284_1; clear HR284_3; clear HB; have HO_6 := n0_; have HO_40 := n1_; have HL284_1 := n2_; have HL284_3 := n3_; have BK265 := n4_; have BK266 := n5_; have HR284_1 := n6_; have HR284_3 := n7_; have HB := n8_; have BK285 := n9_; have GW285 := n10_; have GE285 := n11_; have NB265_285 := n12_; have NB285_265 := n13_; have NB266_285 := n14_; have NB285_266 := n15_; clear n0_ n1_ n2_ n3_ n4_ n5_ n6_ n7_ n8_ n9_ n10_ n11_ n12_ n13_ n14_ n15_; clear hb hbox hg; have hnb59 := NB285_265.out; have hnc59 := NB265_285.out; have hnb60 := NB285_266.out; have hnc60 := NB266_285.out; have hcz61_0 : w58.cell? ⟨gb285, 0, none⟩ = some (.string (⟨#[]⟩ : ByteArray)) := (blk_cell BK285.out 0).trans rfl; have hcz61_1 : w58.cell? ⟨gb285, 1, none⟩ = some (.slice none 0 0) := (blk_cell BK285.out 1).trans rfl; have hcz61_2 : w58.cell? ⟨gb285, 2, none⟩ = some (.string (⟨#[]⟩ : ByteArray)) := (blk_cell BK285.out 2).trans rfl; have hcz61_3 : w58.cell? ⟨gb285, 3, none⟩ = some (.slice none 0 0) := (blk_cell BK285.out 3).trans rfl; have hfz61_0 := blk_frozen BK285.out 0; have hfz61_1 := blk_frozen BK285.out 1; have hfz61_2 := blk_frozen BK285.out 2; have hfz61_3 := blk_frozen BK285.out 3))
          have n0_ : Aside0 (Kd.N k24 24 ((((w58.setCell ⟨gb285, 0, none⟩ (.string ((rd_T32 x3_1 x42_2).f0.f0))).setCell ⟨gb285, 1, none⟩ (.slice A284_1 ((rd_T32 x3_1 x42_2).f0.f1).length c284_1)).setCell ⟨gb285, 2, none⟩ (.string ((rd_T32 x3_1 x42_2).f1.f0))).setCell ⟨gb285, 3, none⟩ (.slice A284_3 ((rd_T32 x3_1 x42_2).f1.f1).length c284_3)) w.heap.size (fun k_ => some k_ ≠ (.slice (some ad284) x3_1.length co51 : Value).ownBlock ∧ k_ ≠ gb265 ∧ k_ ≠ gb266 ∧ k_ ≠ gb285) u6 x6_2) := ⟨by (with_reducible repeat (first | apply Kd.N_alloc | apply Kd.N_drewN | apply Kd.N_drew)); exact Kd.N_mono (Kd.N_far (p := ⟨gb285, 3, none⟩) (Kd.N_far (p := ⟨gb285, 2, none⟩) (Kd.N_far (p := ⟨gb285, 1, none⟩) (Kd.N_far (p := ⟨gb285, 0, none⟩) (Kd.N_mono HO_6.out (fun k_ hk => (⟨hk, hk.2⟩ : _ ∧ k_ ≠ gb285))) (fun _ hk => hk.2) (.string ((rd_T32 x3_1 x42_2).f0.f0))) (fun _ hk => hk.2) (.slice A284_1 ((rd_T32 x3_1 x42_2).f0.f1).length c284_1)) (fun _ hk => hk.2) (.string ((rd_T32 x3_1 x42_2).f1.f0))) (fun _ hk => hk.2) (.slice A284_3 ((rd_T32 x3_1 x42_2).f1.f1).length c284_3)) (fun _ hk => ⟨hk.1.1.1, ⟨hk.1.1.2.1, ⟨hk.1.1.2.2, hk.1.2⟩⟩⟩)⟩
          have n1_ : Aside0 (Kd.N k32 32 ((((w58.setCell ⟨gb285, 0, none⟩ (.string ((rd_T32 x3_1 x42_2).f0.f0))).setCell ⟨gb285, 1, none⟩ (.slice A284_1 ((rd_T32 x3_1 x42_2).f0.f1).length c284_1)).setCell ⟨gb285, 2, none⟩ (.string ((rd_T32 x3_1 x42_2).f1.f0))).setCell ⟨gb285, 3, none⟩ (.slice A284_3 ((rd_T32 x3_1 x42_2).f1.f1).length c284_3)) w.heap.size (fun k_ => some k_ ≠ (u6 : Value).ownBlock ∧ k_ ≠ gb265 ∧ k_ ≠ gb266 ∧ k_ ≠ gb285) (.slice (some ad284) x3_1.length co51) x3_1) := ⟨by (with_reducible repeat (first | apply Kd.N_alloc | apply Kd.N_drewN | apply Kd.N_drew)); exact Kd.N_mono (Kd.N_far (p := ⟨gb285, 3, none⟩) (Kd.N_far (p := ⟨gb285, 2, none⟩) (Kd.N_far (p := ⟨gb285, 1, none⟩) (Kd.N_far (p := ⟨gb285, 0, none⟩) (Kd.N_mono HO_40.out (fun k_ hk => (⟨hk, hk.2⟩ : _ ∧ k_ ≠ gb285))) (fun _ hk => hk.2) (.string ((rd_T32 x3_1 x42_2).f0.f0))) (fun _ hk => hk.2) (.slice A284_1 ((rd_T32 x3_1 x42_2).f0.f1).length c284_1)) (fun _ hk => hk.2) (.string ((rd_T32 x3_1 x42_2).f1.f0))) (fun _ hk => hk.2) (.slice A284_3 ((rd_T32 x3_1 x42_2).f1.f1).length c284_3)) (fun _ hk => ⟨hk.1.1.1, ⟨hk.1.1.2.1, ⟨hk.1.1.2.2, hk.1.2⟩⟩⟩)⟩
          have n2_ : Aside0 (Kd.V k56 56 ((((w58.setCell ⟨gb285, 0, none⟩ (.string ((rd_T32 x3_1 x42_2).f0.f0))).setCell ⟨gb285, 1, none⟩ (.slice A284_1 ((rd_T32 x3_1 x42_2).f0.f1).length c284_1)).setCell ⟨gb285, 2, none⟩ (.string ((rd_T32 x3_1 x42_2).f1.f0))).setCell ⟨gb285, 3, none⟩ (.slice A284_3 ((rd_T32 x3_1 x42_2).f1.f1).length c284_3)) w.heap.size (fun k_ => some k_ ≠ (u6 : Value).ownBlock ∧ some k_ ≠ (.slice (some ad284) x3_1.length co51 : Value).ownBlock ∧ k_ ≠ gb265 ∧ k_ ≠ gb266 ∧ k_ ≠ gb285) (.slice A284_1 ((rd_T32 x3_1 x42_2).f0.f1).length c284_1) ((rd_T32 x3_1 x42_2).f0.f1)) := ⟨by (with_reducible repeat (first | apply Kd.V_alloc | apply Kd.V_drewN | apply Kd.V_drew)); exact Kd.V_mono (Kd.V_far (p := ⟨gb285, 3, none⟩) (Kd.V_far (p := ⟨gb285, 2, none⟩) (Kd.V_far (p := ⟨gb285, 1, none⟩) (Kd.V_far (p := ⟨gb285, 0, none⟩) (Kd.V_mono HL284_1.out (fun k_ hk => (⟨hk, hk.2⟩ : _ ∧ k_ ≠ gb285))) (fun _ hk => hk.2) (.string ((rd_T32 x3_1 x42_2).f0.f0))) (fun _ hk => hk.2) (.slice A284_1 ((rd_T32 x3_1 x42_2).f0.f1).length c284_1)) (fun _ hk => hk.2) (.string ((rd_T32 x3_1 x42_2).f1.f0))) (fun _ hk => hk.2) (.slice A284_3 ((rd_T32 x3_1 x42_2).f1.f1).length c284_3)) (fun _ hk => ⟨hk.1.1.1.1, ⟨hk.1.1.2, ⟨hk.1.1.1.2.1, ⟨hk.1.1.1.2.2, hk.1.2⟩⟩⟩⟩)⟩
          have n3_ : Aside0 (Kd.V k56 56 ((((w58.setCell ⟨gb285, 0, none⟩ (.string ((rd_T32 x3_1 x42_2).f0.f0))).setCell ⟨gb285, 1, none⟩ (.slice A284_1 ((rd_T32 x3_1 x42_2).f0.f1).length c284_1)).setCell ⟨gb285, 2, none⟩ (.string ((rd_T32 x3_1 x42_2).f1.f0))).setCell ⟨gb285, 3, none⟩ (.slice A284_3 ((rd_T32 x3_1 x42_2).f1.f1).length c284_3)) w.heap.size (fun k_ => some k_ ≠ (u6 : Value).ownBlock ∧ some k_ ≠ (.slice (some ad284) x3_1.length co51 : Value).ownBlock ∧ k_ ≠ gb265 ∧ k_ ≠ gb266 ∧ k_ ≠ gb285) (.slice A284_3 ((rd_T32 x3_1 x42_2).f1.f1).length c284_3) ((rd_T32 x3_1 x42_2).f1.f1)) := ⟨by (with_reducible repeat (first | apply Kd.V_alloc | apply Kd.V_drewN | apply Kd.V_drew)); exact Kd.V_mono (Kd.V_far (p := ⟨gb285, 3, none⟩) (Kd.V_far (p := ⟨gb285, 2, none⟩) (Kd.V_far (p := ⟨gb285, 1, none⟩) (Kd.V_far (p := ⟨gb285, 0, none⟩) (Kd.V_mono HL284_3.out (fun k_ hk => (⟨hk, hk.2⟩ : _ ∧ k_ ≠ gb285))) (fun _ hk => hk.2) (.string ((rd_T32 x3_1 x42_2).f0.f0))) (fun _ hk => hk.2) (.slice A284_1 ((rd_T32 x3_1 x42_2).f0.f1).length c284_1)) (fun _ hk => hk.2) (.string ((rd_T32 x3_1 x42_2).f1.f0))) (fun _ hk => hk.2) (.slice A284_3 ((rd_T32 x3_1 x42_2).f1.f1).length c284_3)) (fun _ hk => ⟨hk.1.1.1.1, ⟨hk.1.1.2, ⟨hk.1.1.1.2.1, ⟨hk.1.1.1.2.2, hk.1.2⟩⟩⟩⟩)⟩
          have n4_ : Aside0 (((((w58.setCell ⟨gb285, 0, none⟩ (.string ((rd_T32 x3_1 x42_2).f0.f0))).setCell ⟨gb285, 1, none⟩ (.slice A284_1 ((rd_T32 x3_1 x42_2).f0.f1).length c284_1)).setCell ⟨gb285, 2, none⟩ (.string ((rd_T32 x3_1 x42_2).f1.f0))).setCell ⟨gb285, 3, none⟩ (.slice A284_3 ((rd_T32 x3_1 x42_2).f1.f1).length c284_3)).heap[gb265]? = some (.cells #[.string a0_0, .slice A0_1 l0_1.length c0_1] 24 (0, 0))) := ⟨by (with_reducible repeat (first | refine blk_drewN ?_ _ | refine blk_drew ?_ | refine blk_alloc ?_ _)); refine blk_far ?_ NB265_285.out _; (with_reducible repeat (first | refine blk_drewN ?_ _ | refine blk_drew ?_ | refine blk_alloc ?_ _)); refine blk_far ?_ NB265_285.out _; (with_reducible repeat (first | refine blk_drewN ?_ _ | refine blk_drew ?_ | refine blk_alloc ?_ _)); refine blk_far ?_ NB265_285.out _; (with_reducible repeat (first | refine blk_drewN ?_ _ | refine blk_drew ?_ | refine blk_alloc ?_ _)); refine blk_far ?_ NB265_285.out _; (with_reducible repeat (first | refine blk_drewN ?_ _ | refine blk_drew ?_ | refine blk_alloc ?_ _)); exact BK265.out⟩
          have n5_ : Aside0 (((((w58.setCell ⟨gb285, 0, none⟩ (.string ((rd_T32 x3_1 x42_2).f0.f0))).setCell ⟨gb285, 1, none⟩ (.slice A284_1 ((rd_T32 x3_1 x42_2).f0.f1).length c284_1)).setCell ⟨gb285, 2, none⟩ (.string ((rd_T32 x3_1 x42_2).f1.f0))).setCell ⟨gb285, 3, none⟩ (.slice A284_3 ((rd_T32 x3_1 x42_2).f1.f1).length c284_3)).heap[gb266]? = some (.cells #[.string (⟨#[]⟩ : ByteArray), .slice none 0 0] 24 (0, 0))) := ⟨by (with_reducible repeat (first | refine blk_drewN ?_ _ | refine blk_drew ?_ | refine blk_alloc ?_ _)); refine blk_far ?_ NB266_285.out _; (with_reducible repeat (first | refine blk_drewN ?_ _ | refine blk_drew ?_ | refine blk_alloc ?_ _)); refine blk_far ?_ NB266_285.out _; (with_reducible repeat (first | refine blk_drewN ?_ _ | refine blk_drew ?_ | refine blk_alloc ?_ _)); refine blk_far ?_ NB266_285.out _; (with_reducible repeat (first | refine blk_drewN ?_ _ | refine blk_drew ?_ | refine blk_alloc ?_ _)); refine blk_far ?_ NB266_285.out _; (with_reducible repeat (first | refine blk_drewN ?_ _ | refine blk_drew ?_ | refine blk_alloc ?_ _)); exact BK266.out⟩
          have n6_ : Aside0 (((((w58.setCell ⟨gb285, 0, none⟩ (.string ((rd_T32 x3_1 x42_2).f0.f0))).setCell ⟨gb285, 1, none⟩ (.slice A284_1 ((rd_T32 x3_1 x42_2).f0.f1).length c284_1)).setCell ⟨gb285, 2, none⟩ (.string ((rd_T32 x3_1 x42_2).f1.f0))).setCell ⟨gb285, 3, none⟩ (.slice A284_3 ((rd_T32 x3_1 x42_2).f1.f1).length c284_3)).heap[gb285]? = some (.cells #[.string ((rd_T32 x3_1 x42_2).f0.f0), .slice A284_1 ((rd_T32 x3_1 x42_2).f0.f1).length c284_1, .string ((rd_T32 x3_1 x42_2).f1.f0), .slice A284_3 ((rd_T32 x3_1 x42_2).f1.f1).length c284_3] 32 (0, 0))) := ⟨by (with_reducible repeat (first | refine blk_drewN ?_ _ | refine blk_drew ?_ | refine blk_alloc ?_ _)); refine blk_put (cs := #[.string ((rd_T32 x3_1 x42_2).f0.f0), .slice A284_1 ((rd_T32 x3_1 x42_2).f0.f1).length c284_1, .string ((rd_T32 x3_1 x42_2).f1.f0), .slice none 0 0]) ?_ 3 _ rfl; (with_reducible repeat (first | refine blk_drewN ?_ _ | refine blk_drew ?_ | refine blk_alloc ?_ _)); refine blk_put (cs := #[.string ((rd_T32 x3_1 x42_2).f0.f0), .slice A284_1 ((rd_T32 x3_1 x42_2).f0.f1).length c284_1, .string (⟨#[]⟩ : ByteArray), .slice none 0 0]) ?_ 2 _ rfl; (with_reducible repeat (first | refine blk_drewN ?_ _ | refine blk_drew ?_ | refine blk_alloc ?_ _)); refine blk_put (cs := #[.string ((rd_T32 x3_1 x42_2).f0.f0), .slice none 0 0, .string (⟨#[]⟩ : ByteArray), .slice none 0 0]) ?_ 1 _ rfl; (with_reducible repeat (first | refine blk_drewN ?_ _ | refine blk_drew ?_ | refine blk_alloc ?_ _)); refine blk_put (cs := #[.string (⟨#[]⟩ : ByteArray), .slice none 0 0, .string (⟨#[]⟩ : ByteArray), .slice none 0 0]) ?_ 0 _ rfl; (with_reducible repeat (first | refine blk_drewN ?_ _ | refine blk_drew ?_ | refine blk_alloc ?_ _)); exact BK285.out⟩
          have n7_ : Aside0 (Below w.heap.size w ((((w58.setCell ⟨gb285, 0, none⟩ (.string ((rd_T32 x3_1 x42_2).f0.f0))).setCell ⟨gb285, 1, none⟩ (.slice A284_1 ((rd_T32 x3_1 x42_2).f0.f1).length c284_1)).setCell ⟨gb285, 2, none⟩ (.string ((rd_T32 x3_1 x42_2).f1.f0))).setCell ⟨gb285, 3, none⟩ (.slice A284_3 ((rd_T32 x3_1 x42_2).f1.f1).length c284_3))) := ⟨by repeat (first | (with_reducible first | exact HB.out | apply below_alloc | apply pw_below_drewN | apply below_drew1 | refine below_set ?_ GE265.out | refine below_set ?_ GE266.out | refine below_set ?_ GE285.out) | exact HB.out)⟩
          (try clear HO_6)
          (try clear HO_40)
          (try clear HL284_1)
          (try clear HL284_3)
          (try clear BK265)
          (try clear BK266)
          (try clear BK285)
          (try clear HB)
          generalize ((((w58.setCell ⟨gb285, 0, none⟩ (.string ((rd_T32 x3_1 x42_2).f0.f0))).setCell ⟨gb285, 1, none⟩ (.slice A284_1 ((rd_T32 x3_1 x42_2).f0.f1).length c284_1)).setCell ⟨gb285, 2, none⟩ (.string ((rd_T32 x3_1 x42_2).f1.f0))).setCell ⟨gb285, 3, none⟩ (.slice A284_3 ((rd_T32 x3_1 x42_2).f1.f1).length c284_3)) = w62 at n0_ n1_ n2_ n3_ n4_ n5_ n6_ n7_ ⊢
          have HO_6 := n0_
          have HO_40 := n1_
          have HL284_1 := n2_
          have HL284_3 := n3_
          have BK265 := n4_
          have BK266 := n5_
          have BK285 := n6_
          have HB := n7_
          clear n0_ n1_ n2_ n3_ n4_ n5_ n6_ n7_
          have n0_ := Aside0.mk (Kd.N_drew HO_6.out)
          have n1_ := Aside0.mk (Kd.N_drew HO_40.out)
          have n2_ := Aside0.mk (Kd.V_drew HL284_1.out)
          have n3_ := Aside0.mk (Kd.V_drew HL284_3.out)
          have n4_ := Aside0.mk (blk_drew BK265.out)
          have n5_ := Aside0.mk (blk_drew BK266.out)
          have n6_ := Aside0.mk (blk_drew BK285.out)
          have n7_ := Aside0.mk (below_drew1 HB.out)
          clear HO_6
          clear HO_40
          clear HL284_1
          clear HL284_3
          clear BK265
          clear BK266
          clear BK285
          clear HB
          have HO_6 := n0_
          have HO_40 := n1_
          have HL284_1 := n2_
          have HL284_3 := n3_
          have BK265 := n4_
          have BK266 := n5_
          have BK285 := n6_
          have HB := n7_
          clear n0_ n1_ n2_ n3_ n4_ n5_ n6_ n7_
          refine start_ (n := 11) (S := fun w' => w'.cell? ⟨gb285, 0, none⟩ = some (.string ((rd_T32 x3_1 x42_2).f0.f0)) ∧ w'.cell? ⟨gb285, 1, none⟩ = some (.slice A284_1 ((rd_T32 x3_1 x42_2).f0.f1).length c284_1) ∧ w'.cell? ⟨gb285, 2, none⟩ = some (.string ((rd_T32 x3_1 x42_2).f1.f0)) ∧ w'.cell? ⟨gb285, 3, none⟩ = some (.slice A284_3 ((rd_T32 x3_1 x42_2).f1.f1).length c284_3)) (ds := []) #[false, false, false, false, false, false, false, false, false, false, false] (by kernel_rfl) rfl rfl ⟨(blk_cell BK285.out 0).trans rfl, (blk_cell BK285.out 1).trans rfl, (blk_cell BK285.out 2).trans rfl, (blk_cell BK285.out 3).trans rfl⟩ (fun hHeld => ?_); refine with_tabW style_Clean.tab12 style_Clean.bits12 (fun HT_ HW_ => ?_)
          generalize w62.drew = w63 at HO_6 HO_40 HL284_1 HL284_3 BK265 BK266 BK285 HB hHeld ⊢
          refine pure_ (i := 0) (N := some 46) (v := ?_) (a' := ?_) #[true, false, false, false, false, false, false, false, false, false, false] rfl rfl (any_of HT_.out (by kernel_rfl)) (fun _ _ _ h => h) (Or.inl ⟨by rfl, ?_⟩) ?_ ?_
          rotate_left
          ·
           intro w'
           go_simp
           with_reducible rfl
          rotate_left
          ·
           simp only [Act.put, List.setIfInBounds_toArray, List.set_cons_zero, List.set_cons_succ, i64_w, i32_w]
           rfl
          refine pure_ (i := 1) (N := some 47) (v := ?_) (a' := ?_) #[true, true, false, false, false, false, false, false, false, false, false] rfl rfl (any_of HT_.out (by kernel_rfl)) (fun _ _ _ h => h) (Or.inl ⟨by rfl, ?_⟩) ?_ ?_
          rotate_left
          ·
           intro w'
           go_simp
           with_reducible rfl
          rotate_left
          ·
           simp only [Act.put, List.setIfInBounds_toArray, List.set_cons_zero, List.set_cons_succ, i64_w, i32_w]
           rfl
          refine pure_ (i := 4) (N := some 50) (v := ?_) (a' := ?_) #[true, true, false, false, true, false, false, false, false, false, false] rfl rfl (any_of HT_.out (by kernel_rfl)) (fun _ _ _ h => h) (Or.inl ⟨by rfl, ?_⟩) ?_ ?_
          rotate_left
          ·
           intro w'
           go_simp
           with_reducible rfl
          rotate_left
          ·
           simp only [Act.put, List.setIfInBounds_toArray, List.set_cons_zero, List.set_cons_succ, i64_w, i32_w]
           rfl
          refine take_ (i := 2) (N := some 48) (v := ?_) (a' := ?_) #[true, true, true, false, true, false, false, false, false, false, false] rfl rfl (take_ofW HT_.out HW_.out (by kernel_rfl)) (fun _ _ _ h => h) (Or.inl ⟨by rfl, ?_⟩) hHeld ?_ ?_
          rotate_left
          ·
           rintro w' ⟨s0, s1, s2, s3⟩
           go_simp
           with_reducible rfl
          rotate_left
          ·
           simp only [Act.put, List.setIfInBounds_toArray, List.set_cons_zero, List.set_cons_succ, i64_w, i32_w]
           rfl
          refine take_ (i := 5) (N := some 51) (v := ?_) (a' := ?_) #[true, true, true, false, true, true, false, false, false, false, false] rfl rfl (take_ofW HT_.out HW_.out (by kernel_rfl)) (fun _ _ _ h => h) (Or.inl ⟨by rfl, ?_⟩) hHeld ?_ ?_
          rotate_left
          ·
           rintro w' ⟨s0, s1, s2, s3⟩
           go_simp
           with_reducible rfl
          rotate_left
          ·
           simp only [Act.put, List.setIfInBounds_toArray, List.set_cons_zero, List.set_cons_succ, i64_w, i32_w]
           rfl
          refine one_ (i := 3) (N := some 49) #[true, true, true, true, true, true, false, false, false, false, false] rfl rfl (one_of HT_.out (by kernel_rfl)) (by decide) (fun K hK => ?_)
          refine goes_ Tryd.func19 (by kernel_rfl) rfl #[.string (⟨#[58]⟩ : ByteArray), .int .i64 0] (by rfl) rfl rfl (by (try simp only [List.map_toArray, List.map_cons, List.map_nil]); first | done | rfl | (simp only [List.length_drop, List.length_take]; rfl)) ?_
          with_reducible refine (mark_Of.calls (⟨#[58]⟩ : ByteArray) 0 t286 t287 _ A55.out).mono ?_
          rintro e w64 ⟨v288, rfl, ho0, hb⟩
          refine ⟨_, rfl, ?_⟩
          have n0_ := Aside0.mk (Kd.N_elder' (Kd.N_go HO_6.out) (Kd.R_base ho0) hb)
          have n1_ := Aside0.mk (Kd.N_elder' (Kd.N_go HO_40.out) (Kd.R_base ho0) hb)
          have n2_ := Aside0.mk (Kd.V_elder' (Kd.V_go HL284_1.out) (Kd.R_base ho0) hb)
          have n3_ := Aside0.mk (Kd.V_elder' (Kd.V_go HL284_3.out) (Kd.R_base ho0) hb)
          have n4_ := Aside0.mk (Kd.R_lower ho0 (below_size (by repeat (first | (with_reducible first | exact HB.out | apply below_alloc | apply pw_below_drewN | apply below_drew1 | refine below_set ?_ GE265.out | refine below_set ?_ GE266.out | refine below_set ?_ GE285.out) | exact HB.out))))
          have n5_ := Aside0.mk (blk_below (blk_go BK265.out) hb)
          have n6_ := Aside0.mk (blk_below (blk_go BK266.out) hb)
          have n7_ := Aside0.mk (blk_below (blk_go BK285.out) hb)
          have n8_ := Aside0.mk (below_step (by repeat (first | (with_reducible first | exact HB.out | apply below_alloc | apply pw_below_drewN | apply below_drew1 | refine below_set ?_ GE265.out | refine below_set ?_ GE266.out | refine below_set ?_ GE285.out) | exact HB.out)) hb)
          clear HO_6
          clear HO_40
          clear HL284_1
          clear HL284_3
          clear BK265
          clear BK266
          clear BK285
          clear HB
          have HO_6 := n0_
          have HO_40 := n1_
          have HL284_1 := n2_
          have HL284_3 := n3_
          have HO289 := n4_
          have BK265 := n5_
          have BK266 := n6_
          have BK285 := n7_
          have HB := n8_
          clear n0_ n1_ n2_ n3_ n4_ n5_ n6_ n7_ n8_
          (try clear hb)
          (try clear hb2)
          (try clear hk)
          (try clear hi)
          (try clear ho0)
          obtain ⟨Ao65, co65, eo65⟩ := Kd.R_slice HO289.out
          (first | subst eo65 | (injection eo65 with f1_ f2_ f3_; have f4_ := f1_.symm; have f5_ := f3_.symm; clear f1_ f2_ f3_; subst f4_; subst f5_))
          refine hK.out _ _ ⟨(blk_cell BK285.out 0).trans rfl, (blk_cell BK285.out 1).trans rfl, (blk_cell BK285.out 2).trans rfl, (blk_cell BK285.out 3).trans rfl⟩ (fun hHeld => ?_)
          clear hK K
          refine norm_ (a' := ?_) ?_ ?_
          rotate_left
          ·
           show Act.put _ (some 49) _ = _
           simp only [Act.put, List.setIfInBounds_toArray, List.set_cons_zero, List.set_cons_succ, i64_w, i32_w]
           rfl
          refine one_ (i := 6) (N := some 52) #[true, true, true, true, true, true, true, false, false, false, false] rfl rfl (one_of HT_.out (by kernel_rfl)) (by decide) (fun K hK => ?_)
          refine Kd.N_lit_step k24 _ 24 ?hg (N' := 52) ?hd (xs := ([(⟨(rd_T32 x3_1 x42_2).f0.f0, (rd_T32 x3_1 x42_2).f0.f1⟩ : S24), (⟨t286, t287⟩ : S24), (⟨(rd_T32 x3_1 x42_2).f1.f0, (rd_T32 x3_1 x42_2).f1.f1⟩ : S24)] : List (S24))) (inner := [.string ((rd_T32 x3_1 x42_2).f0.f0), .slice A284_1 ((rd_T32 x3_1 x42_2).f0.f1).length c284_1, .string t286, .slice Ao65 t287.length co65, .string ((rd_T32 x3_1 x42_2).f1.f0), .slice A284_3 ((rd_T32 x3_1 x42_2).f1.f1).length c284_3]) (ok := (fun k_ => some k_ ≠ (u6 : Value).ownBlock ∧ some k_ ≠ (.slice (some ad284) x3_1.length co51 : Value).ownBlock ∧ k_ ≠ gb265 ∧ k_ ≠ gb266 ∧ k_ ≠ gb285)) (okp := (fun k_ => some k_ ≠ (u6 : Value).ownBlock ∧ some k_ ≠ (.slice (some ad284) x3_1.length co51 : Value).ownBlock ∧ k_ ≠ gb265 ∧ k_ ≠ gb266 ∧ k_ ≠ gb285)) ?hr ?hp (fun _ hk => hk) ((show ∀ k_, w64.heap.size ≤ k_ → (fun k_ => some k_ ≠ (u6 : Value).ownBlock ∧ some k_ ≠ (.slice (some ad284) x3_1.length co51 : Value).ownBlock ∧ k_ ≠ gb265 ∧ k_ ≠ gb266 ∧ k_ ≠ gb285) k_ from fun k_ hk => ⟨Kd.fresh' (Kd.N_lt (Kd.N_go HO_6.out)) k_ hk, Kd.fresh' (Kd.N_lt (Kd.N_go HO_40.out)) k_ hk, Kd.freshB (g := gb265) (o := .cells #[.string a0_0, .slice A0_1 l0_1.length c0_1] 24 (0, 0)) (blk_go BK265.out) k_ hk, Kd.freshB (g := gb266) (o := .cells #[.string (⟨#[]⟩ : ByteArray), .slice none 0 0] 24 (0, 0)) (blk_go BK266.out) k_ hk, Kd.freshB (g := gb285) (o := .cells #[.string ((rd_T32 x3_1 x42_2).f0.f0), .slice A284_1 ((rd_T32 x3_1 x42_2).f0.f1).length c284_1, .string ((rd_T32 x3_1 x42_2).f1.f0), .slice A284_3 ((rd_T32 x3_1 x42_2).f1.f1).length c284_3] 32 (0, 0)) (blk_go BK285.out) k_ hk⟩) _ (Nat.le_refl _)) (Below.refl _ _) (Nat.le_refl _) (by simp) ?_; (case hd => rfl); (case hg => rfl); (case hr => first | (go_simp; done) | (go_simp; rfl)); (case hp => exact (Reps.c2 (show Kd.FK k24 _ _ (⟨(rd_T32 x3_1 x42_2).f0.f0, (rd_T32 x3_1 x42_2).f0.f1⟩ : S24) [.string ((rd_T32 x3_1 x42_2).f0.f0), .slice A284_1 ((rd_T32 x3_1 x42_2).f0.f1).length c284_1] from (k24_mkF _ _ (⟨(rd_T32 x3_1 x42_2).f0.f0, (rd_T32 x3_1 x42_2).f0.f1⟩ : S24) (Kd.V_reads' (Kd.V_mono (ok' := (fun k_ => some k_ ≠ (u6 : Value).ownBlock ∧ some k_ ≠ (.slice (some ad284) x3_1.length co51 : Value).ownBlock ∧ k_ ≠ gb265 ∧ k_ ≠ gb266 ∧ k_ ≠ gb285)) (HL284_1.out) (fun k_ hk => ⟨hk.1.1, ⟨hk.1.2.1, ⟨hk.1.2.2.1, ⟨hk.1.2.2.2.1, hk.1.2.2.2.2⟩⟩⟩⟩))).2.1 (Kd.V_F (Kd.V_mono (ok' := (fun k_ => some k_ ≠ (u6 : Value).ownBlock ∧ some k_ ≠ (.slice (some ad284) x3_1.length co51 : Value).ownBlock ∧ k_ ≠ gb265 ∧ k_ ≠ gb266 ∧ k_ ≠ gb285)) (HL284_1.out) (fun k_ hk => ⟨hk.1.1, ⟨hk.1.2.1, ⟨hk.1.2.2.1, ⟨hk.1.2.2.2.1, hk.1.2.2.2.2⟩⟩⟩⟩))))) (Reps.c2 (show Kd.FK k24 _ _ (⟨t286, t287⟩ : S24) [.string t286, .slice Ao65 t287.length co65] from (k24_mkF _ _ (⟨t286, t287⟩ : S24) (Kd.R_reads' (Kd.R_mono (ok' := (fun k_ => some k_ ≠ (u6 : Value).ownBlock ∧ some k_ ≠ (.slice (some ad284) x3_1.length co51 : Value).ownBlock ∧ k_ ≠ gb265 ∧ k_ ≠ gb266 ∧ k_ ≠ gb285)) (Kd.R_types (Kd.R_types (Kd.R_types (Kd.R_apart' (Kd.R_apart' (HO289.out) (Kd.N_typed HO_6.out) (by decide)) (Kd.N_typed HO_40.out) (by decide)) BK265.out (by decide)) BK266.out (by decide)) BK285.out (by decide)) (fun k_ hk => ⟨hk.1.1.1.1.2, ⟨hk.1.1.1.2, ⟨hk.1.1.2, ⟨hk.1.2, hk.2⟩⟩⟩⟩))).2.1 (Kd.R_F (Kd.R_mono (ok' := (fun k_ => some k_ ≠ (u6 : Value).ownBlock ∧ some k_ ≠ (.slice (some ad284) x3_1.length co51 : Value).ownBlock ∧ k_ ≠ gb265 ∧ k_ ≠ gb266 ∧ k_ ≠ gb285)) (Kd.R_types (Kd.R_types (Kd.R_types (Kd.R_apart' (Kd.R_apart' (HO289.out) (Kd.N_typed HO_6.out) (by decide)) (Kd.N_typed HO_40.out) (by decide)) BK265.out (by decide)) BK266.out (by decide)) BK285.out (by decide)) (fun k_ hk => ⟨hk.1.1.1.1.2, ⟨hk.1.1.1.2, ⟨hk.1.1.2, ⟨hk.1.2, hk.2⟩⟩⟩⟩))))) (Reps.c2 (show Kd.FK k24 _ _ (⟨(rd_T32 x3_1 x42_2).f1.f0, (rd_T32 x3_1 x42_2).f1.f1⟩ : S24) [.string ((rd_T32 x3_1 x42_2).f1.f0), .slice A284_3 ((rd_T32 x3_1 x42_2).f1.f1).length c284_3] from (k24_mkF _ _ (⟨(rd_T32 x3_1 x42_2).f1.f0, (rd_T32 x3_1 x42_2).f1.f1⟩ : S24) (Kd.V_reads' (Kd.V_mono (ok' := (fun k_ => some k_ ≠ (u6 : Value).ownBlock ∧ some k_ ≠ (.slice (some ad284) x3_1.length co51 : Value).ownBlock ∧ k_ ≠ gb265 ∧ k_ ≠ gb266 ∧ k_ ≠ gb285)) (HL284_3.out) (fun k_ hk => ⟨hk.1.1, ⟨hk.1.2.1, ⟨hk.1.2.2.1, ⟨hk.1.2.2.2.1, hk.1.2.2.2.2⟩⟩⟩⟩))).2.1 (Kd.V_F (Kd.V_mono (ok' := (fun k_ => some k_ ≠ (u6 : Value).ownBlock ∧ some k_ ≠ (.slice (some ad284) x3_1.length co51 : Value).ownBlock ∧ k_ ≠ gb265 ∧ k_ ≠ gb266 ∧ k_ ≠ gb285)) (HL284_3.out) (fun k_ hk => ⟨hk.1.1, ⟨hk.1.2.1, ⟨hk.1.2.2.1, ⟨hk.1.2.2.2.1, hk.1.2.2.2.2⟩⟩⟩⟩))))) (Reps.none _ _)))))
          intro v291 w66 ho67 hb hg_ hnew_
          clear hg_ hnew_
          (first | rw [← Ny290.out] at ho67 | (simp only [Int.reduceToNat] at ho67; rw [← Ny290.out] at ho67))
          have n0_ := Aside0.mk (Kd.N_elder' (Kd.N_go HO_6.out) (Kd.N_base ho67) hb)
          have n1_ := Aside0.mk (Kd.N_elder' (Kd.N_go HO_40.out) (Kd.N_base ho67) hb)
          have n2_ := Aside0.mk (Kd.V_elder' (Kd.V_go HL284_1.out) (Kd.N_base ho67) hb)
          have n3_ := Aside0.mk (Kd.V_elder' (Kd.V_go HL284_3.out) (Kd.N_base ho67) hb)
          have n4_ := Aside0.mk (Kd.N_lower ho67 (below_size (by repeat (first | (with_reducible first | exact HB.out | apply below_alloc | apply pw_below_drewN | apply below_drew1 | refine below_set ?_ GE265.out | refine below_set ?_ GE266.out | refine below_set ?_ GE285.out) | exact HB.out))))
          have n5_ := Aside0.mk (blk_below (blk_go BK265.out) hb)
          have n6_ := Aside0.mk (blk_below (blk_go BK266.out) hb)
          have n7_ := Aside0.mk (blk_below (blk_go BK285.out) hb)
          have n8_ := Aside0.mk (below_step (by repeat (first | (with_reducible first | exact HB.out | apply below_alloc | apply pw_below_drewN | apply below_drew1 | refine below_set ?_ GE265.out | refine below_set ?_ GE266.out | refine below_set ?_ GE285.out) | exact HB.out)) hb)
          clear HO_6
          clear HO_40
          clear HL284_1
          clear HL284_3
          clear BK265
          clear BK266
          clear BK285
          clear HB
          clear HO289
          have HO_6 := n0_
          have HO_40 := n1_
          have HL284_1 := n2_
          have HL284_3 := n3_
          have HO292 := n4_
          have BK265 := n5_
          have BK266 := n6_
          have BK285 := n7_
          have HB := n8_
          clear n0_ n1_ n2_ n3_ n4_ n5_ n6_ n7_ n8_
          clear hb ho67
          obtain ⟨Ao68, co68, eo68⟩ := Kd.N_slice HO292.out
          (first | subst eo68 | (injection eo68 with f1_ f2_ f3_; have f4_ := f1_.symm; have f5_ := f3_.symm; clear f1_ f2_ f3_; subst f4_; subst f5_))
          refine hK.out _ _ ⟨(blk_cell BK285.out 0).trans rfl, (blk_cell BK285.out 1).trans rfl, (blk_cell BK285.out 2).trans rfl, (blk_cell BK285.out 3).trans rfl⟩ (fun hHeld => ?_)
          clear hK K
          refine norm_ (a' := ?_) ?_ ?_
          rotate_left
          ·
           show Act.put _ (some 52) _ = _
           simp only [Act.put, List.setIfInBounds_toArray, List.set_cons_zero, List.set_cons_succ, i64_w, i32_w]
           rfl
          refine one_ (i := 7) (N := some 53) #[true, true, true, true, true, true, true, true, false, false, false] rfl rfl (one_of HT_.out (by kernel_rfl)) (by decide) (fun K hK => ?_)
          refine goes_ Tryd.func30 (by kernel_rfl) rfl #[.slice Ao68 y290.length co68] (by rfl) rfl rfl (by (try simp only [List.map_toArray, List.map_cons, List.map_nil]); first | done | rfl | (simp only [List.length_drop, List.length_take]; rfl)) ?_
          with_reducible refine (mark_Cat.calls k2 _ _ y290 t293 t294 _ ?side1 ?side2 A56.out).mono ?_
          (case side1 => repeat (first | exact (Kd.N_reads' HO292.out).2.2 | (with_reducible refine Kd.C_alloc ?_ _) | (with_reducible refine Kd.C_drewN ?_ _) | (with_reducible refine Kd.C_drew ?_)))
          (case side2 => exact (Kd.N_reads' HO292.out).2.1)
          rintro e w69 ⟨v295, rfl, ho0, hb⟩
          refine ⟨_, rfl, ?_⟩
          have n0_ := Aside0.mk (Kd.N_elder' (Kd.N_go HO_6.out) (Kd.R_base ho0) hb)
          have n1_ := Aside0.mk (Kd.N_elder' (Kd.N_go HO_40.out) (Kd.R_base ho0) hb)
          have n2_ := Aside0.mk (Kd.V_elder' (Kd.V_go HL284_1.out) (Kd.R_base ho0) hb)
          have n3_ := Aside0.mk (Kd.V_elder' (Kd.V_go HL284_3.out) (Kd.R_base ho0) hb)
          have n4_ := Aside0.mk (Kd.N_elder' (Kd.N_go HO292.out) (Kd.R_base ho0) hb)
          have n5_ := Aside0.mk (Kd.R_lower ho0 (below_size (by repeat (first | (with_reducible first | exact HB.out | apply below_alloc | apply pw_below_drewN | apply below_drew1 | refine below_set ?_ GE265.out | refine below_set ?_ GE266.out | refine below_set ?_ GE285.out) | exact HB.out))))
          have n6_ := Aside0.mk (blk_below (blk_go BK265.out) hb)
          have n7_ := Aside0.mk (blk_below (blk_go BK266.out) hb)
          have n8_ := Aside0.mk (blk_below (blk_go BK285.out) hb)
          have n9_ := Aside0.mk (below_step (by repeat (first | (with_reducible first | exact HB.out | apply below_alloc | apply pw_below_drewN | apply below_drew1 | refine below_set ?_ GE265.out | refine below_set ?_ GE266.out | refine below_set ?_ GE285.out) | exact HB.out)) hb)
          clear HO_6
          clear HO_40
          clear HL284_1
          clear HL284_3
          clear HO292
          clear BK265
          clear BK266
          clear BK285
          clear HB
          have HO_6 := n0_
          have HO_40 := n1_
          have HL284_1 := n2_
          have HL284_3 := n3_
          have HO292 := n4_
          have HO296 := n5_
          have BK265 := n6_
          have BK266 := n7_
          have BK285 := n8_
          have HB := n9_
          clear n0_ n1_ n2_ n3_ n4_ n5_ n6_ n7_ n8_ n9_
          (try clear hb)
          (try clear hb2)
          (try clear hk)
          (try clear hi)
          (try clear ho0)
          obtain ⟨Ao70, co70, eo70⟩ := Kd.R_slice HO296.out
          (first | subst eo70 | (injection eo70 with f1_ f2_ f3_; have f4_ := f1_.symm; have f5_ := f3_.symm; clear f1_ f2_ f3_; subst f4_; subst f5_))
          refine hK.out _ _ ⟨(blk_cell BK285.out 0).trans rfl, (blk_cell BK285.out 1).trans rfl, (blk_cell BK285.out 2).trans rfl, (blk_cell BK285.out 3).trans rfl⟩ (fun hHeld => ?_)
          clear hK K
          refine norm_ (a' := ?_) ?_ ?_
          rotate_left
          ·
           show Act.put _ (some 53) _ = _
           simp only [Act.put, List.setIfInBounds_toArray, List.set_cons_zero, List.set_cons_succ, i64_w, i32_w]
           rfl
          refine one_ (i := 8) (N := some 54) #[true, true, true, true, true, true, true, true, true, false, false] rfl rfl (one_of HT_.out (by kernel_rfl)) (by decide) (fun K hK => ?_)
          refine Kd.N_lit_step k24 _ 24 ?hg (N' := 54) ?hd (xs := ([(⟨t293, t294⟩ : S24)] : List (S24))) (inner := [.string t293, .slice Ao70 t294.length co70]) (ok := (fun k_ => some k_ ≠ (u6 : Value).ownBlock ∧ some k_ ≠ (.slice (some ad284) x3_1.length co51 : Value).ownBlock ∧ some k_ ≠ (.slice Ao68 y290.length co68 : Value).ownBlock ∧ k_ ≠ gb265 ∧ k_ ≠ gb266 ∧ k_ ≠ gb285)) (okp := (fun k_ => some k_ ≠ (u6 : Value).ownBlock ∧ some k_ ≠ (.slice (some ad284) x3_1.length co51 : Value).ownBlock ∧ some k_ ≠ (.slice Ao68 y290.length co68 : Value).ownBlock ∧ k_ ≠ gb265 ∧ k_ ≠ gb266 ∧ k_ ≠ gb285)) ?hr ?hp (fun _ hk => hk) ((show ∀ k_, w69.heap.size ≤ k_ → (fun k_ => some k_ ≠ (u6 : Value).ownBlock ∧ some k_ ≠ (.slice (some ad284) x3_1.length co51 : Value).ownBlock ∧ some k_ ≠ (.slice Ao68 y290.length co68 : Value).ownBlock ∧ k_ ≠ gb265 ∧ k_ ≠ gb266 ∧ k_ ≠ gb285) k_ from fun k_ hk => ⟨Kd.fresh' (Kd.N_lt (Kd.N_go HO_6.out)) k_ hk, Kd.fresh' (Kd.N_lt (Kd.N_go HO_40.out)) k_ hk, Kd.fresh' (Kd.N_lt (Kd.N_go HO292.out)) k_ hk, Kd.freshB (g := gb265) (o := .cells #[.string a0_0, .slice A0_1 l0_1.length c0_1] 24 (0, 0)) (blk_go BK265.out) k_ hk, Kd.freshB (g := gb266) (o := .cells #[.string (⟨#[]⟩ : ByteArray), .slice none 0 0] 24 (0, 0)) (blk_go BK266.out) k_ hk, Kd.freshB (g := gb285) (o := .cells #[.string ((rd_T32 x3_1 x42_2).f0.f0), .slice A284_1 ((rd_T32 x3_1 x42_2).f0.f1).length c284_1, .string ((rd_T32 x3_1 x42_2).f1.f0), .slice A284_3 ((rd_T32 x3_1 x42_2).f1.f1).length c284_3] 32 (0, 0)) (blk_go BK285.out) k_ hk⟩) _ (Nat.le_refl _)) (Below.refl _ _) (Nat.le_refl _) (by simp) ?_; (case hd => rfl); (case hg => rfl); (case hr => first | (go_simp; done) | (go_simp; rfl)); (case hp => exact (Reps.c2 (show Kd.FK k24 _ _ (⟨t293, t294⟩ : S24) [.string t293, .slice Ao70 t294.length co70] from (k24_mkF _ _ (⟨t293, t294⟩ : S24) (Kd.R_reads' (Kd.R_mono (ok' := (fun k_ => some k_ ≠ (u6 : Value).ownBlock ∧ some k_ ≠ (.slice (some ad284) x3_1.length co51 : Value).ownBlock ∧ some k_ ≠ (.slice Ao68 y290.length co68 : Value).ownBlock ∧ k_ ≠ gb265 ∧ k_ ≠ gb266 ∧ k_ ≠ gb285)) (Kd.R_types (Kd.R_types (Kd.R_types (Kd.R_apart' (Kd.R_apart' (Kd.R_apart' (HO296.out) (Kd.N_typed HO_6.out) (by decide)) (Kd.N_typed HO_40.out) (by decide)) (Kd.N_typed HO292.out) (by decide)) BK265.out (by decide)) BK266.out (by decide)) BK285.out (by decide)) (fun k_ hk => ⟨hk.1.1.1.1.1.2, ⟨hk.1.1.1.1.2, ⟨hk.1.1.1.2, ⟨hk.1.1.2, ⟨hk.1.2, hk.2⟩⟩⟩⟩⟩))).2.1 (Kd.R_F (Kd.R_mono (ok' := (fun k_ => some k_ ≠ (u6 : Value).ownBlock ∧ some k_ ≠ (.slice (some ad284) x3_1.length co51 : Value).ownBlock ∧ some k_ ≠ (.slice Ao68 y290.length co68 : Value).ownBlock ∧ k_ ≠ gb265 ∧ k_ ≠ gb266 ∧ k_ ≠ gb285)) (Kd.R_types (Kd.R_types (Kd.R_types (Kd.R_apart' (Kd.R_apart' (Kd.R_apart' (HO296.out) (Kd.N_typed HO_6.out) (by decide)) (Kd.N_typed HO_40.out) (by decide)) (Kd.N_typed HO292.out) (by decide)) BK265.out (by decide)) BK266.out (by decide)) BK285.out (by decide)) (fun k_ hk => ⟨hk.1.1.1.1.1.2, ⟨hk.1.1.1.1.2, ⟨hk.1.1.1.2, ⟨hk.1.1.2, ⟨hk.1.2, hk.2⟩⟩⟩⟩⟩))))) (Reps.none _ _)))
          intro v298 w71 ho72 hb hg_ hnew_
          clear hg_ hnew_
          (first | rw [← Ny297.out] at ho72 | (simp only [Int.reduceToNat] at ho72; rw [← Ny297.out] at ho72))
          have n0_ := Aside0.mk (Kd.N_elder' (Kd.N_go HO_6.out) (Kd.N_base ho72) hb)
          have n1_ := Aside0.mk (Kd.N_elder' (Kd.N_go HO_40.out) (Kd.N_base ho72) hb)
          have n2_ := Aside0.mk (Kd.V_elder' (Kd.V_go HL284_1.out) (Kd.N_base ho72) hb)
          have n3_ := Aside0.mk (Kd.V_elder' (Kd.V_go HL284_3.out) (Kd.N_base ho72) hb)
          have n4_ := Aside0.mk (Kd.N_elder' (Kd.N_go HO292.out) (Kd.N_base ho72) hb)
          have n5_ := Aside0.mk (Kd.N_lower ho72 (below_size (by repeat (first | (with_reducible first | exact HB.out | apply below_alloc | apply pw_below_drewN | apply below_drew1 | refine below_set ?_ GE265.out | refine below_set ?_ GE266.out | refine below_set ?_ GE285.out) | exact HB.out))))
          have n6_ := Aside0.mk (blk_below (blk_go BK265.out) hb)
          have n7_ := Aside0.mk (blk_below (blk_go BK266.out) hb)
          have n8_ := Aside0.mk (blk_below (blk_go BK285.out) hb)
          have n9_ := Aside0.mk (below_step (by repeat (first | (with_reducible first | exact HB.out | apply below_alloc | apply pw_below_drewN | apply below_drew1 | refine below_set ?_ GE265.out | refine below_set ?_ GE266.out | refine below_set ?_ GE285.out) | exact HB.out)) hb)
          clear HO_6
          clear HO_40
          clear HL284_1
          clear HL284_3
          clear HO292
          clear BK265
          clear BK266
          clear BK285
          clear HB
          clear HO296
          have HO_6 := n0_
          have HO_40 := n1_
          have HL284_1 := n2_
          have HL284_3 := n3_
          have HO292 := n4_
          have HO299 := n5_
          have BK265 := n6_
          have BK266 := n7_
          have BK285 := n8_
          have HB := n9_
          clear n0_ n1_ n2_ n3_ n4_ n5_ n6_ n7_ n8_ n9_
          clear hb ho72
          obtain ⟨Ao74, co74, eo74⟩ := Kd.N_slice HO299.out
          (first | subst eo74 | (injection eo74 with f1_ f2_ f3_; have f4_ := f1_.symm; have f5_ := f3_.symm; clear f1_ f2_ f3_; subst f4_; subst f5_))
          refine hK.out _ _ ⟨(blk_cell BK285.out 0).trans rfl, (blk_cell BK285.out 1).trans rfl, (blk_cell BK285.out 2).trans rfl, (blk_cell BK285.out 3).trans rfl⟩ (fun hHeld => ?_)
          clear hK K
          refine norm_ (a' := ?_) ?_ ?_
          rotate_left
          ·
           show Act.put _ (some 54) _ = _
           simp only [Act.put, List.setIfInBounds_toArray, List.set_cons_zero, List.set_cons_succ, i64_w, i32_w]
           rfl
          refine one_ (i := 9) (N := some 55) #[true, true, true, true, true, true, true, true, true, true, false] rfl rfl (one_of HT_.out (by kernel_rfl)) (by decide) (fun K hK => ?_)
          refine Kd.N_append_rows_step k24 (w0 := w) w.heap.size (by rfl) (.tmp 46) (.tmp 54) 52 24 (.agg #[(.string ⟨#[]⟩), (.slice none 0 0)]) 40 rfl Tryd.underlying52 info24 rfl (by decide) (by omega) u6 x6_2 y297 _ _ _ (fun k_ => some k_ ≠ (.slice (some ad284) x3_1.length co51 : Value).ownBlock ∧ some k_ ≠ (.slice Ao68 y290.length co68 : Value).ownBlock ∧ k_ ≠ gb265 ∧ k_ ≠ gb266 ∧ k_ ≠ gb285) (fun k_ => ((fun k_ => some k_ ≠ (.slice (some ad284) x3_1.length co51 : Value).ownBlock ∧ some k_ ≠ (.slice Ao68 y290.length co68 : Value).ownBlock ∧ k_ ≠ gb265 ∧ k_ ≠ gb266 ∧ k_ ≠ gb285)) k_ ∧ some k_ ≠ (u6 : Value).ownBlock) rfl rfl ?aO ?aR (fun _ hk => hk) ?aF ?aB ?aS ?aL ?_
          (case aR => exact (by skip; exact Kd.N_F (Kd.N_mono (ok' := (fun k_ => ((fun k_ => some k_ ≠ (.slice (some ad284) x3_1.length co51 : Value).ownBlock ∧ some k_ ≠ (.slice Ao68 y290.length co68 : Value).ownBlock ∧ k_ ≠ gb265 ∧ k_ ≠ gb266 ∧ k_ ≠ gb285)) k_ ∧ some k_ ≠ (u6 : Value).ownBlock)) (HO299.out) (fun k_ hk => ⟨⟨hk.2.1, ⟨hk.2.2.1, ⟨hk.2.2.2.1, ⟨hk.2.2.2.2.1, hk.2.2.2.2.2⟩⟩⟩⟩, hk.1⟩))))
          (case aB => exact (by repeat (first | (with_reducible first | exact HB.out | apply below_alloc | apply pw_below_drewN | apply below_drew1 | refine below_set ?_ GE265.out | refine below_set ?_ GE266.out | refine below_set ?_ GE285.out) | exact HB.out)))
          (case aF => exact (fun k_ hk => ⟨Kd.fresh' (Kd.N_lt (Kd.N_go HO_40.out)) k_ hk, Kd.fresh' (Kd.N_lt (Kd.N_go HO292.out)) k_ hk, Kd.freshB (g := gb265) (o := .cells #[.string a0_0, .slice A0_1 l0_1.length c0_1] 24 (0, 0)) (blk_go BK265.out) k_ hk, Kd.freshB (g := gb266) (o := .cells #[.string (⟨#[]⟩ : ByteArray), .slice none 0 0] 24 (0, 0)) (blk_go BK266.out) k_ hk, Kd.freshB (g := gb285) (o := .cells #[.string ((rd_T32 x3_1 x42_2).f0.f0), .slice A284_1 ((rd_T32 x3_1 x42_2).f0.f1).length c284_1, .string ((rd_T32 x3_1 x42_2).f1.f0), .slice A284_3 ((rd_T32 x3_1 x42_2).f1.f1).length c284_3] 32 (0, 0)) (blk_go BK285.out) k_ hk⟩))
          (case aO => exact (Kd.N_go (Kd.N_mono HO_6.out (fun _ hk => ⟨hk.1.1.1.1.1, ⟨hk.1.1.2, ⟨hk.1.1.1.1.2.1, ⟨hk.1.1.1.1.2.2.1, hk.1.1.1.1.2.2.2⟩⟩⟩⟩))))
          (case aS => exact (below_size (by repeat (first | (with_reducible first | exact HB.out | apply below_alloc | apply pw_below_drewN | apply below_drew1 | refine below_set ?_ GE265.out | refine below_set ?_ GE266.out | refine below_set ?_ GE285.out) | exact HB.out))))
          (case aL => have := LMc57.out; omega)
          intro v301 w73 ho hb hg hat
          rw [← Ny300.out] at ho
          have n0_ := Aside0.mk (Kd.N_afterv (ok := (fun k_ => some k_ ≠ (.slice Ao68 y290.length co68 : Value).ownBlock ∧ some k_ ≠ (.slice Ao74 y297.length co74 : Value).ownBlock ∧ k_ ≠ gb265 ∧ k_ ≠ gb266 ∧ k_ ≠ gb285)) (Kd.N_go (Kd.N_mono HO_40.out (fun _ hk => ⟨⟨hk.1.1.2, ⟨hk.2, ⟨hk.1.1.1.1.2.1, ⟨hk.1.1.1.1.2.2.1, hk.1.1.1.1.2.2.2⟩⟩⟩⟩, hk.1.1.1.1.1⟩))) hg hat)
          have n1_ := Aside0.mk (blk_grown (g := gb265) (o := .cells #[.string a0_0, .slice A0_1 l0_1.length c0_1] 24 (0, 0)) (blk_go BK265.out) hg (Kd.N_away HO_6.out (fun _ hk => hk.1.1.1.1.2.1)))
          have n2_ := Aside0.mk (blk_grown (g := gb266) (o := .cells #[.string (⟨#[]⟩ : ByteArray), .slice none 0 0] 24 (0, 0)) (blk_go BK266.out) hg (Kd.N_away HO_6.out (fun _ hk => hk.1.1.1.1.2.2.1)))
          have n3_ := Aside0.mk (Kd.V_afterv (ok := (fun k_ => some k_ ≠ (.slice (some ad284) x3_1.length co51 : Value).ownBlock ∧ some k_ ≠ (.slice Ao68 y290.length co68 : Value).ownBlock ∧ some k_ ≠ (.slice Ao74 y297.length co74 : Value).ownBlock ∧ k_ ≠ gb265 ∧ k_ ≠ gb266 ∧ k_ ≠ gb285)) (Kd.V_go (Kd.V_mono HL284_1.out (fun _ hk => ⟨⟨hk.1.1.1.1.2.1, ⟨hk.1.1.2, ⟨hk.2, ⟨hk.1.1.1.1.2.2.1, ⟨hk.1.1.1.1.2.2.2.1, hk.1.1.1.1.2.2.2.2⟩⟩⟩⟩⟩, hk.1.1.1.1.1⟩))) hg hat)
          have n4_ := Aside0.mk (Kd.V_afterv (ok := (fun k_ => some k_ ≠ (.slice (some ad284) x3_1.length co51 : Value).ownBlock ∧ some k_ ≠ (.slice Ao68 y290.length co68 : Value).ownBlock ∧ some k_ ≠ (.slice Ao74 y297.length co74 : Value).ownBlock ∧ k_ ≠ gb265 ∧ k_ ≠ gb266 ∧ k_ ≠ gb285)) (Kd.V_go (Kd.V_mono HL284_3.out (fun _ hk => ⟨⟨hk.1.1.1.1.2.1, ⟨hk.1.1.2, ⟨hk.2, ⟨hk.1.1.1.1.2.2.1, ⟨hk.1.1.1.1.2.2.2.1, hk.1.1.1.1.2.2.2.2⟩⟩⟩⟩⟩, hk.1.1.1.1.1⟩))) hg hat)
          have n5_ := Aside0.mk (blk_grown (g := gb285) (o := .cells #[.string ((rd_T32 x3_1 x42_2).f0.f0), .slice A284_1 ((rd_T32 x3_1 x42_2).f0.f1).length c284_1, .string ((rd_T32 x3_1 x42_2).f1.f0), .slice A284_3 ((rd_T32 x3_1 x42_2).f1.f1).length c284_3] 32 (0, 0)) (blk_go BK285.out) hg (Kd.N_ne HO_6.out BK285.out (by decide)))
          have n6_ := Aside0.mk (Kd.N_afterv (ok := (fun k_ => some k_ ≠ (.slice (some ad284) x3_1.length co51 : Value).ownBlock ∧ some k_ ≠ (.slice Ao74 y297.length co74 : Value).ownBlock ∧ k_ ≠ gb265 ∧ k_ ≠ gb266 ∧ k_ ≠ gb285)) (Kd.N_go (Kd.N_mono HO292.out (fun _ hk => ⟨⟨hk.1.1.2.1, ⟨hk.2, ⟨hk.1.1.2.2.1, ⟨hk.1.1.2.2.2.1, hk.1.1.2.2.2.2⟩⟩⟩⟩, hk.1.1.1⟩))) hg hat)
          have n7_ := Aside0.mk (Kd.N_afterv (ok := (fun k_ => some k_ ≠ (.slice (some ad284) x3_1.length co51 : Value).ownBlock ∧ some k_ ≠ (.slice Ao68 y290.length co68 : Value).ownBlock ∧ k_ ≠ gb265 ∧ k_ ≠ gb266 ∧ k_ ≠ gb285)) (Kd.N_go (Kd.N_mono HO299.out (fun _ hk => ⟨⟨hk.2.1, ⟨hk.2.2.1, ⟨hk.2.2.2.1, ⟨hk.2.2.2.2.1, hk.2.2.2.2.2⟩⟩⟩⟩, hk.1⟩))) hg hat)
          have n8_ := Aside0.mk (hb)
          have n9_ := Aside0.mk (ho)
          clear HO_40
          clear BK265
          clear BK266
          clear HL284_1
          clear HL284_3
          clear BK285
          clear HO292
          clear HO299
          clear HB
          clear HO_6
          have HO_40 := n0_
          have BK265 := n1_
          have BK266 := n2_
          have HL284_1 := n3_
          have HL284_3 := n4_
          have BK285 := n5_
          have HO292 := n6_
          have HO299 := n7_
          have HB := n8_
          have HO302 := n9_
          clear n0_ n1_ n2_ n3_ n4_ n5_ n6_ n7_ n8_ n9_
          clear ho hb hg hat
          refine hK.out _ _ ⟨(blk_cell BK285.out 0).trans rfl, (blk_cell BK285.out 1).trans rfl, (blk_cell BK285.out 2).trans rfl, (blk_cell BK285.out 3).trans rfl⟩ (fun hHeld => ?_)
          clear hK K
          refine norm_ (a' := ?_) ?_ ?_
          rotate_left
          ·
           show Act.put _ (some 55) _ = _
           simp only [Act.put, List.setIfInBounds_toArray, List.set_cons_zero, List.set_cons_succ, i64_w, i32_w]
           rfl
          refine pure_ (i := 10) (N := some 6) (v := ?_) (a' := ?_) #[true, true, true, true, true, true, true, true, true, true, true] rfl rfl (any_of HT_.out (by kernel_rfl)) (fun _ _ _ h => h) (Or.inl ⟨by rfl, ?_⟩) ?_ ?_
          rotate_left
          ·
           intro w'
           go_simp
           with_reducible rfl
          rotate_left
          ·
           simp only [Act.put, List.setIfInBounds_toArray, List.set_cons_zero, List.set_cons_succ, i64_w, i32_w]
           rfl
          refine done_ (done_of HT_.out (by kernel_rfl)) ?_
          try go_wp2
          go_roundg k2
          case measure => have := HK1.out; have := HK2.out; omega
          case rel => exact ⟨(y300), (wrap64 (x42_2 + 1)), (by first | rfl | (simp; done) | (simp [*]; done)), H', ⟨by have := HK1.out; have := HK2.out; omega⟩, ⟨by (with_reducible repeat (first | apply Kd.N_alloc | apply Kd.N_drewN | apply Kd.N_drew)); exact Kd.N_mono HO302.out (fun _ hk => ⟨hk.1, ⟨hk.2.2.1, hk.2.2.2.1⟩⟩)⟩, ⟨by (with_reducible repeat (first | apply Kd.N_alloc | apply Kd.N_drewN | apply Kd.N_drew)); exact Kd.N_mono HO_40.out (fun _ hk => ⟨hk.2, ⟨hk.1.2.2.1, hk.1.2.2.2.1⟩⟩)⟩, ⟨by (with_reducible repeat (first | refine blk_drewN ?_ _ | refine blk_drew ?_ | refine blk_alloc ?_ _)); exact BK265.out⟩, ⟨by (with_reducible repeat (first | refine blk_drewN ?_ _ | refine blk_drew ?_ | refine blk_alloc ?_ _)); exact BK266.out⟩, ⟨by repeat (first | (with_reducible first | exact HB.out | apply below_alloc | apply pw_below_drewN | apply below_drew1 | refine below_set ?_ GE265.out | refine below_set ?_ GE266.out | refine below_set ?_ GE285.out) | exact HB.out)⟩⟩
         ·
          rw [if_neg c57] at H
          exact absurd H (by simp)
        ·
         rw [if_neg c54] at H
         exact absurd H (by simp)
       ·
        rw [if_neg c53] at H
        exact absurd H (by simp)
      ·
       rw [if_neg c52] at H
       have c52b0 : decide (x42_2 < (x3_1.length : Int)) = false := decide_eq_false c52
       clear c52
       replace H := Option.bind_eq_some_iff.mp H
       obtain ⟨⟨t303, t304⟩, A750, H⟩ := H
       replace H : ((seek_Join.f k2 x6_2 t303 t304).bind fun bt307 => (some (bt307.1, bt307.2))) = some (r1, r2) := H
       have A75 := Aside0.mk A750
       clear A750
       replace H := Option.bind_eq_some_iff.mp H
       obtain ⟨⟨t307, t308⟩, A760, H⟩ := H
       replace H : (some (t307, t308)) = some (r1, r2) := H
       have A76 := Aside0.mk A760
       clear A760
       simp only [Option.some.injEq, Prod.mk.injEq] at H
       obtain ⟨rfl, rfl⟩ := H
       go_wp2_with (first | ((with_reducible refine gate_callee (f := 19) rfl ?_); refine goesL_ (some 58) rfl rfl Tryd.func19 (by kernel_rfl) rfl #[.string (⟨#[59]⟩ : ByteArray), .int .i64 0] rfl (by (try simp only [List.map_toArray, List.map_cons, List.map_nil]); first | done | rfl | (simp only [List.length_drop, List.length_take]; rfl)) ?_; (with_reducible refine (mark_Of.calls (⟨#[59]⟩ : ByteArray) 0 t303 t304 _ A75.out).mono ?_); rintro e w77 ⟨v305, rfl, ho0, hb⟩; refine ⟨_, rfl, ?_⟩; have n0_ := Aside0.mk (Kd.N_elder' (Kd.N_go HO_6.out) (Kd.R_base ho0) hb); have n1_ := Aside0.mk (Kd.N_elder' (Kd.N_go HO_40.out) (Kd.R_base ho0) hb); have n2_ := Aside0.mk (Kd.R_lower ho0 (below_size (by repeat (first | (with_reducible first | exact HB.out | apply below_alloc | apply pw_below_drewN | apply below_drew1 | refine below_set ?_ GE265.out | refine below_set ?_ GE266.out) | exact HB.out)))); have n3_ := Aside0.mk (blk_below (blk_go BK265.out) hb); have n4_ := Aside0.mk (blk_below (blk_go BK266.out) hb); have n5_ := Aside0.mk (below_step (by repeat (first | (with_reducible first | exact HB.out | apply below_alloc | apply pw_below_drewN | apply below_drew1 | refine below_set ?_ GE265.out | refine below_set ?_ GE266.out) | exact HB.out)) hb); clear HO_6; clear HO_40; clear BK265; clear BK266; clear HB; have HO_6 := n0_; have HO_40 := n1_; have HO306 := n2_; have BK265 := n3_; have BK266 := n4_; have HB := n5_; clear n0_ n1_ n2_ n3_ n4_ n5_; (try clear hb); (try clear hb2); (try clear hk); (try clear hi); (try clear ho0); obtain ⟨Ao78, co78, eo78⟩ := Kd.N_slice HO_6.out; subst eo78; obtain ⟨Ao79, co79, eo79⟩ := Kd.R_slice HO306.out; subst eo79) | ((with_reducible refine gate_callee (f := 31) rfl ?_); refine goesL_ (some 59) rfl rfl Tryd.func31 (by kernel_rfl) rfl #[.slice Ao78 x6_2.length co78, .agg #[.string t303, .slice Ao79 t304.length co79]] rfl (by (try simp only [List.map_toArray, List.map_cons, List.map_nil]); first | done | rfl | (simp only [List.length_drop, List.length_take]; rfl)) ?_; (with_reducible refine (seek_Join.calls k2 (fun k_ => ((some k_ ≠ (.slice Ao51 x3_1.length co51 : Value).ownBlock ∧ (k_ ≠ gb265 ∧ k_ ≠ gb266)) ∧ some k_ ≠ (.slice Ao79 t304.length co79 : Value).ownBlock)) _ _ x6_2 t303 (fun k_ => some k_ = (.slice Ao79 t304.length co79 : Value).ownBlock) _ _ t304 t307 t308 _ ?side1 ?side2 A76.out).mono ?_); (case side1 => exact Kd.N_V (HO_6.out)); (case side2 => exact Kd.R_V (Kd.R_tight rfl (Kd.R_types (Kd.R_types (Kd.R_apart' (Kd.R_apart' (HO306.out) (Kd.N_typed HO_6.out) (by decide)) (Kd.N_typed HO_40.out) (by decide)) BK265.out (by decide)) BK266.out (by decide)))); rintro e w80 ⟨v309, rfl, ho0, hb⟩; refine ⟨_, rfl, ?_⟩; have n0_ := Aside0.mk (Kd.N_elder' (Kd.N_go HO_6.out) (Kd.R_base ho0) hb); have n1_ := Aside0.mk (Kd.N_elder' (Kd.N_go HO_40.out) (Kd.R_base ho0) hb); have n2_ := Aside0.mk (Kd.R_elder' (Kd.R_go HO306.out) (Kd.R_base ho0) hb); have n3_ := Aside0.mk (Kd.R_lower (Kd.R_new' (Kd.R_mono (ok' := fun k_ => True) ho0 (fun _ hk_ => trivial)) (Kd.R_lt (Kd.R_go HO306.out))) (below_size (by repeat (first | (with_reducible first | exact HB.out | apply below_alloc | apply pw_below_drewN | apply below_drew1 | refine below_set ?_ GE265.out | refine below_set ?_ GE266.out) | exact HB.out)))); have n4_ := Aside0.mk (blk_below (blk_go BK265.out) hb); have n5_ := Aside0.mk (blk_below (blk_go BK266.out) hb); have n6_ := Aside0.mk (below_step (by repeat (first | (with_reducible first | exact HB.out | apply below_alloc | apply pw_below_drewN | apply below_drew1 | refine below_set ?_ GE265.out | refine below_set ?_ GE266.out) | exact HB.out)) hb); clear HO_6; clear HO_40; clear HO306; clear BK265; clear BK266; clear HB; have HO_6 := n0_; have HO_40 := n1_; have HO306 := n2_; have HO310 := n3_; have BK265 := n4_; have BK266 := n5_; have HB := n6_; clear n0_ n1_ n2_ n3_ n4_ n5_ n6_; (try clear hb); (try clear hb2); (try clear hk); (try clear hi); (try clear ho0); have hnb81 := NB266_265.out; have hnc81 := NB265_266.out; have hcz82_0 : w80.cell? ⟨gb266, 0, none⟩ = some (.string (⟨#[]⟩ : ByteArray)) := (blk_cell BK266.out 0).trans rfl; have hcz82_1 : w80.cell? ⟨gb266, 1, none⟩ = some (.slice none 0 0) := (blk_cell BK266.out 1).trans rfl; have hfz82_0 := blk_frozen BK266.out 0; have hfz82_1 := blk_frozen BK266.out 1; obtain ⟨Ao83, co83, eo83⟩ := Kd.R_slice HO310.out; subst eo83))
       refine bodyPost_ret (results_cell_row rfl _ _ gb266 24 #[.string t307, .slice Ao83 t308.length co83] (0, 0) _ rfl (by (with_reducible repeat (first | refine blk_drewN ?_ _ | refine blk_drew ?_ | refine blk_alloc ?_ _)); refine blk_put (cs := #[.string t307, .slice none 0 0]) ?_ 1 _ rfl; (with_reducible repeat (first | refine blk_drewN ?_ _ | refine blk_drew ?_ | refine blk_alloc ?_ _)); refine blk_put (cs := #[.string (⟨#[]⟩ : ByteArray), .slice none 0 0]) ?_ 0 _ rfl; (with_reducible repeat (first | refine blk_drewN ?_ _ | refine blk_drew ?_ | refine blk_alloc ?_ _)); exact BK266.out) Tryd.underlying24 rfl (by kernel_rfl)) rfl ?_
       exact ⟨_, by first | rfl | (simp [errW_none, errW_some] <;> rfl) | (simp [*, errW_none, errW_some] <;> rfl), by (with_reducible repeat (first | apply Kd.R_alloc | apply Kd.R_drewN | apply Kd.R_drew)); exact Kd.R_mono (Kd.R_far (p := ⟨gb266, 1, none⟩) (Kd.R_far (p := ⟨gb266, 0, none⟩) (Kd.R_types HO310.out BK266.out (by decide)) (fun _ hk => hk.2) (.string t307)) (fun _ hk => hk.2) (.slice Ao83 t308.length co83)) (fun _ hk => trivial), by repeat (first | (with_reducible first | exact HB.out | apply below_alloc | apply pw_below_drewN | apply below_drew1 | refine below_set ?_ GE265.out | refine below_set ?_ GE266.out) | exact HB.out)⟩

end Go.Proofs.YtljmmhihdcnbaaaDoor.G
