-- Written for this claim by hybrid.py's copy of the print program (a program of this session); not trusted: Lean checks it.
import Derived.Test.YtljmmhihdcnbaaaDoorG0
import Derived.Test.YtljmmhihdcnbaaaDoorVMore1
import Derived.Test.YtljmmhihdcnbaaaDoorG6
import Derived.Test.YtljmmhihdcnbaaaDoorG11
import Derived.Test.YtljmmhihdcnbaaaDoorG18
import Derived.Test.YtljmmhihdcnbaaaDoorG20
import Derived.Test.YtljmmhihdcnbaaaDoorG22
namespace Go.Proofs.YtljmmhihdcnbaaaDoor.G
open Go.RowKit Go.Proofs.YtljmmhihdcnbaaaDoorW.PrintWords Go.Proofs.YtljmmhihdcnbaaaDoorW.PrintLast Go.Proofs.YtljmmhihdcnbaaaDoorW.PrintMore
attribute [local go_sem] max2_int min2_int max_two min_two max_three min_three max_four min_four   -- for this text's walks alone
set_option linter.unusedVariables false
set_option linter.unusedSimpArgs false

/-! ### style_Parse: function 10 -/
def style_Parse.l0 : Nat → List (S32) → List (S24) → Int → Int → Option ((List (S32)))
 | 0, _, _, _, _ => none
 | k + 1, x3, x10, x11, x12 => if x12 < x11 then (if 0 ≤ x12 then (if x12 < (x10.length : Int) then ((seek_Index.f ((rd_T24 x10 x12).f0) ((rd_T24 x10 x12).f1) (⟨#[58]⟩ : ByteArray) 0).bind fun t167 => (if t167 < 0 then (style_Parse.l0 k x3 x10 x11 (wrap64 (x12 + 1))) else ((mark_Cut.f k ((rd_T24 x10 x12).f0) ((rd_T24 x10 x12).f1) 0 t167).bind fun bt168 => ((mark_Cut.f k ((rd_T24 x10 x12).f0) ((rd_T24 x10 x12).f1) (wrap64 (t167 + 1)) (((rd_T24 x10 x12).f0).size : Int)).bind fun bt172 => ((fold_Trim.f k bt168.1 bt168.2).bind fun bt178 => ((fold_Lower.f k bt178.1 bt178.2).bind fun bt182 => ((fold_Trim.f k bt172.1 bt172.2).bind fun bt186 => (if x3.length < 1759218604441 then (style_Parse.l0 k (x3 ++ [(⟨(⟨bt182.1, bt182.2⟩ : S24), (⟨bt186.1, bt186.2⟩ : S24)⟩ : S32)]) x10 x11 (wrap64 (x12 + 1))) else (none))))))))) else (none)) else (none)) else (some x3)
def style_Parse.f (k : Nat) (a0_0 : ByteArray) (l0_1 : List (S56)) : Option ((List (S32))) := (seek_Split.f k a0_0 l0_1 59).bind fun t162 => (style_Parse.l0 k ([] : List (S32)) t162 (t162.length : Int) 0)
theorem style_Parse.mono_l : ∀ k, (∀ y0 y1 y2 y3, LeO (style_Parse.l0 k y0 y1 y2 y3) (style_Parse.l0 (k + 1) y0 y1 y2 y3))
 | 0 => fun _ _ _ _ r h => by simp [style_Parse.l0] at h
 | k + 1 => by
  have ih0 := style_Parse.mono_l k
  ·
   intro y0 y1 y2 y3
   unfold style_Parse.l0
   repeat' first
   | (with_reducible exact ih0 _ _ _ _)
   | (with_reducible exact fold_Lower.mono _ _ _)
   | (with_reducible exact fold_Trim.mono _ _ _)
   | (with_reducible exact mark_Cut.mono _ _ _ _ _)
   | (with_reducible exact seek_Split.mono _ _ _ _)
   | (with_reducible exact LeO.refl _)
   | (with_reducible exact LeO.none _)
   | (with_reducible refine LeO.ite ?_ ?_)
   | (with_reducible refine LeO.bind ?_ (fun _ => ?_))
   | exact ih0 _ _ _ _
   | exact fold_Lower.mono _ _ _
   | exact fold_Trim.mono _ _ _
   | exact mark_Cut.mono _ _ _ _ _
   | exact seek_Split.mono _ _ _ _
   | exact LeO.none _
   | refine LeO.ite ?_ ?_
   | refine LeO.bind ?_ (fun _ => ?_)
theorem style_Parse.mono : ∀ a0 a1 k, LeO (style_Parse.f k a0 a1) (style_Parse.f (k + 1) a0 a1) := by
 intro a0 a1 k
 have ih0 := style_Parse.mono_l k
 unfold style_Parse.f
 repeat' first
   | (with_reducible exact ih0 _ _ _ _)
   | (with_reducible exact fold_Lower.mono _ _ _)
   | (with_reducible exact fold_Trim.mono _ _ _)
   | (with_reducible exact mark_Cut.mono _ _ _ _ _)
   | (with_reducible exact seek_Split.mono _ _ _ _)
   | (with_reducible exact LeO.refl _)
   | (with_reducible exact LeO.none _)
   | (with_reducible refine LeO.ite ?_ ?_)
   | (with_reducible refine LeO.bind ?_ (fun _ => ?_))
   | exact ih0 _ _ _ _
   | exact fold_Lower.mono _ _ _
   | exact fold_Trim.mono _ _ _
   | exact mark_Cut.mono _ _ _ _ _
   | exact seek_Split.mono _ _ _ _
   | exact LeO.none _
   | refine LeO.ite ?_ ?_
   | refine LeO.bind ?_ (fun _ => ?_)
def style_Parse.T7 : Bool × List (List Nat × List Nat) := (true, [([], []), ([], []), ([0, 1], [0, 1]), ([], []), ([], []), ([4], [4]), ([], []), ([6], [6]), ([7], [7]), ([3, 5, 8, 2], [3, 5, 8]), ([], []), ([], []), ([10, 2, 9, 0, 1, 2, 10, 11], [2, 10]), ([11, 9, 12, 0, 1, 2, 3, 4, 5, 6, 7, 8, 9, 10, 11, 12], [9, 11])])
def style_Parse.B7 : List Nat := [0, 0, 3, 0, 0, 16, 0, 64, 192, 511, 0, 0, 4095, 8191]
theorem style_Parse.tab7 : rtab .any (opsOf Tryd.f10 7) = style_Parse.T7 := by kernel_rfl
theorem style_Parse.bits7 : waitsOk style_Parse.T7.2 style_Parse.B7 = true := by kernel_rfl
def style_Parse.T8 : Bool × List (List Nat × List Nat) := (true, [([], []), ([], []), ([1], [1]), ([2, 2], [2]), ([], []), ([4, 3], [4]), ([3, 5], [3, 5]), ([6], [6]), ([0, 7, 5], [0, 7]), ([8, 8, 0, 1, 2, 3, 4, 5, 6, 7, 8], [0, 8])])
def style_Parse.B8 : List Nat := [0, 0, 2, 6, 0, 30, 62, 126, 255, 511]
theorem style_Parse.tab8 : rtab .any (opsOf Tryd.f10 8) = style_Parse.T8 := by kernel_rfl
theorem style_Parse.bits8 : waitsOk style_Parse.T8.2 style_Parse.B8 = true := by kernel_rfl
set_option maxHeartbeats 8000000 in
set_option maxRecDepth 100000 in
theorem style_Parse.calls (k : Nat) (a0_0 : ByteArray) (A0_1 : Option Addr) (c0_1 : Nat) (l0_1 : List (S56)) (r : List (S32)) (w : World) (hr0_1 : Kd.C k56 w A0_1 l0_1.length l0_1) (hc0_1 : l0_1.length ≤ c0_1) (h : style_Parse.f k a0_0 l0_1 = some r) :
  Calls Tryd.prog 10 #[.agg #[.string a0_0, .slice A0_1 l0_1.length c0_1]] w fun e w' => ∃ v0_ : Value, e = .returned (v0_) ∧ Kd.S k32 32 w' w.heap.size (fun _ => True) v0_ r ∧ Below w.heap.size w w' := by
 have hu24 := Tryd.underlying24
 have hu32 := Tryd.underlying32
 have HR0_1 := Aside0.mk hr0_1
 have HC0_1 := Aside0.mk hc0_1
 clear hr0_1 hc0_1
 have HB := Aside0.mk (Below.refl w.heap.size w)
 have H : ((seek_Split.f k a0_0 l0_1 59).bind fun t162 => (style_Parse.l0 k ([] : List (S32)) t162 (t162.length : Int) 0)) = some r := h
 clear h
 replace H := Option.bind_eq_some_iff.mp H
 obtain ⟨t162, A20, H⟩ := H
 replace H : (style_Parse.l0 k ([] : List (S32)) t162 (t162.length : Int) 0) = some r := H
 have A2 := Aside0.mk A20
 clear A20
 have H' := Aside0.mk H
 clear H
 go_enter Tryd.func10, Tryd.ntmps10
 go_wp2_with (first | ((with_reducible refine gate_dst (N := 1) rfl ?_); refine box_event ?hg (N := 1) ?hd (cs := #[.string a0_0, .slice A0_1 l0_1.length c0_1]) (t := 24) ?hr ?_; (case hd => rfl); (case hg => rfl); (case hr => first | (go_simp; done) | (go_simp; rfl)); intro gb161 hg w3 hbox hb; have n0_ := Aside0.mk (below_step (by repeat (first | (with_reducible first | exact HB.out | apply below_alloc | apply pw_below_drewN | apply below_drew1) | exact HB.out)) hb); have n1_ := Aside0.mk (hbox); have n2_ := Aside0.mk ((by rw [hg]; exact (below_size (by repeat (first | (with_reducible first | exact HB.out | apply below_alloc | apply pw_below_drewN | apply below_drew1) | exact HB.out))) : w.heap.size ≤ gb161)); have n3_ := Aside0.mk ((by rw [hg]; exact (below_size (by repeat (first | (with_reducible first | exact HB.out | apply below_alloc | apply pw_below_drewN | apply below_drew1) | exact HB.out))) : w.heap.size ≤ gb161)); clear HB; have HB := n0_; have BK161 := n1_; have GW161 := n2_; have GE161 := n3_; clear n0_ n1_ n2_ n3_; clear hb hbox hg; have hcz4_0 : w3.cell? ⟨gb161, 0, none⟩ = some (.string a0_0) := (blk_cell BK161.out 0).trans rfl; have hcz4_1 : w3.cell? ⟨gb161, 1, none⟩ = some (.slice A0_1 l0_1.length c0_1) := (blk_cell BK161.out 1).trans rfl; have hfz4_0 := blk_frozen BK161.out 0; have hfz4_1 := blk_frozen BK161.out 1) | ((with_reducible refine gate_callee (f := 35) rfl ?_); refine goesL_ (some 10) rfl rfl Tryd.func35 (by kernel_rfl) rfl #[.agg #[.string a0_0, .slice A0_1 l0_1.length c0_1], .int .u8 59] rfl (by (try simp only [List.map_toArray, List.map_cons, List.map_nil]); first | done | rfl | (simp only [List.length_drop, List.length_take]; rfl)) ?_; (with_reducible refine (seek_Split.calls k a0_0 _ _ l0_1 59 t162 _ ?side1 ?side2 A2.out).mono ?_); (case side1 => repeat (first | exact (Kd.C_below HR0_1.out HB.out) | (with_reducible refine Kd.C_alloc ?_ _) | (with_reducible refine Kd.C_drewN ?_ _) | (with_reducible refine Kd.C_drew ?_))); (case side2 => exact HC0_1.out); rintro e w5 ⟨v163, rfl, ho0, hb⟩; refine ⟨_, rfl, ?_⟩; have n0_ := Aside0.mk (Kd.S_lower (Kd.S_newB ho0 (g := gb161) (o := .cells #[.string a0_0, .slice A0_1 l0_1.length c0_1] 24 (0, 0)) (by (with_reducible repeat (first | refine blk_drewN ?_ _ | refine blk_drew ?_ | refine blk_alloc ?_ _)); exact BK161.out)) (below_size (by repeat (first | (with_reducible first | exact HB.out | apply below_alloc | apply pw_below_drewN | apply below_drew1 | refine below_set ?_ GE161.out) | exact HB.out)))); have n1_ := Aside0.mk (blk_below (g := gb161) (o := .cells #[.string a0_0, .slice A0_1 l0_1.length c0_1] 24 (0, 0)) (by (with_reducible repeat (first | refine blk_drewN ?_ _ | refine blk_drew ?_ | refine blk_alloc ?_ _)); exact BK161.out) hb); have n2_ := Aside0.mk (below_step (by repeat (first | (with_reducible first | exact HB.out | apply below_alloc | apply pw_below_drewN | apply below_drew1 | refine below_set ?_ GE161.out) | exact HB.out)) hb); clear BK161; clear HB; have HO164 := n0_; have BK161 := n1_; have HB := n2_; clear n0_ n1_ n2_; (try clear hb); (try clear hb2); (try clear hk); (try clear hi); (try clear ho0); obtain ⟨Ao6, co6, eo6⟩ := Kd.S_slice HO164.out; subst eo6))
 go_loopg [3, 12] k (fun kq v3 v12 w' => ∃ (x3_1 : List (S32)) (x12_1 : Int), v12 = .int .i64 x12_1 ∧ Aside0 (style_Parse.l0 kq x3_1 t162 (t162.length : Int) x12_1 = some r) ∧ Aside0 (kq ≤ k) ∧ Aside0 (Kd.S k32 32 w' w.heap.size (fun _ => True) v3 x3_1) ∧ Aside0 (Kd.S k24 24 w' w.heap.size (fun k_ => k_ ≠ gb161) (.slice Ao6 t162.length co6) t162) ∧ Aside0 (w'.heap[gb161]? = some (.cells #[.string a0_0, (.slice A0_1 l0_1.length c0_1)] 24 (0, 0))) ∧ Aside0 (Below w.heap.size w w'))
 case atStart => exact ⟨(([] : List (S32))), (0), (by first | rfl | (simp; done) | (simp [*]; done)), H', ⟨Nat.le_refl _⟩, ⟨by first | exact Kd.S_nil _ _ _ _ _ | exact Kd.N_nil _ _ _ _ _ | exact Kd.V_nil _ _ _ _ _ | exact Kd.Q_nil _ _ _ _ _ | exact Kd.R_nil _ _ _ _ _⟩, ⟨by (with_reducible repeat (first | apply Kd.S_alloc | apply Kd.S_drewN | apply Kd.S_drew)); exact Kd.S_mono HO164.out (fun _ hk => hk.2)⟩, ⟨by (with_reducible repeat (first | refine blk_drewN ?_ _ | refine blk_drew ?_ | refine blk_alloc ?_ _)); exact BK161.out⟩, ⟨by repeat (first | (with_reducible first | exact HB.out | apply below_alloc | apply pw_below_drewN | apply below_drew1 | refine below_set ?_ GE161.out) | exact HB.out)⟩⟩
 case round =>
  clear H'
  try clear c1
  try clear p2
  try clear c3
  try clear hcz4_0
  try clear hcz4_1
  try clear hfz4_0
  try clear hfz4_1
  obtain ⟨x3_1, x12_1, rfl, HA, HK1, HO_3, HO_10, BK161, HB⟩ := hrel
  cases gk with
  | zero => exact absurd HA.out (by simp [style_Parse.l0])
  | succ k1 =>
   have H := HA.out
   clear HA
   simp only [style_Parse.l0] at H
   by_cases c7 : x12_1 < (t162.length : Int)
   ·
    rw [if_pos c7] at H
    have c7b0 : decide (x12_1 < (t162.length : Int)) = true := decide_eq_true c7
    clear c7
    by_cases c8 : 0 ≤ x12_1
    ·
     rw [if_pos c8] at H
     have c8b0 : decide (0 ≤ x12_1) = true := decide_eq_true c8
     clear c8
     by_cases c9 : x12_1 < (t162.length : Int)
     ·
      rw [if_pos c9] at H
      have c9b0 : decide (x12_1 < (t162.length : Int)) = true := decide_eq_true c9
      clear c9
      replace H := Option.bind_eq_some_iff.mp H
      obtain ⟨t167, A100, H⟩ := H
      replace H : (if t167 < 0 then (style_Parse.l0 k1 x3_1 t162 (t162.length : Int) (wrap64 (x12_1 + 1))) else ((mark_Cut.f k1 ((rd_T24 t162 x12_1).f0) ((rd_T24 t162 x12_1).f1) 0 t167).bind fun bt168 => ((mark_Cut.f k1 ((rd_T24 t162 x12_1).f0) ((rd_T24 t162 x12_1).f1) (wrap64 (t167 + 1)) (((rd_T24 t162 x12_1).f0).size : Int)).bind fun bt172 => ((fold_Trim.f k1 bt168.1 bt168.2).bind fun bt178 => ((fold_Lower.f k1 bt178.1 bt178.2).bind fun bt182 => ((fold_Trim.f k1 bt172.1 bt172.2).bind fun bt186 => (if x3_1.length < 1759218604441 then (style_Parse.l0 k1 (x3_1 ++ [(⟨(⟨bt182.1, bt182.2⟩ : S24), (⟨bt186.1, bt186.2⟩ : S24)⟩ : S32)]) t162 (t162.length : Int) (wrap64 (x12_1 + 1))) else (none)))))))) = some r := H
      have A10 := Aside0.mk A100
      clear A100
      by_cases c11 : t167 < 0
      ·
       rw [if_pos c11] at H
       have c11b0 : decide (t167 < 0) = true := decide_eq_true c11
       clear c11
       have H' := Aside0.mk H
       clear H
       have p165 : 0 ≤ (x12_1 : Int) := of_decide_eq_true (by first | (with_reducible assumption) | assumption)
       have q165 : x12_1 < (t162.length : Int) := of_decide_eq_true (by first | (with_reducible assumption) | assumption)
       obtain ⟨ad165, A165_1, c165_1, e165, hx165_0, hx165_1, hl165_1, hi165_1⟩ := at_T24 (Kd.S_reads' HO_10.out).2.2 x12_1 p165 q165
       cases e165
       obtain ⟨ce165, hce165, hMe165, hcc165⟩ := Kd.S_get HO_10.out z24 x12_1 p165 (by first | exact q165 | exact of_decide_eq_true (by first | (with_reducible assumption) | assumption) | (have e_ := (Kd.S_reads' HO_10.out).1; omega))
       obtain ⟨ve165_1, rfl, ge165_1⟩ := k24_openM hMe165
       have hv165_1 := hcc165 1 _ rfl
       rw [add_field _ _ 1 (by omega)] at hv165_1
       replace hv165_1 := Option.some.inj (hv165_1.symm.trans hx165_1)
       rw [hv165_1] at ge165_1
       have HL165_1 := Aside0.mk (show Kd.R k56 56 _ _ _ _ ((rd_T24 t162 x12_1).f1) from ge165_1)
       clear hv165_1 ge165_1
       clear hcc165 hce165
       have HR165_1 := Aside0.mk hi165_1
       have HC165_1 := Aside0.mk hl165_1
       clear hi165_1 hl165_1
       replace p165 := eq_true p165
       replace q165 := eq_true q165
       go_wp2_with (first | ((with_reducible refine gate_dst (N := 5) rfl ?_); refine box_event ?hg (N := 5) ?hd (cs := #[.string (⟨#[]⟩ : ByteArray), .slice none 0 0]) (t := 24) ?hr ?_; (case hd => rfl); (case hg => rfl); (case hr => first | (go_simp; done) | (go_simp; rfl)); intro gb166 hg w12 hbox hb; have n0_ := Aside0.mk (Kd.S_below (by (with_reducible repeat (first | apply Kd.S_alloc | apply Kd.S_drewN | apply Kd.S_drew)); exact HO_3.out) hb); have n1_ := Aside0.mk (Kd.S_below (Kd.S_elderB (by (with_reducible repeat (first | apply Kd.S_alloc | apply Kd.S_drewN | apply Kd.S_drew)); exact HO_10.out) gb166 (Nat.le_of_eq hg.symm)) hb); have n2_ := Aside0.mk (Kd.R_below (by (with_reducible repeat (first | apply Kd.R_alloc | apply Kd.R_drewN | apply Kd.R_drew)); exact HL165_1.out) hb); have n3_ := Aside0.mk (blk_below (g := gb161) (o := .cells #[.string a0_0, .slice A0_1 l0_1.length c0_1] 24 (0, 0)) (by (with_reducible repeat (first | refine blk_drewN ?_ _ | refine blk_drew ?_ | refine blk_alloc ?_ _)); exact BK161.out) hb); have n4_ := Aside0.mk (Kd.C_below (by repeat (first | (with_reducible exact HR165_1.out) | (with_reducible refine Kd.C_alloc ?_ _) | (with_reducible refine Kd.C_drewN ?_ _) | (with_reducible refine Kd.C_drew ?_) | exact HR165_1.out)) hb); have n5_ := Aside0.mk (below_step (by repeat (first | (with_reducible first | exact HB.out | apply below_alloc | apply pw_below_drewN | apply below_drew1 | refine below_set ?_ GE161.out) | exact HB.out)) hb); have n6_ := Aside0.mk (hbox); have n7_ := Aside0.mk ((by rw [hg]; exact (below_size (by repeat (first | (with_reducible first | exact HB.out | apply below_alloc | apply pw_below_drewN | apply below_drew1 | refine below_set ?_ GE161.out) | exact HB.out))) : w.heap.size ≤ gb166)); have n8_ := Aside0.mk ((by rw [hg]; exact (below_size (by repeat (first | (with_reducible first | exact HB.out | apply below_alloc | apply pw_below_drewN | apply below_drew1 | refine below_set ?_ GE161.out) | exact HB.out))) : w.heap.size ≤ gb166)); have n9_ := Aside0.mk ((by rw [hg]; exact Nat.ne_of_lt (blk_lt (g := gb161) (o := .cells #[.string a0_0, .slice A0_1 l0_1.length c0_1] 24 (0, 0)) (by (with_reducible repeat (first | refine blk_drewN ?_ _ | refine blk_drew ?_ | refine blk_alloc ?_ _)); exact BK161.out)) : gb161 ≠ gb166)); have n10_ := Aside0.mk ((by rw [hg]; exact Nat.ne_of_gt (blk_lt (g := gb161) (o := .cells #[.string a0_0, .slice A0_1 l0_1.length c0_1] 24 (0, 0)) (by (with_reducible repeat (first | refine blk_drewN ?_ _ | refine blk_drew ?_ | refine blk_alloc ?_ _)); exact BK161.out)) : gb166 ≠ gb161)); clear HO_3; clear HO_10; clear HL165_1; clear BK161; clear HR165_1; clear HB; have HO_3 := n0_; have HO_10 := n1_; have HL165_1 := n2_; have BK161 := n3_; have HR165_1 := n4_; have HB := n5_; have BK166 := n6_; have GW166 := n7_; have GE166 := n8_; have NB161_166 := n9_; have NB166_161 := n10_; clear n0_ n1_ n2_ n3_ n4_ n5_ n6_ n7_ n8_ n9_ n10_; clear hb hbox hg; have hnb13 := NB166_161.out; have hnc13 := NB161_166.out; have hcz14_0 : w12.cell? ⟨gb166, 0, none⟩ = some (.string (⟨#[]⟩ : ByteArray)) := (blk_cell BK166.out 0).trans rfl; have hcz14_1 : w12.cell? ⟨gb166, 1, none⟩ = some (.slice none 0 0) := (blk_cell BK166.out 1).trans rfl; have hfz14_0 := blk_frozen BK166.out 0; have hfz14_1 := blk_frozen BK166.out 1) | ((with_reducible refine gate_callee (f := 36) rfl ?_); refine goesL_ (some 17) rfl rfl Tryd.func36 (by kernel_rfl) rfl #[.agg #[.string ((rd_T24 t162 x12_1).f0), .slice A165_1 ((rd_T24 t162 x12_1).f1).length c165_1], .string (⟨#[58]⟩ : ByteArray), .int .i64 0] rfl (by (try simp only [List.map_toArray, List.map_cons, List.map_nil]); first | done | rfl | (simp only [List.length_drop, List.length_take]; rfl)) ?_; (with_reducible refine (seek_Index.calls ((rd_T24 t162 x12_1).f0) _ _ ((rd_T24 t162 x12_1).f1) (⟨#[58]⟩ : ByteArray) 0 t167 _ ?side1 ?side2 A10.out).mono ?_); (case side1 => repeat (first | exact ((Kd.R_reads' (by (with_reducible repeat (first | apply Kd.R_alloc | apply Kd.R_drewN | apply Kd.R_drew)); exact (Kd.R_mono (Kd.R_far (p := ⟨gb166, 1, none⟩) (Kd.R_far (p := ⟨gb166, 0, none⟩) (Kd.R_types HL165_1.out BK166.out (by decide)) (fun _ hk => hk.2) (.string ((rd_T24 t162 x12_1).f0))) (fun _ hk => hk.2) (.slice A165_1 ((rd_T24 t162 x12_1).f1).length c165_1)) (fun _ h_ => h_.1)))).2.2) | (with_reducible refine Kd.C_alloc ?_ _) | (with_reducible refine Kd.C_drewN ?_ _) | (with_reducible refine Kd.C_drew ?_))); (case side2 => exact HC165_1.out); rintro e w15 ⟨rfl, hb⟩; refine ⟨_, rfl, ?_⟩; have n0_ := Aside0.mk (Kd.S_below (by (with_reducible repeat (first | apply Kd.S_alloc | apply Kd.S_drewN | apply Kd.S_drew)); exact (Kd.S_mono (Kd.S_far (p := ⟨gb166, 1, none⟩) (Kd.S_far (p := ⟨gb166, 0, none⟩) (Kd.S_types HO_3.out BK166.out (by decide)) (fun _ hk => hk.2) (.string ((rd_T24 t162 x12_1).f0))) (fun _ hk => hk.2) (.slice A165_1 ((rd_T24 t162 x12_1).f1).length c165_1)) (fun _ h_ => h_.1))) hb); have n1_ := Aside0.mk (Kd.S_below (by (with_reducible repeat (first | apply Kd.S_alloc | apply Kd.S_drewN | apply Kd.S_drew)); exact (Kd.S_mono (Kd.S_far (p := ⟨gb166, 1, none⟩) (Kd.S_far (p := ⟨gb166, 0, none⟩) (Kd.S_mono HO_10.out (fun k_ hk => (⟨hk, hk.2⟩ : _ ∧ k_ ≠ gb166))) (fun _ hk => hk.2) (.string ((rd_T24 t162 x12_1).f0))) (fun _ hk => hk.2) (.slice A165_1 ((rd_T24 t162 x12_1).f1).length c165_1)) (fun _ h_ => h_.1))) hb); have n2_ := Aside0.mk (Kd.R_below (by (with_reducible repeat (first | apply Kd.R_alloc | apply Kd.R_drewN | apply Kd.R_drew)); exact (Kd.R_mono (Kd.R_far (p := ⟨gb166, 1, none⟩) (Kd.R_far (p := ⟨gb166, 0, none⟩) (Kd.R_types HL165_1.out BK166.out (by decide)) (fun _ hk => hk.2) (.string ((rd_T24 t162 x12_1).f0))) (fun _ hk => hk.2) (.slice A165_1 ((rd_T24 t162 x12_1).f1).length c165_1)) (fun _ h_ => h_.1))) hb); have n3_ := Aside0.mk (blk_below (g := gb161) (o := .cells #[.string a0_0, .slice A0_1 l0_1.length c0_1] 24 (0, 0)) (by (with_reducible repeat (first | refine blk_drewN ?_ _ | refine blk_drew ?_ | refine blk_alloc ?_ _)); refine blk_far ?_ NB161_166.out _; (with_reducible repeat (first | refine blk_drewN ?_ _ | refine blk_drew ?_ | refine blk_alloc ?_ _)); refine blk_far ?_ NB161_166.out _; (with_reducible repeat (first | refine blk_drewN ?_ _ | refine blk_drew ?_ | refine blk_alloc ?_ _)); exact BK161.out) hb); have n4_ := Aside0.mk (Kd.C_below ((Kd.R_reads' (by (with_reducible repeat (first | apply Kd.R_alloc | apply Kd.R_drewN | apply Kd.R_drew)); exact (Kd.R_mono (Kd.R_far (p := ⟨gb166, 1, none⟩) (Kd.R_far (p := ⟨gb166, 0, none⟩) (Kd.R_types HL165_1.out BK166.out (by decide)) (fun _ hk => hk.2) (.string ((rd_T24 t162 x12_1).f0))) (fun _ hk => hk.2) (.slice A165_1 ((rd_T24 t162 x12_1).f1).length c165_1)) (fun _ h_ => h_.1)))).2.2) hb); have n5_ := Aside0.mk (blk_below (g := gb166) (o := .cells #[.string ((rd_T24 t162 x12_1).f0), .slice A165_1 ((rd_T24 t162 x12_1).f1).length c165_1] 24 (0, 0)) (by (with_reducible repeat (first | refine blk_drewN ?_ _ | refine blk_drew ?_ | refine blk_alloc ?_ _)); refine blk_put (cs := #[.string ((rd_T24 t162 x12_1).f0), .slice none 0 0]) ?_ 1 _ rfl; (with_reducible repeat (first | refine blk_drewN ?_ _ | refine blk_drew ?_ | refine blk_alloc ?_ _)); refine blk_put (cs := #[.string (⟨#[]⟩ : ByteArray), .slice none 0 0]) ?_ 0 _ rfl; (with_reducible repeat (first | refine blk_drewN ?_ _ | refine blk_drew ?_ | refine blk_alloc ?_ _)); exact BK166.out) hb); have n6_ := Aside0.mk (below_step (by repeat (first | (with_reducible first | exact HB.out | apply below_alloc | apply pw_below_drewN | apply below_drew1 | refine below_set ?_ GE161.out | refine below_set ?_ GE166.out) | exact HB.out)) hb); clear HO_3; clear HO_10; clear HL165_1; clear BK161; clear HR165_1; clear BK166; clear HB; have HO_3 := n0_; have HO_10 := n1_; have HL165_1 := n2_; have BK161 := n3_; have HR165_1 := n4_; have BK166 := n5_; have HB := n6_; clear n0_ n1_ n2_ n3_ n4_ n5_ n6_; (try clear hb); (try clear hb2); (try clear hk); (try clear hi)))
       go_roundg k1
       case measure => have := HK1.out; omega
       case rel => exact ⟨(x3_1), (wrap64 (x12_1 + 1)), (by first | rfl | (simp; done) | (simp [*]; done)), H', ⟨by have := HK1.out; omega⟩, ⟨by (with_reducible repeat (first | apply Kd.S_alloc | apply Kd.S_drewN | apply Kd.S_drew)); exact HO_3.out⟩, ⟨by (with_reducible repeat (first | apply Kd.S_alloc | apply Kd.S_drewN | apply Kd.S_drew)); exact Kd.S_mono HO_10.out (fun _ hk => hk.1)⟩, ⟨by (with_reducible repeat (first | refine blk_drewN ?_ _ | refine blk_drew ?_ | refine blk_alloc ?_ _)); exact BK161.out⟩, ⟨by repeat (first | (with_reducible first | exact HB.out | apply below_alloc | apply pw_below_drewN | apply below_drew1 | refine below_set ?_ GE161.out | refine below_set ?_ GE166.out) | exact HB.out)⟩⟩
      ·
       rw [if_neg c11] at H
       have c11b0 : decide (t167 < 0) = false := decide_eq_false c11
       clear c11
       replace H := Option.bind_eq_some_iff.mp H
       obtain ⟨⟨t168, t169⟩, A160, H⟩ := H
       replace H : ((mark_Cut.f k1 ((rd_T24 t162 x12_1).f0) ((rd_T24 t162 x12_1).f1) (wrap64 (t167 + 1)) (((rd_T24 t162 x12_1).f0).size : Int)).bind fun bt172 => ((fold_Trim.f k1 t168 t169).bind fun bt178 => ((fold_Lower.f k1 bt178.1 bt178.2).bind fun bt182 => ((fold_Trim.f k1 bt172.1 bt172.2).bind fun bt186 => (if x3_1.length < 1759218604441 then (style_Parse.l0 k1 (x3_1 ++ [(⟨(⟨bt182.1, bt182.2⟩ : S24), (⟨bt186.1, bt186.2⟩ : S24)⟩ : S32)]) t162 (t162.length : Int) (wrap64 (x12_1 + 1))) else (none)))))) = some r := H
       have A16 := Aside0.mk A160
       clear A160
       replace H := Option.bind_eq_some_iff.mp H
       obtain ⟨⟨t172, t173⟩, A170, H⟩ := H
       replace H : ((fold_Trim.f k1 t168 t169).bind fun bt178 => ((fold_Lower.f k1 bt178.1 bt178.2).bind fun bt182 => ((fold_Trim.f k1 t172 t173).bind fun bt186 => (if x3_1.length < 1759218604441 then (style_Parse.l0 k1 (x3_1 ++ [(⟨(⟨bt182.1, bt182.2⟩ : S24), (⟨bt186.1, bt186.2⟩ : S24)⟩ : S32)]) t162 (t162.length : Int) (wrap64 (x12_1 + 1))) else (none))))) = some r := H
       have A17 := Aside0.mk A170
       clear A170
       replace H := Option.bind_eq_some_iff.mp H
       obtain ⟨⟨t178, t179⟩, A180, H⟩ := H
       replace H : ((fold_Lower.f k1 t178 t179).bind fun bt182 => ((fold_Trim.f k1 t172 t173).bind fun bt186 => (if x3_1.length < 1759218604441 then (style_Parse.l0 k1 (x3_1 ++ [(⟨(⟨bt182.1, bt182.2⟩ : S24), (⟨bt186.1, bt186.2⟩ : S24)⟩ : S32)]) t162 (t162.length : Int) (wrap64 (x12_1 + 1))) else (none)))) = some r := H
       have A18 := Aside0.mk A180
       clear A180
       replace H := Option.bind_eq_some_iff.mp H
       obtain ⟨⟨t182, t183⟩, A190, H⟩ := H
       replace H : ((fold_Trim.f k1 t172 t173).bind fun bt186 => (if x3_1.length < 1759218604441 then (style_Parse.l0 k1 (x3_1 ++ [(⟨(⟨t182, t183⟩ : S24), (⟨bt186.1, bt186.2⟩ : S24)⟩ : S32)]) t162 (t162.length : Int) (wrap64 (x12_1 + 1))) else (none))) = some r := H
       have A19 := Aside0.mk A190
       clear A190
       replace H := Option.bind_eq_some_iff.mp H
       obtain ⟨⟨t186, t187⟩, A200, H⟩ := H
       replace H : (if x3_1.length < 1759218604441 then (style_Parse.l0 k1 (x3_1 ++ [(⟨(⟨t182, t183⟩ : S24), (⟨t186, t187⟩ : S24)⟩ : S32)]) t162 (t162.length : Int) (wrap64 (x12_1 + 1))) else (none)) = some r := H
       have A20 := Aside0.mk A200
       clear A200
       by_cases c21 : x3_1.length < 1759218604441
       ·
        rw [if_pos c21] at H
        have LMc21 := Aside0.mk c21
        clear c21
        obtain ⟨y190, hy190⟩ : ∃ y_ : List (S32), y_ = (x3_1 ++ [(⟨(⟨t182, t183⟩ : S24), (⟨t186, t187⟩ : S24)⟩ : S32)]) := ⟨_, rfl⟩
        replace H : (style_Parse.l0 k1 y190 t162 (t162.length : Int) (wrap64 (x12_1 + 1))) = some r := by first | (rw [hy190]; with_reducible exact H) | (have H2_ := (Option.bind_some _ _).symm.trans H; rw [hy190]; with_reducible exact H2_) | (have H2_ := (Option.bind_some _ _).symm.trans H; with_reducible exact H2_) | with_reducible exact H | (rw [hy190]; exact H) | exact H
        have Ny190 := Aside0.mk hy190
        clear hy190
        have H' := Aside0.mk H
        clear H
        have p165 : 0 ≤ (x12_1 : Int) := of_decide_eq_true (by first | (with_reducible assumption) | assumption)
        have q165 : x12_1 < (t162.length : Int) := of_decide_eq_true (by first | (with_reducible assumption) | assumption)
        obtain ⟨ad165, A165_1, c165_1, e165, hx165_0, hx165_1, hl165_1, hi165_1⟩ := at_T24 (Kd.S_reads' HO_10.out).2.2 x12_1 p165 q165
        cases e165
        obtain ⟨ce165, hce165, hMe165, hcc165⟩ := Kd.S_get HO_10.out z24 x12_1 p165 (by first | exact q165 | exact of_decide_eq_true (by first | (with_reducible assumption) | assumption) | (have e_ := (Kd.S_reads' HO_10.out).1; omega))
        obtain ⟨ve165_1, rfl, ge165_1⟩ := k24_openM hMe165
        have hv165_1 := hcc165 1 _ rfl
        rw [add_field _ _ 1 (by omega)] at hv165_1
        replace hv165_1 := Option.some.inj (hv165_1.symm.trans hx165_1)
        rw [hv165_1] at ge165_1
        have HL165_1 := Aside0.mk (show Kd.R k56 56 _ _ _ _ ((rd_T24 t162 x12_1).f1) from ge165_1)
        clear hv165_1 ge165_1
        clear hcc165 hce165
        have HR165_1 := Aside0.mk hi165_1
        have HC165_1 := Aside0.mk hl165_1
        clear hi165_1 hl165_1
        replace p165 := eq_true p165
        replace q165 := eq_true q165
        try go_wp2_with (first | ((with_reducible refine gate_dst (N := 5) rfl ?_); refine box_event ?hg (N := 5) ?hd (cs := #[.string (⟨#[]⟩ : ByteArray), .slice none 0 0]) (t := 24) ?hr ?_; (case hd => rfl); (case hg => rfl); (case hr => first | (go_simp; done) | (go_simp; rfl)); intro gb166 hg w22 hbox hb; have n0_ := Aside0.mk (Kd.S_below (by (with_reducible repeat (first | apply Kd.S_alloc | apply Kd.S_drewN | apply Kd.S_drew)); exact HO_3.out) hb); have n1_ := Aside0.mk (Kd.S_below (Kd.S_elderB (by (with_reducible repeat (first | apply Kd.S_alloc | apply Kd.S_drewN | apply Kd.S_drew)); exact HO_10.out) gb166 (Nat.le_of_eq hg.symm)) hb); have n2_ := Aside0.mk (Kd.R_below (by (with_reducible repeat (first | apply Kd.R_alloc | apply Kd.R_drewN | apply Kd.R_drew)); exact HL165_1.out) hb); have n3_ := Aside0.mk (blk_below (g := gb161) (o := .cells #[.string a0_0, .slice A0_1 l0_1.length c0_1] 24 (0, 0)) (by (with_reducible repeat (first | refine blk_drewN ?_ _ | refine blk_drew ?_ | refine blk_alloc ?_ _)); exact BK161.out) hb); have n4_ := Aside0.mk (Kd.C_below (by repeat (first | (with_reducible exact HR165_1.out) | (with_reducible refine Kd.C_alloc ?_ _) | (with_reducible refine Kd.C_drewN ?_ _) | (with_reducible refine Kd.C_drew ?_) | exact HR165_1.out)) hb); have n5_ := Aside0.mk (below_step (by repeat (first | (with_reducible first | exact HB.out | apply below_alloc | apply pw_below_drewN | apply below_drew1 | refine below_set ?_ GE161.out) | exact HB.out)) hb); have n6_ := Aside0.mk (hbox); have n7_ := Aside0.mk ((by rw [hg]; exact (below_size (by repeat (first | (with_reducible first | exact HB.out | apply below_alloc | apply pw_below_drewN | apply below_drew1 | refine below_set ?_ GE161.out) | exact HB.out))) : w.heap.size ≤ gb166)); have n8_ := Aside0.mk ((by rw [hg]; exact (below_size (by repeat (first | (with_reducible first | exact HB.out | apply below_alloc | apply pw_below_drewN | apply below_drew1 | refine below_set ?_ GE161.out) | exact HB.out))) : w.heap.size ≤ gb166)); have n9_ := Aside0.mk ((by rw [hg]; exact Nat.ne_of_lt (blk_lt (g := gb161) (o := .cells #[.string a0_0, .slice A0_1 l0_1.length c0_1] 24 (0, 0)) (by (with_reducible repeat (first | refine blk_drewN ?_ _ | refine blk_drew ?_ | refine blk_alloc ?_ _)); exact BK161.out)) : gb161 ≠ gb166)); have n10_ := Aside0.mk ((by rw [hg]; exact Nat.ne_of_gt (blk_lt (g := gb161) (o := .cells #[.string a0_0, .slice A0_1 l0_1.length c0_1] 24 (0, 0)) (by (with_reducible repeat (first | refine blk_drewN ?_ _ | refine blk_drew ?_ | refine blk_alloc ?_ _)); exact BK161.out)) : gb166 ≠ gb161)); clear HO_3; clear HO_10; clear HL165_1; clear BK161; clear HR165_1; clear HB; have HO_3 := n0_; have HO_10 := n1_; have HL165_1 := n2_; have BK161 := n3_; have HR165_1 := n4_; have HB := n5_; have BK166 := n6_; have GW166 := n7_; have GE166 := n8_; have NB161_166 := n9_; have NB166_161 := n10_; clear n0_ n1_ n2_ n3_ n4_ n5_ n6_ n7_ n8_ n9_ n10_; clear hb hbox hg; have hnb23 := NB166_161.out; have hnc23 := NB161_166.out; have hcz24_0 : w22.cell? ⟨gb166, 0, none⟩ = some (.string (⟨#[]⟩ : ByteArray)) := (blk_cell BK166.out 0).trans rfl; have hcz24_1 : w22.cell? ⟨gb166, 1, none⟩ = some (.slice none 0 0) := (blk_cell BK166.out 1).trans rfl; have hfz24_0 := blk_frozen BK166.out 0; have hfz24_1 := blk_frozen BK166.out 1) | ((with_reducible refine gate_callee (f := 36) rfl ?_); refine goesL_ (some 17) rfl rfl Tryd.func36 (by kernel_rfl) rfl #[.agg #[.string ((rd_T24 t162 x12_1).f0), .slice A165_1 ((rd_T24 t162 x12_1).f1).length c165_1], .string (⟨#[58]⟩ : ByteArray), .int .i64 0] rfl (by (try simp only [List.map_toArray, List.map_cons, List.map_nil]); first | done | rfl | (simp only [List.length_drop, List.length_take]; rfl)) ?_; (with_reducible refine (seek_Index.calls ((rd_T24 t162 x12_1).f0) _ _ ((rd_T24 t162 x12_1).f1) (⟨#[58]⟩ : ByteArray) 0 t167 _ ?side1 ?side2 A10.out).mono ?_); (case side1 => repeat (first | exact ((Kd.R_reads' (by (with_reducible repeat (first | apply Kd.R_alloc | apply Kd.R_drewN | apply Kd.R_drew)); exact (Kd.R_mono (Kd.R_far (p := ⟨gb166, 1, none⟩) (Kd.R_far (p := ⟨gb166, 0, none⟩) (Kd.R_types HL165_1.out BK166.out (by decide)) (fun _ hk => hk.2) (.string ((rd_T24 t162 x12_1).f0))) (fun _ hk => hk.2) (.slice A165_1 ((rd_T24 t162 x12_1).f1).length c165_1)) (fun _ h_ => h_.1)))).2.2) | (with_reducible refine Kd.C_alloc ?_ _) | (with_reducible refine Kd.C_drewN ?_ _) | (with_reducible refine Kd.C_drew ?_))); (case side2 => exact HC165_1.out); rintro e w25 ⟨rfl, hb⟩; refine ⟨_, rfl, ?_⟩; have n0_ := Aside0.mk (Kd.S_below (by (with_reducible repeat (first | apply Kd.S_alloc | apply Kd.S_drewN | apply Kd.S_drew)); exact (Kd.S_mono (Kd.S_far (p := ⟨gb166, 1, none⟩) (Kd.S_far (p := ⟨gb166, 0, none⟩) (Kd.S_types HO_3.out BK166.out (by decide)) (fun _ hk => hk.2) (.string ((rd_T24 t162 x12_1).f0))) (fun _ hk => hk.2) (.slice A165_1 ((rd_T24 t162 x12_1).f1).length c165_1)) (fun _ h_ => h_.1))) hb); have n1_ := Aside0.mk (Kd.S_below (by (with_reducible repeat (first | apply Kd.S_alloc | apply Kd.S_drewN | apply Kd.S_drew)); exact (Kd.S_mono (Kd.S_far (p := ⟨gb166, 1, none⟩) (Kd.S_far (p := ⟨gb166, 0, none⟩) (Kd.S_mono HO_10.out (fun k_ hk => (⟨hk, hk.2⟩ : _ ∧ k_ ≠ gb166))) (fun _ hk => hk.2) (.string ((rd_T24 t162 x12_1).f0))) (fun _ hk => hk.2) (.slice A165_1 ((rd_T24 t162 x12_1).f1).length c165_1)) (fun _ h_ => h_.1))) hb); have n2_ := Aside0.mk (Kd.R_below (by (with_reducible repeat (first | apply Kd.R_alloc | apply Kd.R_drewN | apply Kd.R_drew)); exact (Kd.R_mono (Kd.R_far (p := ⟨gb166, 1, none⟩) (Kd.R_far (p := ⟨gb166, 0, none⟩) (Kd.R_types HL165_1.out BK166.out (by decide)) (fun _ hk => hk.2) (.string ((rd_T24 t162 x12_1).f0))) (fun _ hk => hk.2) (.slice A165_1 ((rd_T24 t162 x12_1).f1).length c165_1)) (fun _ h_ => h_.1))) hb); have n3_ := Aside0.mk (blk_below (g := gb161) (o := .cells #[.string a0_0, .slice A0_1 l0_1.length c0_1] 24 (0, 0)) (by (with_reducible repeat (first | refine blk_drewN ?_ _ | refine blk_drew ?_ | refine blk_alloc ?_ _)); refine blk_far ?_ NB161_166.out _; (with_reducible repeat (first | refine blk_drewN ?_ _ | refine blk_drew ?_ | refine blk_alloc ?_ _)); refine blk_far ?_ NB161_166.out _; (with_reducible repeat (first | refine blk_drewN ?_ _ | refine blk_drew ?_ | refine blk_alloc ?_ _)); exact BK161.out) hb); have n4_ := Aside0.mk (Kd.C_below ((Kd.R_reads' (by (with_reducible repeat (first | apply Kd.R_alloc | apply Kd.R_drewN | apply Kd.R_drew)); exact (Kd.R_mono (Kd.R_far (p := ⟨gb166, 1, none⟩) (Kd.R_far (p := ⟨gb166, 0, none⟩) (Kd.R_types HL165_1.out BK166.out (by decide)) (fun _ hk => hk.2) (.string ((rd_T24 t162 x12_1).f0))) (fun _ hk => hk.2) (.slice A165_1 ((rd_T24 t162 x12_1).f1).length c165_1)) (fun _ h_ => h_.1)))).2.2) hb); have n5_ := Aside0.mk (blk_below (g := gb166) (o := .cells #[.string ((rd_T24 t162 x12_1).f0), .slice A165_1 ((rd_T24 t162 x12_1).f1).length c165_1] 24 (0, 0)) (by (with_reducible repeat (first | refine blk_drewN ?_ _ | refine blk_drew ?_ | refine blk_alloc ?_ _)); refine blk_put (cs := #[.string ((rd_T24 t162 x12_1).f0), .slice none 0 0]) ?_ 1 _ rfl; (with_reducible repeat (first | refine blk_drewN ?_ _ | refine blk_drew ?_ | refine blk_alloc ?_ _)); refine blk_put (cs := #[.string (⟨#[]⟩ : ByteArray), .slice none 0 0]) ?_ 0 _ rfl; (with_reducible repeat (first | refine blk_drewN ?_ _ | refine blk_drew ?_ | refine blk_alloc ?_ _)); exact BK166.out) hb); have n6_ := Aside0.mk (below_step (by repeat (first | (with_reducible first | exact HB.out | apply below_alloc | apply pw_below_drewN | apply below_drew1 | refine below_set ?_ GE161.out | refine below_set ?_ GE166.out) | exact HB.out)) hb); clear HO_3; clear HO_10; clear HL165_1; clear BK161; clear HR165_1; clear BK166; clear HB; have HO_3 := n0_; have HO_10 := n1_; have HL165_1 := n2_; have BK161 := n3_; have HR165_1 := n4_; have BK166 := n5_; have HB := n6_; clear n0_ n1_ n2_ n3_ n4_ n5_ n6_; (try clear hb); (try clear hb2); (try clear hk); (try clear hi)))
        have n0_ := Aside0.mk (Kd.S_drew HO_3.out)
        have n1_ := Aside0.mk (Kd.S_drew HO_10.out)
        have n2_ := Aside0.mk (Kd.R_drew HL165_1.out)
        have n3_ := Aside0.mk (blk_drew BK161.out)
        have n4_ := Aside0.mk (blk_drew BK166.out)
        have n5_ := Aside0.mk (Kd.C_drew HR165_1.out)
        have n6_ := Aside0.mk (below_drew1 HB.out)
        clear HO_3
        clear HO_10
        clear HL165_1
        clear BK161
        clear BK166
        clear HR165_1
        clear HB
        have HO_3 := n0_
        have HO_10 := n1_
        have HL165_1 := n2_
        have BK161 := n3_
        have BK166 := n4_
        have HR165_1 := n5_
        have HB := n6_
        clear n0_ n1_ n2_ n3_ n4_ n5_ n6_
        refine start_ (n := 14) (S := fun w' => w'.cell? ⟨gb166, 0, none⟩ = some (.string ((rd_T24 t162 x12_1).f0)) ∧ w'.cell? ⟨gb166, 1, none⟩ = some (.slice A165_1 ((rd_T24 t162 x12_1).f1).length c165_1)) (ds := []) #[false, false, false, false, false, false, false, false, false, false, false, false, false, false] (by kernel_rfl) rfl rfl ⟨(blk_cell BK166.out 0).trans rfl, (blk_cell BK166.out 1).trans rfl⟩ (fun hHeld => ?_); refine with_tabW style_Parse.tab7 style_Parse.bits7 (fun HT_ HW_ => ?_)
        generalize w25.drew = w26 at HO_3 HO_10 HL165_1 BK161 BK166 HR165_1 HB hHeld ⊢
        refine pure_ (i := 1) (N := some 21) (v := ?_) (a' := ?_) #[false, true, false, false, false, false, false, false, false, false, false, false, false, false] rfl rfl (any_of HT_.out (by kernel_rfl)) (fun _ _ _ h => h) (Or.inl ⟨by rfl, ?_⟩) ?_ ?_
        rotate_left
        ·
         intro w'
         go_simp
         with_reducible rfl
        rotate_left
        ·
         simp only [Act.put, List.setIfInBounds_toArray, List.set_cons_zero, List.set_cons_succ, i64_w, i32_w]
         rfl
        refine pure_ (i := 4) (N := some 24) (v := ?_) (a' := ?_) #[false, true, false, false, true, false, false, false, false, false, false, false, false, false] rfl rfl (any_of HT_.out (by kernel_rfl)) (fun _ _ _ h => h) (Or.inl ⟨by rfl, ?_⟩) ?_ ?_
        rotate_left
        ·
         intro w'
         go_simp
         with_reducible rfl
        rotate_left
        ·
         simp only [Act.put, List.setIfInBounds_toArray, List.set_cons_zero, List.set_cons_succ, i64_w, i32_w]
         rfl
        refine pure_ (i := 5) (N := some 25) (v := ?_) (a' := ?_) #[false, true, false, false, true, true, false, false, false, false, false, false, false, false] rfl rfl (any_of HT_.out (by kernel_rfl)) (fun _ _ _ h => h) (Or.inl ⟨by rfl, ?_⟩) ?_ ?_
        rotate_left
        ·
         intro w'
         go_simp
         with_reducible rfl
        rotate_left
        ·
         simp only [Act.put, List.setIfInBounds_toArray, List.set_cons_zero, List.set_cons_succ, i64_w, i32_w]
         rfl
        refine pure_ (i := 6) (N := some 26) (v := ?_) (a' := ?_) #[false, true, false, false, true, true, true, false, false, false, false, false, false, false] rfl rfl (any_of HT_.out (by kernel_rfl)) (fun _ _ _ h => h) (Or.inl ⟨by rfl, ?_⟩) ?_ ?_
        rotate_left
        ·
         intro w'
         go_simp
         with_reducible rfl
        rotate_left
        ·
         simp only [Act.put, List.setIfInBounds_toArray, List.set_cons_zero, List.set_cons_succ, i64_w, i32_w]
         rfl
        refine take_ (i := 0) (N := some 20) (v := ?_) (a' := ?_) #[true, true, false, false, true, true, true, false, false, false, false, false, false, false] rfl rfl (take_ofW HT_.out HW_.out (by kernel_rfl)) (fun _ _ _ h => h) (Or.inl ⟨by rfl, ?_⟩) hHeld ?_ ?_
        rotate_left
        ·
         rintro w' ⟨s0, s1⟩
         go_simp
         with_reducible rfl
        rotate_left
        ·
         simp only [Act.put, List.setIfInBounds_toArray, List.set_cons_zero, List.set_cons_succ, i64_w, i32_w]
         rfl
        refine take_ (i := 3) (N := some 23) (v := ?_) (a' := ?_) #[true, true, false, true, true, true, true, false, false, false, false, false, false, false] rfl rfl (take_ofW HT_.out HW_.out (by kernel_rfl)) (fun _ _ _ h => h) (Or.inl ⟨by rfl, ?_⟩) hHeld ?_ ?_
        rotate_left
        ·
         rintro w' ⟨s0, s1⟩
         go_simp
         with_reducible rfl
        rotate_left
        ·
         simp only [Act.put, List.setIfInBounds_toArray, List.set_cons_zero, List.set_cons_succ, i64_w, i32_w]
         rfl
        refine take_ (i := 7) (N := some 27) (v := ?_) (a' := ?_) #[true, true, false, true, true, true, true, true, false, false, false, false, false, false] rfl rfl (take_ofW HT_.out HW_.out (by kernel_rfl)) (fun _ _ _ h => h) (Or.inl ⟨by rfl, ?_⟩) hHeld ?_ ?_
        rotate_left
        ·
         rintro w' ⟨s0, s1⟩
         go_simp
         with_reducible rfl
        rotate_left
        ·
         simp only [Act.put, List.setIfInBounds_toArray, List.set_cons_zero, List.set_cons_succ, i64_w, i32_w]
         rfl
        refine pure_ (i := 8) (N := some 28) (v := ?_) (a' := ?_) #[true, true, false, true, true, true, true, true, true, false, false, false, false, false] rfl rfl (any_of HT_.out (by kernel_rfl)) (fun _ _ _ h => h) (Or.inl ⟨by rfl, ?_⟩) ?_ ?_
        rotate_left
        ·
         intro w'
         go_simp
         with_reducible rfl
        rotate_left
        ·
         simp only [Act.put, List.setIfInBounds_toArray, List.set_cons_zero, List.set_cons_succ, i64_w, i32_w]
         rfl
        refine join_ (σ := Value × Value × Nat × Nat) 2 #[true, true, true, true, true, true, true, true, true, true, true, true, false, false] (fun s_ => [(22, .agg #[.string t168, s_.1]), (29, .agg #[.string t172, s_.2.1]), (7, .pointer (some ⟨s_.2.2.1, 0, none⟩)), (8, .pointer (some ⟨s_.2.2.2, 0, none⟩))]) (fun s_ w' => (w'.cell? ⟨gb166, 0, none⟩ = some (.string ((rd_T24 t162 x12_1).f0)) ∧ w'.cell? ⟨gb166, 1, none⟩ = some (.slice A165_1 ((rd_T24 t162 x12_1).f1).length c165_1)) ∧ (Kd.R k56 56 w' w.heap.size (fun k_ => some k_ ≠ (s_.1 : Value).ownBlock ∧ some k_ ≠ (s_.2.1 : Value).ownBlock ∧ some k_ ≠ (.slice (some ad165) t162.length co6 : Value).ownBlock ∧ k_ ≠ gb161) (.slice A165_1 ((rd_T24 t162 x12_1).f1).length c165_1) ((rd_T24 t162 x12_1).f1)) ∧ (Kd.R k56 56 w' w.heap.size (fun k_ => some k_ ≠ (.slice A165_1 ((rd_T24 t162 x12_1).f1).length c165_1 : Value).ownBlock ∧ some k_ ≠ (s_.2.1 : Value).ownBlock) s_.1 t169) ∧ (Kd.R k56 56 w' w.heap.size (fun k_ => some k_ ≠ (.slice A165_1 ((rd_T24 t162 x12_1).f1).length c165_1 : Value).ownBlock ∧ some k_ ≠ (s_.1 : Value).ownBlock) s_.2.1 t173) ∧ (Kd.S k24 24 w' w.heap.size (fun k_ => some k_ ≠ (s_.1 : Value).ownBlock ∧ some k_ ≠ (s_.2.1 : Value).ownBlock ∧ k_ ≠ gb161 ∧ k_ ≠ gb166 ∧ k_ ≠ s_.2.2.1 ∧ k_ ≠ s_.2.2.2) (.slice (some ad165) t162.length co6) t162) ∧ (Kd.S k32 32 w' w.heap.size (fun k_ => some k_ ≠ (s_.1 : Value).ownBlock ∧ some k_ ≠ (s_.2.1 : Value).ownBlock) u3 x3_1) ∧ (w'.heap[gb161]? = some (.cells #[.string a0_0, .slice A0_1 l0_1.length c0_1] 24 (0, 0))) ∧ (w'.heap[gb166]? = some (.cells #[.string ((rd_T24 t162 x12_1).f0), .slice A165_1 ((rd_T24 t162 x12_1).f1).length c165_1] 24 (0, 0))) ∧ (w'.heap[s_.2.2.1]? = some (.cells #[.string (⟨#[]⟩ : ByteArray), .slice none 0 0] 24 (0, 0))) ∧ (w'.heap[s_.2.2.2]? = some (.cells #[.string (⟨#[]⟩ : ByteArray), .slice none 0 0] 24 (0, 0))) ∧ (w.heap.size ≤ s_.2.2.1) ∧ (w.heap.size ≤ s_.2.2.1) ∧ (gb161 ≠ s_.2.2.1) ∧ (s_.2.2.1 ≠ gb161) ∧ (gb166 ≠ s_.2.2.1) ∧ (s_.2.2.1 ≠ gb166) ∧ (s_.2.2.2 ≠ s_.2.2.1) ∧ (s_.2.2.1 ≠ s_.2.2.2) ∧ (w.heap.size ≤ s_.2.2.2) ∧ (w.heap.size ≤ s_.2.2.2) ∧ (gb161 ≠ s_.2.2.2) ∧ (s_.2.2.2 ≠ gb161) ∧ (gb166 ≠ s_.2.2.2) ∧ (s_.2.2.2 ≠ gb166) ∧ (Below w.heap.size w w')) ?_ ?_
        ·
         rintro ⟨v170, v174, gb176, gb177⟩ w31 ⟨hS_, h0_, h1_, h2_, h3_, h4_, h5_, h6_, h7_, h8_, h9_, h10_, h11_, h12_, h13_, h14_, h15_, h16_, h17_, h18_, h19_, h20_, h21_, h22_, h23_⟩
         dsimp only at hS_ h0_ h1_ h2_ h3_ h4_ h5_ h6_ h7_ h8_ h9_ h10_ h11_ h12_ h13_ h14_ h15_ h16_ h17_ h18_ h19_ h20_ h21_ h22_ h23_
         have n0_ := Aside0.mk h0_
         have n1_ := Aside0.mk h1_
         have n2_ := Aside0.mk h2_
         have n3_ := Aside0.mk h3_
         have n4_ := Aside0.mk h4_
         have n5_ := Aside0.mk h5_
         have n6_ := Aside0.mk h6_
         have n7_ := Aside0.mk h7_
         have n8_ := Aside0.mk h8_
         have n9_ := Aside0.mk h9_
         have n10_ := Aside0.mk h10_
         have n11_ := Aside0.mk h11_
         have n12_ := Aside0.mk h12_
         have n13_ := Aside0.mk h13_
         have n14_ := Aside0.mk h14_
         have n15_ := Aside0.mk h15_
         have n16_ := Aside0.mk h16_
         have n17_ := Aside0.mk h17_
         have n18_ := Aside0.mk h18_
         have n19_ := Aside0.mk h19_
         have n20_ := Aside0.mk h20_
         have n21_ := Aside0.mk h21_
         have n22_ := Aside0.mk h22_
         have n23_ := Aside0.mk h23_
         clear HO_3
         clear HO_10
         clear HL165_1
         clear BK161
         clear BK166
         clear HR165_1
         clear HB
         clear h0_ h1_ h2_ h3_ h4_ h5_ h6_ h7_ h8_ h9_ h10_ h11_ h12_ h13_ h14_ h15_ h16_ h17_ h18_ h19_ h20_ h21_ h22_ h23_
         have HL165_1 := n0_
         have HO171 := n1_
         have HO175 := n2_
         have HO_10 := n3_
         have HO_3 := n4_
         have BK161 := n5_
         have BK166 := n6_
         have BK176 := n7_
         have BK177 := n8_
         have GW176 := n9_
         have GE176 := n10_
         have NB161_176 := n11_
         have NB176_161 := n12_
         have NB166_176 := n13_
         have NB176_166 := n14_
         have NB177_176 := n15_
         have NB176_177 := n16_
         have GW177 := n17_
         have GE177 := n18_
         have NB161_177 := n19_
         have NB177_161 := n20_
         have NB166_177 := n21_
         have NB177_166 := n22_
         have HB := n23_
         clear n0_ n1_ n2_ n3_ n4_ n5_ n6_ n7_ n8_ n9_ n10_ n11_ n12_ n13_ n14_ n15_ n16_ n17_ n18_ n19_ n20_ n21_ n22_ n23_
         have hHeld := hS_
         obtain ⟨Ao33, co33, eo33⟩ := Kd.R_slice HO171.out
         (first | subst eo33 | (injection eo33 with f1_ f2_ f3_; have f4_ := f1_.symm; have f5_ := f3_.symm; clear f1_ f2_ f3_; subst f4_; subst f5_))
         obtain ⟨Ao36, co36, eo36⟩ := Kd.R_slice HO175.out
         (first | subst eo36 | (injection eo36 with f1_ f2_ f3_; have f4_ := f1_.symm; have f5_ := f3_.symm; clear f1_ f2_ f3_; subst f4_; subst f5_))
         refine norm_ (a' := ?_) ?_ ?_
         rotate_left
         ·
          simp only [putAll, Act.put, List.setIfInBounds_toArray, List.set_cons_zero, List.set_cons_succ]
          rfl
         refine one_ (i := 12) (N := none) #[true, true, true, true, true, true, true, true, true, true, true, true, true, false] rfl rfl (one_of HT_.out (by kernel_rfl)) (by decide) (fun K hK => ?_)
         have hs32 : w31.cell? ⟨gb176, 0, none⟩ = some (.string (⟨#[]⟩ : ByteArray)) := (blk_cell BK176.out 0).trans rfl
         have hfs32 := blk_frozen BK176.out 0
         have hns32_0 := NB161_176.out
         have hns32_1 := NB166_176.out
         have hns32_3 := NB177_176.out
         have hms32_0 := NB176_161.out
         have hms32_1 := NB176_166.out
         have hms32_3 := NB176_177.out
         have hs34 : w31.cell? ⟨gb176, 1, none⟩ = some (.slice none 0 0) := (blk_cell BK176.out 1).trans rfl
         have hfs34 := blk_frozen BK176.out 1
         have hns34_0 := NB161_176.out
         have hns34_1 := NB166_176.out
         have hns34_3 := NB177_176.out
         have hms34_0 := NB176_161.out
         have hms34_1 := NB176_166.out
         have hms34_3 := NB176_177.out
         refine skip_ (w1 := ?_) (by rfl) rfl ?_ ?_
         rotate_left
         ·
          go_simp
          rfl
         refine hK.out _ _ ⟨((cell_far (p := ⟨gb176, _, none⟩) NB166_176.out _).trans (((cell_far (p := ⟨gb176, _, none⟩) NB166_176.out _).trans (hHeld.1)))), ((cell_far (p := ⟨gb176, _, none⟩) NB166_176.out _).trans (((cell_far (p := ⟨gb176, _, none⟩) NB166_176.out _).trans (hHeld.2))))⟩ (fun hHeld => ?_)
         clear hK K
         refine one_ (i := 13) (N := none) #[true, true, true, true, true, true, true, true, true, true, true, true, true, true] rfl rfl (one_of HT_.out (by kernel_rfl)) (by decide) (fun K hK => ?_)
         have hs35 : w31.cell? ⟨gb177, 0, none⟩ = some (.string (⟨#[]⟩ : ByteArray)) := (blk_cell BK177.out 0).trans rfl
         have hfs35 := blk_frozen BK177.out 0
         have hns35_0 := NB161_177.out
         have hns35_1 := NB166_177.out
         have hns35_2 := NB176_177.out
         have hms35_0 := NB177_161.out
         have hms35_1 := NB177_166.out
         have hms35_2 := NB177_176.out
         have hs37 : w31.cell? ⟨gb177, 1, none⟩ = some (.slice none 0 0) := (blk_cell BK177.out 1).trans rfl
         have hfs37 := blk_frozen BK177.out 1
         have hns37_0 := NB161_177.out
         have hns37_1 := NB166_177.out
         have hns37_2 := NB176_177.out
         have hms37_0 := NB177_161.out
         have hms37_1 := NB177_166.out
         have hms37_2 := NB177_176.out
         refine skip_ (w1 := ?_) (by rfl) rfl ?_ ?_
         rotate_left
         ·
          go_simp
          rfl
         refine hK.out _ _ ⟨((cell_far (p := ⟨gb177, _, none⟩) NB166_177.out _).trans (((cell_far (p := ⟨gb177, _, none⟩) NB166_177.out _).trans (hHeld.1)))), ((cell_far (p := ⟨gb177, _, none⟩) NB166_177.out _).trans (((cell_far (p := ⟨gb177, _, none⟩) NB166_177.out _).trans (hHeld.2))))⟩ (fun hHeld => ?_)
         clear hK K
         refine done_ (done_of HT_.out (by kernel_rfl)) ?_
         try go_wp2
         have n0_ : Aside0 (Kd.S k32 32 ((((w31.setCell ⟨gb176, 0, none⟩ (.string t168)).setCell ⟨gb176, 1, none⟩ (.slice Ao33 t169.length co33)).setCell ⟨gb177, 0, none⟩ (.string t172)).setCell ⟨gb177, 1, none⟩ (.slice Ao36 t173.length co36)) w.heap.size (fun k_ => some k_ ≠ (.slice Ao33 t169.length co33 : Value).ownBlock ∧ some k_ ≠ (.slice Ao36 t173.length co36 : Value).ownBlock) u3 x3_1) := ⟨by (with_reducible repeat (first | apply Kd.S_alloc | apply Kd.S_drewN | apply Kd.S_drew)); exact Kd.S_mono (Kd.S_far (p := ⟨gb177, 1, none⟩) (Kd.S_far (p := ⟨gb177, 0, none⟩) (Kd.S_far (p := ⟨gb176, 1, none⟩) (Kd.S_far (p := ⟨gb176, 0, none⟩) (Kd.S_types (Kd.S_types HO_3.out BK176.out (by decide)) BK177.out (by decide)) (fun _ hk => hk.1.2) (.string t168)) (fun _ hk => hk.1.2) (.slice Ao33 t169.length co33)) (fun _ hk => hk.2) (.string t172)) (fun _ hk => hk.2) (.slice Ao36 t173.length co36)) (fun _ hk => ⟨hk.1.1.1, hk.1.1.2⟩)⟩
         have n1_ : Aside0 (Kd.S k24 24 ((((w31.setCell ⟨gb176, 0, none⟩ (.string t168)).setCell ⟨gb176, 1, none⟩ (.slice Ao33 t169.length co33)).setCell ⟨gb177, 0, none⟩ (.string t172)).setCell ⟨gb177, 1, none⟩ (.slice Ao36 t173.length co36)) w.heap.size (fun k_ => some k_ ≠ (.slice Ao33 t169.length co33 : Value).ownBlock ∧ some k_ ≠ (.slice Ao36 t173.length co36 : Value).ownBlock ∧ k_ ≠ gb161 ∧ k_ ≠ gb166 ∧ k_ ≠ gb176 ∧ k_ ≠ gb177) (.slice (some ad165) t162.length co6) t162) := ⟨by (with_reducible repeat (first | apply Kd.S_alloc | apply Kd.S_drewN | apply Kd.S_drew)); exact Kd.S_mono (Kd.S_far (p := ⟨gb177, 1, none⟩) (Kd.S_far (p := ⟨gb177, 0, none⟩) (Kd.S_far (p := ⟨gb176, 1, none⟩) (Kd.S_far (p := ⟨gb176, 0, none⟩) (Kd.S_mono (Kd.S_mono HO_10.out (fun k_ hk => (⟨hk, hk.2.2.2.2.1⟩ : _ ∧ k_ ≠ gb176))) (fun k_ hk => (⟨hk, hk.1.2.2.2.2.2⟩ : _ ∧ k_ ≠ gb177))) (fun _ hk => hk.1.2) (.string t168)) (fun _ hk => hk.1.2) (.slice Ao33 t169.length co33)) (fun _ hk => hk.2) (.string t172)) (fun _ hk => hk.2) (.slice Ao36 t173.length co36)) (fun _ hk => ⟨hk.1.1.1, ⟨hk.1.1.2.1, ⟨hk.1.1.2.2.1, ⟨hk.1.1.2.2.2.1, ⟨hk.1.1.2.2.2.2.1, hk.1.1.2.2.2.2.2⟩⟩⟩⟩⟩)⟩
         have n2_ : Aside0 (Kd.R k56 56 ((((w31.setCell ⟨gb176, 0, none⟩ (.string t168)).setCell ⟨gb176, 1, none⟩ (.slice Ao33 t169.length co33)).setCell ⟨gb177, 0, none⟩ (.string t172)).setCell ⟨gb177, 1, none⟩ (.slice Ao36 t173.length co36)) w.heap.size (fun k_ => some k_ ≠ (.slice (some ad165) t162.length co6 : Value).ownBlock ∧ some k_ ≠ (.slice Ao33 t169.length co33 : Value).ownBlock ∧ some k_ ≠ (.slice Ao36 t173.length co36 : Value).ownBlock ∧ k_ ≠ gb161) (.slice A165_1 ((rd_T24 t162 x12_1).f1).length c165_1) ((rd_T24 t162 x12_1).f1)) := ⟨by (with_reducible repeat (first | apply Kd.R_alloc | apply Kd.R_drewN | apply Kd.R_drew)); exact Kd.R_mono (Kd.R_far (p := ⟨gb177, 1, none⟩) (Kd.R_far (p := ⟨gb177, 0, none⟩) (Kd.R_far (p := ⟨gb176, 1, none⟩) (Kd.R_far (p := ⟨gb176, 0, none⟩) (Kd.R_types (Kd.R_types HL165_1.out BK176.out (by decide)) BK177.out (by decide)) (fun _ hk => hk.1.2) (.string t168)) (fun _ hk => hk.1.2) (.slice Ao33 t169.length co33)) (fun _ hk => hk.2) (.string t172)) (fun _ hk => hk.2) (.slice Ao36 t173.length co36)) (fun _ hk => ⟨hk.1.1.2.2.1, ⟨hk.1.1.1, ⟨hk.1.1.2.1, hk.1.1.2.2.2⟩⟩⟩)⟩
         have n3_ : Aside0 (Kd.R k56 56 ((((w31.setCell ⟨gb176, 0, none⟩ (.string t168)).setCell ⟨gb176, 1, none⟩ (.slice Ao33 t169.length co33)).setCell ⟨gb177, 0, none⟩ (.string t172)).setCell ⟨gb177, 1, none⟩ (.slice Ao36 t173.length co36)) w.heap.size (fun k_ => some k_ ≠ (.slice A165_1 ((rd_T24 t162 x12_1).f1).length c165_1 : Value).ownBlock ∧ some k_ ≠ (.slice Ao36 t173.length co36 : Value).ownBlock) (.slice Ao33 t169.length co33) t169) := ⟨by (with_reducible repeat (first | apply Kd.R_alloc | apply Kd.R_drewN | apply Kd.R_drew)); exact Kd.R_mono (Kd.R_far (p := ⟨gb177, 1, none⟩) (Kd.R_far (p := ⟨gb177, 0, none⟩) (Kd.R_far (p := ⟨gb176, 1, none⟩) (Kd.R_far (p := ⟨gb176, 0, none⟩) (Kd.R_types (Kd.R_types HO171.out BK176.out (by decide)) BK177.out (by decide)) (fun _ hk => hk.1.2) (.string t168)) (fun _ hk => hk.1.2) (.slice Ao33 t169.length co33)) (fun _ hk => hk.2) (.string t172)) (fun _ hk => hk.2) (.slice Ao36 t173.length co36)) (fun _ hk => ⟨hk.1.1.1, hk.1.1.2⟩)⟩
         have n4_ : Aside0 (Kd.R k56 56 ((((w31.setCell ⟨gb176, 0, none⟩ (.string t168)).setCell ⟨gb176, 1, none⟩ (.slice Ao33 t169.length co33)).setCell ⟨gb177, 0, none⟩ (.string t172)).setCell ⟨gb177, 1, none⟩ (.slice Ao36 t173.length co36)) w.heap.size (fun k_ => some k_ ≠ (.slice A165_1 ((rd_T24 t162 x12_1).f1).length c165_1 : Value).ownBlock ∧ some k_ ≠ (.slice Ao33 t169.length co33 : Value).ownBlock) (.slice Ao36 t173.length co36) t173) := ⟨by (with_reducible repeat (first | apply Kd.R_alloc | apply Kd.R_drewN | apply Kd.R_drew)); exact Kd.R_mono (Kd.R_far (p := ⟨gb177, 1, none⟩) (Kd.R_far (p := ⟨gb177, 0, none⟩) (Kd.R_far (p := ⟨gb176, 1, none⟩) (Kd.R_far (p := ⟨gb176, 0, none⟩) (Kd.R_types (Kd.R_types HO175.out BK176.out (by decide)) BK177.out (by decide)) (fun _ hk => hk.1.2) (.string t168)) (fun _ hk => hk.1.2) (.slice Ao33 t169.length co33)) (fun _ hk => hk.2) (.string t172)) (fun _ hk => hk.2) (.slice Ao36 t173.length co36)) (fun _ hk => ⟨hk.1.1.1, hk.1.1.2⟩)⟩
         have n5_ : Aside0 (((((w31.setCell ⟨gb176, 0, none⟩ (.string t168)).setCell ⟨gb176, 1, none⟩ (.slice Ao33 t169.length co33)).setCell ⟨gb177, 0, none⟩ (.string t172)).setCell ⟨gb177, 1, none⟩ (.slice Ao36 t173.length co36)).heap[gb161]? = some (.cells #[.string a0_0, .slice A0_1 l0_1.length c0_1] 24 (0, 0))) := ⟨by (with_reducible repeat (first | refine blk_drewN ?_ _ | refine blk_drew ?_ | refine blk_alloc ?_ _)); refine blk_far ?_ NB161_177.out _; (with_reducible repeat (first | refine blk_drewN ?_ _ | refine blk_drew ?_ | refine blk_alloc ?_ _)); refine blk_far ?_ NB161_177.out _; (with_reducible repeat (first | refine blk_drewN ?_ _ | refine blk_drew ?_ | refine blk_alloc ?_ _)); refine blk_far ?_ NB161_176.out _; (with_reducible repeat (first | refine blk_drewN ?_ _ | refine blk_drew ?_ | refine blk_alloc ?_ _)); refine blk_far ?_ NB161_176.out _; (with_reducible repeat (first | refine blk_drewN ?_ _ | refine blk_drew ?_ | refine blk_alloc ?_ _)); exact BK161.out⟩
         have n6_ : Aside0 (((((w31.setCell ⟨gb176, 0, none⟩ (.string t168)).setCell ⟨gb176, 1, none⟩ (.slice Ao33 t169.length co33)).setCell ⟨gb177, 0, none⟩ (.string t172)).setCell ⟨gb177, 1, none⟩ (.slice Ao36 t173.length co36)).heap[gb166]? = some (.cells #[.string ((rd_T24 t162 x12_1).f0), .slice A165_1 ((rd_T24 t162 x12_1).f1).length c165_1] 24 (0, 0))) := ⟨by (with_reducible repeat (first | refine blk_drewN ?_ _ | refine blk_drew ?_ | refine blk_alloc ?_ _)); refine blk_far ?_ NB166_177.out _; (with_reducible repeat (first | refine blk_drewN ?_ _ | refine blk_drew ?_ | refine blk_alloc ?_ _)); refine blk_far ?_ NB166_177.out _; (with_reducible repeat (first | refine blk_drewN ?_ _ | refine blk_drew ?_ | refine blk_alloc ?_ _)); refine blk_far ?_ NB166_176.out _; (with_reducible repeat (first | refine blk_drewN ?_ _ | refine blk_drew ?_ | refine blk_alloc ?_ _)); refine blk_far ?_ NB166_176.out _; (with_reducible repeat (first | refine blk_drewN ?_ _ | refine blk_drew ?_ | refine blk_alloc ?_ _)); exact BK166.out⟩
         have n7_ : Aside0 (((((w31.setCell ⟨gb176, 0, none⟩ (.string t168)).setCell ⟨gb176, 1, none⟩ (.slice Ao33 t169.length co33)).setCell ⟨gb177, 0, none⟩ (.string t172)).setCell ⟨gb177, 1, none⟩ (.slice Ao36 t173.length co36)).heap[gb176]? = some (.cells #[.string t168, .slice Ao33 t169.length co33] 24 (0, 0))) := ⟨by (with_reducible repeat (first | refine blk_drewN ?_ _ | refine blk_drew ?_ | refine blk_alloc ?_ _)); refine blk_far ?_ NB176_177.out _; (with_reducible repeat (first | refine blk_drewN ?_ _ | refine blk_drew ?_ | refine blk_alloc ?_ _)); refine blk_far ?_ NB176_177.out _; (with_reducible repeat (first | refine blk_drewN ?_ _ | refine blk_drew ?_ | refine blk_alloc ?_ _)); refine blk_put (cs := #[.string t168, .slice none 0 0]) ?_ 1 _ rfl; (with_reducible repeat (first | refine blk_drewN ?_ _ | refine blk_drew ?_ | refine blk_alloc ?_ _)); refine blk_put (cs := #[.string (⟨#[]⟩ : ByteArray), .slice none 0 0]) ?_ 0 _ rfl; (with_reducible repeat (first | refine blk_drewN ?_ _ | refine blk_drew ?_ | refine blk_alloc ?_ _)); exact BK176.out⟩
         have n8_ : Aside0 (((((w31.setCell ⟨gb176, 0, none⟩ (.string t168)).setCell ⟨gb176, 1, none⟩ (.slice Ao33 t169.length co33)).setCell ⟨gb177, 0, none⟩ (.string t172)).setCell ⟨gb177, 1, none⟩ (.slice Ao36 t173.length co36)).heap[gb177]? = some (.cells #[.string t172, .slice Ao36 t173.length co36] 24 (0, 0))) := ⟨by (with_reducible repeat (first | refine blk_drewN ?_ _ | refine blk_drew ?_ | refine blk_alloc ?_ _)); refine blk_put (cs := #[.string t172, .slice none 0 0]) ?_ 1 _ rfl; (with_reducible repeat (first | refine blk_drewN ?_ _ | refine blk_drew ?_ | refine blk_alloc ?_ _)); refine blk_put (cs := #[.string (⟨#[]⟩ : ByteArray), .slice none 0 0]) ?_ 0 _ rfl; (with_reducible repeat (first | refine blk_drewN ?_ _ | refine blk_drew ?_ | refine blk_alloc ?_ _)); refine blk_far ?_ NB177_176.out _; (with_reducible repeat (first | refine blk_drewN ?_ _ | refine blk_drew ?_ | refine blk_alloc ?_ _)); refine blk_far ?_ NB177_176.out _; (with_reducible repeat (first | refine blk_drewN ?_ _ | refine blk_drew ?_ | refine blk_alloc ?_ _)); exact BK177.out⟩
         have n9_ : Aside0 (Below w.heap.size w ((((w31.setCell ⟨gb176, 0, none⟩ (.string t168)).setCell ⟨gb176, 1, none⟩ (.slice Ao33 t169.length co33)).setCell ⟨gb177, 0, none⟩ (.string t172)).setCell ⟨gb177, 1, none⟩ (.slice Ao36 t173.length co36))) := ⟨by repeat (first | (with_reducible first | exact HB.out | apply below_alloc | apply pw_below_drewN | apply below_drew1 | refine below_set ?_ GE161.out | refine below_set ?_ GE166.out | refine below_set ?_ GE176.out | refine below_set ?_ GE177.out) | exact HB.out)⟩
         (try clear HO_3)
         (try clear HO_10)
         (try clear HL165_1)
         (try clear HO171)
         (try clear HO175)
         (try clear BK161)
         (try clear BK166)
         (try clear BK176)
         (try clear BK177)
         (try clear HB)
         generalize ((((w31.setCell ⟨gb176, 0, none⟩ (.string t168)).setCell ⟨gb176, 1, none⟩ (.slice Ao33 t169.length co33)).setCell ⟨gb177, 0, none⟩ (.string t172)).setCell ⟨gb177, 1, none⟩ (.slice Ao36 t173.length co36)) = w38 at n0_ n1_ n2_ n3_ n4_ n5_ n6_ n7_ n8_ n9_ ⊢
         have HO_3 := n0_
         have HO_10 := n1_
         have HL165_1 := n2_
         have HO171 := n3_
         have HO175 := n4_
         have BK161 := n5_
         have BK166 := n6_
         have BK176 := n7_
         have BK177 := n8_
         have HB := n9_
         clear n0_ n1_ n2_ n3_ n4_ n5_ n6_ n7_ n8_ n9_
         have n0_ := Aside0.mk (Kd.S_drew HO_3.out)
         have n1_ := Aside0.mk (Kd.S_drew HO_10.out)
         have n2_ := Aside0.mk (Kd.R_drew HL165_1.out)
         have n3_ := Aside0.mk (Kd.R_drew HO171.out)
         have n4_ := Aside0.mk (Kd.R_drew HO175.out)
         have n5_ := Aside0.mk (blk_drew BK161.out)
         have n6_ := Aside0.mk (blk_drew BK166.out)
         have n7_ := Aside0.mk (blk_drew BK176.out)
         have n8_ := Aside0.mk (blk_drew BK177.out)
         have n9_ := Aside0.mk (below_drew1 HB.out)
         clear HO_3
         clear HO_10
         clear HL165_1
         clear HO171
         clear HO175
         clear BK161
         clear BK166
         clear BK176
         clear BK177
         clear HB
         have HO_3 := n0_
         have HO_10 := n1_
         have HL165_1 := n2_
         have HO171 := n3_
         have HO175 := n4_
         have BK161 := n5_
         have BK166 := n6_
         have BK176 := n7_
         have BK177 := n8_
         have HB := n9_
         clear n0_ n1_ n2_ n3_ n4_ n5_ n6_ n7_ n8_ n9_
         refine start_ (n := 10) (S := fun w' => w'.cell? ⟨gb176, 0, none⟩ = some (.string t168) ∧ w'.cell? ⟨gb176, 1, none⟩ = some (.slice Ao33 t169.length co33) ∧ w'.cell? ⟨gb177, 0, none⟩ = some (.string t172) ∧ w'.cell? ⟨gb177, 1, none⟩ = some (.slice Ao36 t173.length co36)) (ds := []) #[false, false, false, false, false, false, false, false, false, false] (by kernel_rfl) rfl rfl ⟨(blk_cell BK176.out 0).trans rfl, (blk_cell BK176.out 1).trans rfl, (blk_cell BK177.out 0).trans rfl, (blk_cell BK177.out 1).trans rfl⟩ (fun hHeld => ?_); refine with_tabW style_Parse.tab8 style_Parse.bits8 (fun HT_ HW_ => ?_)
         generalize w38.drew = w39 at HO_3 HO_10 HL165_1 HO171 HO175 BK161 BK166 BK176 BK177 HB hHeld ⊢
         refine pure_ (i := 0) (N := some 30) (v := ?_) (a' := ?_) #[true, false, false, false, false, false, false, false, false, false] rfl rfl (any_of HT_.out (by kernel_rfl)) (fun _ _ _ h => h) (Or.inl ⟨by rfl, ?_⟩) ?_ ?_
         rotate_left
         ·
          intro w'
          go_simp
          with_reducible rfl
         rotate_left
         ·
          simp only [Act.put, List.setIfInBounds_toArray, List.set_cons_zero, List.set_cons_succ, i64_w, i32_w]
          rfl
         refine take_ (i := 1) (N := some 31) (v := ?_) (a' := ?_) #[true, true, false, false, false, false, false, false, false, false] rfl rfl (take_ofW HT_.out HW_.out (by kernel_rfl)) (fun _ _ _ h => h) (Or.inl ⟨by rfl, ?_⟩) hHeld ?_ ?_
         rotate_left
         ·
          rintro w' ⟨s0, s1, s2, s3⟩
          go_simp
          with_reducible rfl
         rotate_left
         ·
          simp only [Act.put, List.setIfInBounds_toArray, List.set_cons_zero, List.set_cons_succ, i64_w, i32_w]
          rfl
         refine take_ (i := 4) (N := some 34) (v := ?_) (a' := ?_) #[true, true, false, false, true, false, false, false, false, false] rfl rfl (take_ofW HT_.out HW_.out (by kernel_rfl)) (fun _ _ _ h => h) (Or.inl ⟨by rfl, ?_⟩) hHeld ?_ ?_
         rotate_left
         ·
          rintro w' ⟨s0, s1, s2, s3⟩
          go_simp
          with_reducible rfl
         rotate_left
         ·
          simp only [Act.put, List.setIfInBounds_toArray, List.set_cons_zero, List.set_cons_succ, i64_w, i32_w]
          rfl
         refine one_ (i := 2) (N := some 32) #[true, true, true, false, true, false, false, false, false, false] rfl rfl (one_of HT_.out (by kernel_rfl)) (by decide) (fun K hK => ?_)
         refine goes_ Tryd.func39 (by kernel_rfl) rfl #[.agg #[.string t168, .slice Ao33 t169.length co33]] (by rfl) rfl rfl (by (try simp only [List.map_toArray, List.map_cons, List.map_nil]); first | done | rfl | (simp only [List.length_drop, List.length_take]; rfl)) ?_
         with_reducible refine (fold_Trim.calls k1 t168 _ _ t169 t178 t179 _ ?side1 ?side2 A18.out).mono ?_
         (case side1 => repeat (first | exact (Kd.R_reads' HO171.out).2.2 | (with_reducible refine Kd.C_alloc ?_ _) | (with_reducible refine Kd.C_drewN ?_ _) | (with_reducible refine Kd.C_drew ?_)))
         (case side2 => exact (Kd.R_reads' HO171.out).2.1)
         rintro e w40 ⟨v180, rfl, ho0, hb⟩
         refine ⟨_, rfl, ?_⟩
         have n0_ := Aside0.mk (Kd.S_elder' (by (with_reducible repeat (first | apply Kd.S_alloc | apply Kd.S_drewN | apply Kd.S_drew)); exact HO_3.out) (Kd.R_base ho0) hb)
         have n1_ := Aside0.mk (Kd.S_elder' (by (with_reducible repeat (first | apply Kd.S_alloc | apply Kd.S_drewN | apply Kd.S_drew)); exact HO_10.out) (Kd.R_base ho0) hb)
         have n2_ := Aside0.mk (Kd.R_elder' (Kd.R_go HL165_1.out) (Kd.R_base ho0) hb)
         have n3_ := Aside0.mk (Kd.R_elder' (Kd.R_go HO171.out) (Kd.R_base ho0) hb)
         have n4_ := Aside0.mk (Kd.R_elder' (Kd.R_go HO175.out) (Kd.R_base ho0) hb)
         have n5_ := Aside0.mk (Kd.R_lower (Kd.R_new' (Kd.R_new' (Kd.R_new' ho0 (Kd.R_lt (Kd.R_go HL165_1.out))) (Kd.R_lt (Kd.R_go HO171.out))) (Kd.R_lt (Kd.R_go HO175.out))) (below_size (by repeat (first | (with_reducible first | exact HB.out | apply below_alloc | apply pw_below_drewN | apply below_drew1 | refine below_set ?_ GE161.out | refine below_set ?_ GE166.out | refine below_set ?_ GE176.out | refine below_set ?_ GE177.out) | exact HB.out))))
         have n6_ := Aside0.mk (blk_below (blk_go BK161.out) hb)
         have n7_ := Aside0.mk (blk_below (blk_go BK166.out) hb)
         have n8_ := Aside0.mk (blk_below (blk_go BK176.out) hb)
         have n9_ := Aside0.mk (blk_below (blk_go BK177.out) hb)
         have n10_ := Aside0.mk (below_step (by repeat (first | (with_reducible first | exact HB.out | apply below_alloc | apply pw_below_drewN | apply below_drew1 | refine below_set ?_ GE161.out | refine below_set ?_ GE166.out | refine below_set ?_ GE176.out | refine below_set ?_ GE177.out) | exact HB.out)) hb)
         clear HO_3
         clear HO_10
         clear HL165_1
         clear HO171
         clear HO175
         clear BK161
         clear BK166
         clear BK176
         clear BK177
         clear HB
         have HO_3 := n0_
         have HO_10 := n1_
         have HL165_1 := n2_
         have HO171 := n3_
         have HO175 := n4_
         have HO181 := n5_
         have BK161 := n6_
         have BK166 := n7_
         have BK176 := n8_
         have BK177 := n9_
         have HB := n10_
         clear n0_ n1_ n2_ n3_ n4_ n5_ n6_ n7_ n8_ n9_ n10_
         (try clear hb)
         (try clear hb2)
         (try clear hk)
         (try clear hi)
         (try clear ho0)
         obtain ⟨Ao41, co41, eo41⟩ := Kd.R_slice HO181.out
         (first | subst eo41 | (injection eo41 with f1_ f2_ f3_; have f4_ := f1_.symm; have f5_ := f3_.symm; clear f1_ f2_ f3_; subst f4_; subst f5_))
         refine hK.out _ _ ⟨(blk_cell BK176.out 0).trans rfl, (blk_cell BK176.out 1).trans rfl, (blk_cell BK177.out 0).trans rfl, (blk_cell BK177.out 1).trans rfl⟩ (fun hHeld => ?_)
         clear hK K
         refine norm_ (a' := ?_) ?_ ?_
         rotate_left
         ·
          show Act.put _ (some 32) _ = _
          simp only [Act.put, List.setIfInBounds_toArray, List.set_cons_zero, List.set_cons_succ, i64_w, i32_w]
          rfl
         refine one_ (i := 3) (N := some 33) #[true, true, true, true, true, false, false, false, false, false] rfl rfl (one_of HT_.out (by kernel_rfl)) (by decide) (fun K hK => ?_)
         refine goes_ Tryd.func38 (by kernel_rfl) rfl #[.agg #[.string t178, .slice Ao41 t179.length co41]] (by rfl) rfl rfl (by (try simp only [List.map_toArray, List.map_cons, List.map_nil]); first | done | rfl | (simp only [List.length_drop, List.length_take]; rfl)) ?_
         with_reducible refine (fold_Lower.calls k1 t178 _ _ t179 t182 t183 _ ?side1 ?side2 A19.out).mono ?_
         (case side1 => repeat (first | exact (Kd.R_reads' HO181.out).2.2 | (with_reducible refine Kd.C_alloc ?_ _) | (with_reducible refine Kd.C_drewN ?_ _) | (with_reducible refine Kd.C_drew ?_)))
         (case side2 => exact (Kd.R_reads' HO181.out).2.1)
         rintro e w42 ⟨v184, rfl, ho0, hb⟩
         refine ⟨_, rfl, ?_⟩
         have n0_ := Aside0.mk (Kd.S_elder' (by (with_reducible repeat (first | apply Kd.S_alloc | apply Kd.S_drewN | apply Kd.S_drew)); exact HO_3.out) (Kd.R_base ho0) hb)
         have n1_ := Aside0.mk (Kd.S_elder' (by (with_reducible repeat (first | apply Kd.S_alloc | apply Kd.S_drewN | apply Kd.S_drew)); exact HO_10.out) (Kd.R_base ho0) hb)
         have n2_ := Aside0.mk (Kd.R_elder' (Kd.R_go HL165_1.out) (Kd.R_base ho0) hb)
         have n3_ := Aside0.mk (Kd.R_elder' (Kd.R_go HO171.out) (Kd.R_base ho0) hb)
         have n4_ := Aside0.mk (Kd.R_elder' (Kd.R_go HO175.out) (Kd.R_base ho0) hb)
         have n5_ := Aside0.mk (Kd.R_elder' (Kd.R_go HO181.out) (Kd.R_base ho0) hb)
         have n6_ := Aside0.mk (Kd.R_lower (Kd.R_new' (Kd.R_new' (Kd.R_new' (Kd.R_new' ho0 (Kd.R_lt (Kd.R_go HL165_1.out))) (Kd.R_lt (Kd.R_go HO171.out))) (Kd.R_lt (Kd.R_go HO175.out))) (Kd.R_lt (Kd.R_go HO181.out))) (below_size (by repeat (first | (with_reducible first | exact HB.out | apply below_alloc | apply pw_below_drewN | apply below_drew1 | refine below_set ?_ GE161.out | refine below_set ?_ GE166.out | refine below_set ?_ GE176.out | refine below_set ?_ GE177.out) | exact HB.out))))
         have n7_ := Aside0.mk (blk_below (blk_go BK161.out) hb)
         have n8_ := Aside0.mk (blk_below (blk_go BK166.out) hb)
         have n9_ := Aside0.mk (blk_below (blk_go BK176.out) hb)
         have n10_ := Aside0.mk (blk_below (blk_go BK177.out) hb)
         have n11_ := Aside0.mk (below_step (by repeat (first | (with_reducible first | exact HB.out | apply below_alloc | apply pw_below_drewN | apply below_drew1 | refine below_set ?_ GE161.out | refine below_set ?_ GE166.out | refine below_set ?_ GE176.out | refine below_set ?_ GE177.out) | exact HB.out)) hb)
         clear HO_3
         clear HO_10
         clear HL165_1
         clear HO171
         clear HO175
         clear HO181
         clear BK161
         clear BK166
         clear BK176
         clear BK177
         clear HB
         have HO_3 := n0_
         have HO_10 := n1_
         have HL165_1 := n2_
         have HO171 := n3_
         have HO175 := n4_
         have HO181 := n5_
         have HO185 := n6_
         have BK161 := n7_
         have BK166 := n8_
         have BK176 := n9_
         have BK177 := n10_
         have HB := n11_
         clear n0_ n1_ n2_ n3_ n4_ n5_ n6_ n7_ n8_ n9_ n10_ n11_
         (try clear hb)
         (try clear hb2)
         (try clear hk)
         (try clear hi)
         (try clear ho0)
         refine hK.out _ _ ⟨(blk_cell BK176.out 0).trans rfl, (blk_cell BK176.out 1).trans rfl, (blk_cell BK177.out 0).trans rfl, (blk_cell BK177.out 1).trans rfl⟩ (fun hHeld => ?_)
         clear hK K
         refine norm_ (a' := ?_) ?_ ?_
         rotate_left
         ·
          show Act.put _ (some 33) _ = _
          simp only [Act.put, List.setIfInBounds_toArray, List.set_cons_zero, List.set_cons_succ, i64_w, i32_w]
          rfl
         refine one_ (i := 5) (N := some 35) #[true, true, true, true, true, true, false, false, false, false] rfl rfl (one_of HT_.out (by kernel_rfl)) (by decide) (fun K hK => ?_)
         refine goes_ Tryd.func39 (by kernel_rfl) rfl #[.agg #[.string t172, .slice Ao36 t173.length co36]] (by rfl) rfl rfl (by (try simp only [List.map_toArray, List.map_cons, List.map_nil]); first | done | rfl | (simp only [List.length_drop, List.length_take]; rfl)) ?_
         with_reducible refine (fold_Trim.calls k1 t172 _ _ t173 t186 t187 _ ?side1 ?side2 A20.out).mono ?_
         (case side1 => repeat (first | exact (Kd.R_reads' HO175.out).2.2 | (with_reducible refine Kd.C_alloc ?_ _) | (with_reducible refine Kd.C_drewN ?_ _) | (with_reducible refine Kd.C_drew ?_)))
         (case side2 => exact (Kd.R_reads' HO175.out).2.1)
         rintro e w43 ⟨v188, rfl, ho0, hb⟩
         refine ⟨_, rfl, ?_⟩
         have n0_ := Aside0.mk (Kd.S_elder' (by (with_reducible repeat (first | apply Kd.S_alloc | apply Kd.S_drewN | apply Kd.S_drew)); exact HO_3.out) (Kd.R_base ho0) hb)
         have n1_ := Aside0.mk (Kd.S_elder' (by (with_reducible repeat (first | apply Kd.S_alloc | apply Kd.S_drewN | apply Kd.S_drew)); exact HO_10.out) (Kd.R_base ho0) hb)
         have n2_ := Aside0.mk (Kd.R_elder' (Kd.R_go HL165_1.out) (Kd.R_base ho0) hb)
         have n3_ := Aside0.mk (Kd.R_elder' (Kd.R_go HO171.out) (Kd.R_base ho0) hb)
         have n4_ := Aside0.mk (Kd.R_elder' (Kd.R_go HO175.out) (Kd.R_base ho0) hb)
         have n5_ := Aside0.mk (Kd.R_elder' (Kd.R_go HO181.out) (Kd.R_base ho0) hb)
         have n6_ := Aside0.mk (Kd.R_elder' (Kd.R_go HO185.out) (Kd.R_base ho0) hb)
         have n7_ := Aside0.mk (Kd.R_lower (Kd.R_new' (Kd.R_new' (Kd.R_new' (Kd.R_new' (Kd.R_new' ho0 (Kd.R_lt (Kd.R_go HL165_1.out))) (Kd.R_lt (Kd.R_go HO171.out))) (Kd.R_lt (Kd.R_go HO175.out))) (Kd.R_lt (Kd.R_go HO181.out))) (Kd.R_lt (Kd.R_go HO185.out))) (below_size (by repeat (first | (with_reducible first | exact HB.out | apply below_alloc | apply pw_below_drewN | apply below_drew1 | refine below_set ?_ GE161.out | refine below_set ?_ GE166.out | refine below_set ?_ GE176.out | refine below_set ?_ GE177.out) | exact HB.out))))
         have n8_ := Aside0.mk (blk_below (blk_go BK161.out) hb)
         have n9_ := Aside0.mk (blk_below (blk_go BK166.out) hb)
         have n10_ := Aside0.mk (blk_below (blk_go BK176.out) hb)
         have n11_ := Aside0.mk (blk_below (blk_go BK177.out) hb)
         have n12_ := Aside0.mk (below_step (by repeat (first | (with_reducible first | exact HB.out | apply below_alloc | apply pw_below_drewN | apply below_drew1 | refine below_set ?_ GE161.out | refine below_set ?_ GE166.out | refine below_set ?_ GE176.out | refine below_set ?_ GE177.out) | exact HB.out)) hb)
         clear HO_3
         clear HO_10
         clear HL165_1
         clear HO171
         clear HO175
         clear HO181
         clear HO185
         clear BK161
         clear BK166
         clear BK176
         clear BK177
         clear HB
         have HO_3 := n0_
         have HO_10 := n1_
         have HL165_1 := n2_
         have HO171 := n3_
         have HO175 := n4_
         have HO181 := n5_
         have HO185 := n6_
         have HO189 := n7_
         have BK161 := n8_
         have BK166 := n9_
         have BK176 := n10_
         have BK177 := n11_
         have HB := n12_
         clear n0_ n1_ n2_ n3_ n4_ n5_ n6_ n7_ n8_ n9_ n10_ n11_ n12_
         (try clear hb)
         (try clear hb2)
         (try clear hk)
         (try clear hi)
         (try clear ho0)
         obtain ⟨Ao44, co44, eo44⟩ := Kd.R_slice HO189.out
         (first | subst eo44 | (injection eo44 with f1_ f2_ f3_; have f4_ := f1_.symm; have f5_ := f3_.symm; clear f1_ f2_ f3_; subst f4_; subst f5_))
         obtain ⟨Ao45, co45, eo45⟩ := Kd.R_slice HO185.out
         (first | subst eo45 | (injection eo45 with f1_ f2_ f3_; have f4_ := f1_.symm; have f5_ := f3_.symm; clear f1_ f2_ f3_; subst f4_; subst f5_))
         refine hK.out _ _ ⟨(blk_cell BK176.out 0).trans rfl, (blk_cell BK176.out 1).trans rfl, (blk_cell BK177.out 0).trans rfl, (blk_cell BK177.out 1).trans rfl⟩ (fun hHeld => ?_)
         clear hK K
         refine norm_ (a' := ?_) ?_ ?_
         rotate_left
         ·
          show Act.put _ (some 35) _ = _
          simp only [Act.put, List.setIfInBounds_toArray, List.set_cons_zero, List.set_cons_succ, i64_w, i32_w]
          rfl
         refine pure_ (i := 6) (N := some 36) (v := ?_) (a' := ?_) #[true, true, true, true, true, true, true, false, false, false] rfl rfl (any_of HT_.out (by kernel_rfl)) (fun _ _ _ h => h) (Or.inl ⟨by rfl, ?_⟩) ?_ ?_
         rotate_left
         ·
          intro w'
          go_simp
          with_reducible rfl
         rotate_left
         ·
          simp only [Act.put, List.setIfInBounds_toArray, List.set_cons_zero, List.set_cons_succ, i64_w, i32_w]
          rfl
         refine one_ (i := 7) (N := some 37) #[true, true, true, true, true, true, true, true, false, false] rfl rfl (one_of HT_.out (by kernel_rfl)) (by decide) (fun K hK => ?_)
         refine value_ (w1 := ?_) (v := ?_) (by rfl) rfl ?_ ?_
         rotate_left 2
         ·
          go_simp
          constructor
          ·
           rfl
          ·
           rfl
         refine hK.out _ _ ⟨(blk_cell (blk_alloc BK176.out _) 0).trans rfl, (blk_cell (blk_alloc BK176.out _) 1).trans rfl, (blk_cell (blk_alloc BK177.out _) 0).trans rfl, (blk_cell (blk_alloc BK177.out _) 1).trans rfl⟩ (fun hHeld => ?_)
         clear hK K
         refine norm_ (a' := ?_) ?_ ?_
         rotate_left
         ·
          show Act.put _ (some 37) _ = _
          simp only [Act.put, List.setIfInBounds_toArray, List.set_cons_zero, List.set_cons_succ, i64_w, i32_w]
          rfl
         refine one_ (i := 8) (N := some 38) #[true, true, true, true, true, true, true, true, true, false] rfl rfl (one_of HT_.out (by kernel_rfl)) (by decide) (fun K hK => ?_)
         refine Kd.S_append_step k32 (w0 := w) w.heap.size (by rfl) (.tmp 30) (.tmp 37) 28 32 (.agg #[(.string ⟨#[]⟩), (.slice none 0 0), (.string ⟨#[]⟩), (.slice none 0 0)]) 80 rfl Tryd.underlying28 info32 rfl (by decide) (by omega) u3 x3_1 (⟨(⟨t182, t183⟩ : S24), (⟨t186, t187⟩ : S24)⟩ : S32) [.string t182, .slice Ao45 t183.length co45, .string t186, .slice Ao44 t187.length co44] (fun k_ => some k_ ≠ (.slice Ao33 t169.length co33 : Value).ownBlock ∧ some k_ ≠ (.slice Ao36 t173.length co36 : Value).ownBlock ∧ some k_ ≠ (.slice Ao41 t179.length co41 : Value).ownBlock) (fun k_ => some k_ = (.slice Ao45 t183.length co45 : Value).ownBlock ∨ some k_ = (.slice Ao44 t187.length co44 : Value).ownBlock) rfl rfl ?aP (fun k_ hk_ => hk_.elim (fun h_ => ((Kd.R_mono (ok' := fun k_ => ((fun k_ => some k_ ≠ (.slice Ao33 t169.length co33 : Value).ownBlock ∧ some k_ ≠ (.slice Ao36 t173.length co36 : Value).ownBlock ∧ some k_ ≠ (.slice Ao41 t179.length co41 : Value).ownBlock)) k_ ∧ some k_ ≠ (u3 : Value).ownBlock) (Kd.R_apart' (HO185.out) (Kd.S_typed HO_3.out) (by decide)) (fun k_ hk => ⟨⟨hk.1.1.1.1.2, ⟨hk.1.1.1.2, hk.1.1.2⟩⟩, hk.2⟩))).1 k_ h_.symm) (fun h_ => ((Kd.R_mono (ok' := fun k_ => ((fun k_ => some k_ ≠ (.slice Ao33 t169.length co33 : Value).ownBlock ∧ some k_ ≠ (.slice Ao36 t173.length co36 : Value).ownBlock ∧ some k_ ≠ (.slice Ao41 t179.length co41 : Value).ownBlock)) k_ ∧ some k_ ≠ (u3 : Value).ownBlock) (Kd.R_apart' (HO189.out) (Kd.S_typed HO_3.out) (by decide)) (fun k_ hk => ⟨⟨hk.1.1.1.1.2, ⟨hk.1.1.1.2, hk.1.1.2⟩⟩, hk.2⟩))).1 k_ h_.symm)) ?aF ?aO ?aB ?aS ?aL ?_
         (case aP => exact k32_mkM _ _ _ (⟨(⟨t182, t183⟩ : S24), (⟨t186, t187⟩ : S24)⟩ : S32) (Kd.R_mono (Kd.R_tight rfl (Kd.R_mono (ok' := fun k_ => ((fun k_ => some k_ ≠ (.slice Ao33 t169.length co33 : Value).ownBlock ∧ some k_ ≠ (.slice Ao36 t173.length co36 : Value).ownBlock ∧ some k_ ≠ (.slice Ao41 t179.length co41 : Value).ownBlock)) k_ ∧ some k_ ≠ (u3 : Value).ownBlock) (Kd.R_apart' (HO185.out) (Kd.S_typed HO_3.out) (by decide)) (fun k_ hk => ⟨⟨hk.1.1.1.1.2, ⟨hk.1.1.1.2, hk.1.1.2⟩⟩, hk.2⟩))) (fun _ h_ => Or.inl h_)) (Kd.R_mono (Kd.R_tight rfl (Kd.R_mono (ok' := fun k_ => ((fun k_ => some k_ ≠ (.slice Ao33 t169.length co33 : Value).ownBlock ∧ some k_ ≠ (.slice Ao36 t173.length co36 : Value).ownBlock ∧ some k_ ≠ (.slice Ao41 t179.length co41 : Value).ownBlock)) k_ ∧ some k_ ≠ (u3 : Value).ownBlock) (Kd.R_apart' (HO189.out) (Kd.S_typed HO_3.out) (by decide)) (fun k_ hk => ⟨⟨hk.1.1.1.1.2, ⟨hk.1.1.1.2, hk.1.1.2⟩⟩, hk.2⟩))) (fun _ h_ => Or.inr (h_))))
         (case aB => exact (by repeat (first | (with_reducible first | exact HB.out | apply below_alloc | apply pw_below_drewN | apply below_drew1 | refine below_set ?_ GE161.out | refine below_set ?_ GE166.out | refine below_set ?_ GE176.out | refine below_set ?_ GE177.out) | exact HB.out)))
         (case aF => exact (fun k_ hk => ⟨Kd.fresh' (Kd.R_lt (Kd.R_go HO171.out)) k_ hk, Kd.fresh' (Kd.R_lt (Kd.R_go HO175.out)) k_ hk, Kd.fresh' (Kd.R_lt (Kd.R_go HO181.out)) k_ hk⟩))
         (case aO => exact (by (with_reducible repeat (first | apply Kd.S_alloc | apply Kd.S_drewN | apply Kd.S_drew)); exact Kd.S_mono HO_3.out (fun k_ hk => ⟨⟨hk.1.1.1.1, ⟨hk.1.1.1.2, hk.1.1.2⟩⟩, fun e_ => e_.elim (fun h_ => hk.1.2 h_) (fun h_ => hk.2 h_)⟩)))
         (case aS => exact (below_size (by repeat (first | (with_reducible first | exact HB.out | apply below_alloc | apply pw_below_drewN | apply below_drew1 | refine below_set ?_ GE161.out | refine below_set ?_ GE166.out | refine below_set ?_ GE176.out | refine below_set ?_ GE177.out) | exact HB.out))))
         (case aL => have := LMc21.out; omega)
         intro v191 w46 ho hb hg hat
         rw [← Ny190.out] at ho
         have n0_ := Aside0.mk (Kd.S_over' (by (with_reducible repeat (first | apply Kd.S_alloc | apply Kd.S_drewN | apply Kd.S_drew)); exact HO_10.out) (Kd.S_typed (by (with_reducible repeat (first | apply Kd.S_alloc | apply Kd.S_drewN | apply Kd.S_drew)); exact HO_3.out)) (by decide) hg)
         have n1_ := Aside0.mk (blk_grown (g := gb161) (o := .cells #[.string a0_0, .slice A0_1 l0_1.length c0_1] 24 (0, 0)) (blk_go BK161.out) hg (Kd.S_ne HO_3.out BK161.out (by decide)))
         have n2_ := Aside0.mk (Kd.R_over' (Kd.R_go HL165_1.out) (Kd.S_typed (by (with_reducible repeat (first | apply Kd.S_alloc | apply Kd.S_drewN | apply Kd.S_drew)); exact HO_3.out)) (by decide) hg)
         have n3_ := Aside0.mk (blk_grown (g := gb166) (o := .cells #[.string ((rd_T24 t162 x12_1).f0), .slice A165_1 ((rd_T24 t162 x12_1).f1).length c165_1] 24 (0, 0)) (blk_go BK166.out) hg (Kd.S_ne HO_3.out BK166.out (by decide)))
         have n4_ := Aside0.mk (Kd.R_over' (Kd.R_go HO171.out) (Kd.S_typed (by (with_reducible repeat (first | apply Kd.S_alloc | apply Kd.S_drewN | apply Kd.S_drew)); exact HO_3.out)) (by decide) hg)
         have n5_ := Aside0.mk (Kd.R_over' (Kd.R_go HO175.out) (Kd.S_typed (by (with_reducible repeat (first | apply Kd.S_alloc | apply Kd.S_drewN | apply Kd.S_drew)); exact HO_3.out)) (by decide) hg)
         have n6_ := Aside0.mk (blk_grown (g := gb176) (o := .cells #[.string t168, .slice Ao33 t169.length co33] 24 (0, 0)) (blk_go BK176.out) hg (Kd.S_ne HO_3.out BK176.out (by decide)))
         have n7_ := Aside0.mk (blk_grown (g := gb177) (o := .cells #[.string t172, .slice Ao36 t173.length co36] 24 (0, 0)) (blk_go BK177.out) hg (Kd.S_ne HO_3.out BK177.out (by decide)))
         have n8_ := Aside0.mk (Kd.R_over' (Kd.R_go HO181.out) (Kd.S_typed (by (with_reducible repeat (first | apply Kd.S_alloc | apply Kd.S_drewN | apply Kd.S_drew)); exact HO_3.out)) (by decide) hg)
         have n9_ := Aside0.mk (hb)
         have n10_ := Aside0.mk (ho)
         clear HO_10
         clear BK161
         clear HL165_1
         clear BK166
         clear HO171
         clear HO175
         clear BK176
         clear BK177
         clear HO181
         clear HB
         clear HO_3
         clear HO185
         clear HO189
         have HO_10 := n0_
         have BK161 := n1_
         have HL165_1 := n2_
         have BK166 := n3_
         have HO171 := n4_
         have HO175 := n5_
         have BK176 := n6_
         have BK177 := n7_
         have HO181 := n8_
         have HB := n9_
         have HO192 := n10_
         clear n0_ n1_ n2_ n3_ n4_ n5_ n6_ n7_ n8_ n9_ n10_
         clear ho hb hg hat
         refine hK.out _ _ ⟨(blk_cell BK176.out 0).trans rfl, (blk_cell BK176.out 1).trans rfl, (blk_cell BK177.out 0).trans rfl, (blk_cell BK177.out 1).trans rfl⟩ (fun hHeld => ?_)
         clear hK K
         refine norm_ (a' := ?_) ?_ ?_
         rotate_left
         ·
          show Act.put _ (some 38) _ = _
          simp only [Act.put, List.setIfInBounds_toArray, List.set_cons_zero, List.set_cons_succ, i64_w, i32_w]
          rfl
         refine pure_ (i := 9) (N := some 3) (v := ?_) (a' := ?_) #[true, true, true, true, true, true, true, true, true, true] rfl rfl (any_of HT_.out (by kernel_rfl)) (fun _ _ _ h => h) (Or.inl ⟨by rfl, ?_⟩) ?_ ?_
         rotate_left
         ·
          intro w'
          go_simp
          with_reducible rfl
         rotate_left
         ·
          simp only [Act.put, List.setIfInBounds_toArray, List.set_cons_zero, List.set_cons_succ, i64_w, i32_w]
          rfl
         refine done_ (done_of HT_.out (by kernel_rfl)) ?_
         try go_wp2
         go_roundg k1
         case measure => have := HK1.out; omega
         case rel => exact ⟨(y190), (wrap64 (x12_1 + 1)), (by first | rfl | (simp; done) | (simp [*]; done)), H', ⟨by have := HK1.out; omega⟩, ⟨by (with_reducible repeat (first | apply Kd.S_alloc | apply Kd.S_drewN | apply Kd.S_drew)); exact Kd.S_mono HO192.out (fun _ hk => trivial)⟩, ⟨by (with_reducible repeat (first | apply Kd.S_alloc | apply Kd.S_drewN | apply Kd.S_drew)); exact Kd.S_mono HO_10.out (fun _ hk => hk.1.1.1.2.2.1)⟩, ⟨by (with_reducible repeat (first | refine blk_drewN ?_ _ | refine blk_drew ?_ | refine blk_alloc ?_ _)); exact BK161.out⟩, ⟨by repeat (first | (with_reducible first | exact HB.out | apply below_alloc | apply pw_below_drewN | apply below_drew1 | refine below_set ?_ GE161.out | refine below_set ?_ GE166.out | refine below_set ?_ GE176.out | refine below_set ?_ GE177.out) | exact HB.out)⟩⟩
        intro hJ2_9_10_11
        refine join_ (σ := Value × Value × Nat) 3 #[true, true, true, true, true, true, true, true, true, true, true, false, false, false] (fun s_ => [(22, .agg #[.string t168, s_.1]), (29, .agg #[.string t172, s_.2.1]), (7, .pointer (some ⟨s_.2.2, 0, none⟩))]) (fun s_ w' => (w'.cell? ⟨gb166, 0, none⟩ = some (.string ((rd_T24 t162 x12_1).f0)) ∧ w'.cell? ⟨gb166, 1, none⟩ = some (.slice A165_1 ((rd_T24 t162 x12_1).f1).length c165_1)) ∧ (Kd.R k56 56 w' w.heap.size (fun k_ => some k_ ≠ (s_.1 : Value).ownBlock ∧ some k_ ≠ (s_.2.1 : Value).ownBlock ∧ some k_ ≠ (.slice (some ad165) t162.length co6 : Value).ownBlock ∧ k_ ≠ gb161) (.slice A165_1 ((rd_T24 t162 x12_1).f1).length c165_1) ((rd_T24 t162 x12_1).f1)) ∧ (Kd.R k56 56 w' w.heap.size (fun k_ => some k_ ≠ (.slice A165_1 ((rd_T24 t162 x12_1).f1).length c165_1 : Value).ownBlock ∧ some k_ ≠ (s_.2.1 : Value).ownBlock) s_.1 t169) ∧ (Kd.R k56 56 w' w.heap.size (fun k_ => some k_ ≠ (.slice A165_1 ((rd_T24 t162 x12_1).f1).length c165_1 : Value).ownBlock ∧ some k_ ≠ (s_.1 : Value).ownBlock) s_.2.1 t173) ∧ (Kd.S k24 24 w' w.heap.size (fun k_ => some k_ ≠ (s_.1 : Value).ownBlock ∧ some k_ ≠ (s_.2.1 : Value).ownBlock ∧ k_ ≠ gb161 ∧ k_ ≠ gb166 ∧ k_ ≠ s_.2.2) (.slice (some ad165) t162.length co6) t162) ∧ (Kd.S k32 32 w' w.heap.size (fun k_ => some k_ ≠ (s_.1 : Value).ownBlock ∧ some k_ ≠ (s_.2.1 : Value).ownBlock) u3 x3_1) ∧ (w'.heap[gb161]? = some (.cells #[.string a0_0, .slice A0_1 l0_1.length c0_1] 24 (0, 0))) ∧ (w'.heap[gb166]? = some (.cells #[.string ((rd_T24 t162 x12_1).f0), .slice A165_1 ((rd_T24 t162 x12_1).f1).length c165_1] 24 (0, 0))) ∧ (w'.heap[s_.2.2]? = some (.cells #[.string (⟨#[]⟩ : ByteArray), .slice none 0 0] 24 (0, 0))) ∧ (w.heap.size ≤ s_.2.2) ∧ (w.heap.size ≤ s_.2.2) ∧ (gb161 ≠ s_.2.2) ∧ (s_.2.2 ≠ gb161) ∧ (gb166 ≠ s_.2.2) ∧ (s_.2.2 ≠ gb166) ∧ (Below w.heap.size w w')) ?_ ?_
        ·
         ·
          skip
          rintro ⟨v170, v174, gb176⟩ w30 ⟨hS_, h0_, h1_, h2_, h3_, h4_, h5_, h6_, h7_, h8_, h9_, h10_, h11_, h12_, h13_, h14_⟩
          dsimp only at hS_ h0_ h1_ h2_ h3_ h4_ h5_ h6_ h7_ h8_ h9_ h10_ h11_ h12_ h13_ h14_
          have n0_ := Aside0.mk h0_
          have n1_ := Aside0.mk h1_
          have n2_ := Aside0.mk h2_
          have n3_ := Aside0.mk h3_
          have n4_ := Aside0.mk h4_
          have n5_ := Aside0.mk h5_
          have n6_ := Aside0.mk h6_
          have n7_ := Aside0.mk h7_
          have n8_ := Aside0.mk h8_
          have n9_ := Aside0.mk h9_
          have n10_ := Aside0.mk h10_
          have n11_ := Aside0.mk h11_
          have n12_ := Aside0.mk h12_
          have n13_ := Aside0.mk h13_
          have n14_ := Aside0.mk h14_
          clear HO_3
          clear HO_10
          clear HL165_1
          clear BK161
          clear BK166
          clear HR165_1
          clear HB
          clear h0_ h1_ h2_ h3_ h4_ h5_ h6_ h7_ h8_ h9_ h10_ h11_ h12_ h13_ h14_
          have HL165_1 := n0_
          have HO171 := n1_
          have HO175 := n2_
          have HO_10 := n3_
          have HO_3 := n4_
          have BK161 := n5_
          have BK166 := n6_
          have BK176 := n7_
          have GW176 := n8_
          have GE176 := n9_
          have NB161_176 := n10_
          have NB176_161 := n11_
          have NB166_176 := n12_
          have NB176_166 := n13_
          have HB := n14_
          clear n0_ n1_ n2_ n3_ n4_ n5_ n6_ n7_ n8_ n9_ n10_ n11_ n12_ n13_ n14_
          have hHeld := hS_
          refine norm_ (a' := ?_) ?_ ?_
          rotate_left
          ·
           simp only [putAll, Act.put, List.setIfInBounds_toArray, List.set_cons_zero, List.set_cons_succ]
           rfl
          refine one_ (i := 11) (N := some 8) #[true, true, true, true, true, true, true, true, true, true, true, true, false, false] rfl rfl (one_of HT_.out (by kernel_rfl)) (by decide) (fun K hK => ?_)
          refine box_step ?hg (N := 8) ?hd (cs := #[.string (⟨#[]⟩ : ByteArray), .slice none 0 0]) (t := 24) ?hr ?_; (case hd => rfl); (case hg => rfl); (case hr => first | (go_simp; done) | (go_simp; rfl))
          intro gb177 hg w31 hbox hb
          have n0_ := Aside0.mk (Kd.S_below (by (with_reducible repeat (first | apply Kd.S_alloc | apply Kd.S_drewN | apply Kd.S_drew)); exact HO_3.out) hb)
          have n1_ := Aside0.mk (Kd.S_below (Kd.S_elderB (by (with_reducible repeat (first | apply Kd.S_alloc | apply Kd.S_drewN | apply Kd.S_drew)); exact HO_10.out) gb177 (Nat.le_of_eq hg.symm)) hb)
          have n2_ := Aside0.mk (Kd.R_below (Kd.R_go HL165_1.out) hb)
          have n3_ := Aside0.mk (Kd.R_below (Kd.R_go HO171.out) hb)
          have n4_ := Aside0.mk (Kd.R_below (Kd.R_go HO175.out) hb)
          have n5_ := Aside0.mk (blk_below (blk_go BK161.out) hb)
          have n6_ := Aside0.mk (blk_below (blk_go BK166.out) hb)
          have n7_ := Aside0.mk (blk_below (blk_go BK176.out) hb)
          have n8_ := Aside0.mk (below_step (by repeat (first | (with_reducible first | exact HB.out | apply below_alloc | apply pw_below_drewN | apply below_drew1 | refine below_set ?_ GE161.out | refine below_set ?_ GE166.out | refine below_set ?_ GE176.out) | exact HB.out)) hb)
          have n9_ := Aside0.mk (hbox)
          have n10_ := Aside0.mk ((by rw [hg]; exact (below_size (by repeat (first | (with_reducible first | exact HB.out | apply below_alloc | apply pw_below_drewN | apply below_drew1 | refine below_set ?_ GE161.out | refine below_set ?_ GE166.out | refine below_set ?_ GE176.out) | exact HB.out))) : w.heap.size ≤ gb177))
          have n11_ := Aside0.mk ((by rw [hg]; exact (below_size (by repeat (first | (with_reducible first | exact HB.out | apply below_alloc | apply pw_below_drewN | apply below_drew1 | refine below_set ?_ GE161.out | refine below_set ?_ GE166.out | refine below_set ?_ GE176.out) | exact HB.out))) : w.heap.size ≤ gb177))
          have n12_ := Aside0.mk ((by rw [hg]; exact Nat.ne_of_lt (blk_lt (g := gb161) (o := .cells #[.string a0_0, .slice A0_1 l0_1.length c0_1] 24 (0, 0)) (blk_go BK161.out)) : gb161 ≠ gb177))
          have n13_ := Aside0.mk (blk_apart hg (blk_go BK161.out) : gb177 ≠ gb161)
          have n14_ := Aside0.mk ((by rw [hg]; exact Nat.ne_of_lt (blk_lt (g := gb166) (o := .cells #[.string ((rd_T24 t162 x12_1).f0), .slice A165_1 ((rd_T24 t162 x12_1).f1).length c165_1] 24 (0, 0)) (blk_go BK166.out)) : gb166 ≠ gb177))
          have n15_ := Aside0.mk (blk_apart hg (blk_go BK166.out) : gb177 ≠ gb166)
          have n16_ := Aside0.mk ((by rw [hg]; exact Nat.ne_of_lt (blk_lt (g := gb176) (o := .cells #[.string (⟨#[]⟩ : ByteArray), .slice none 0 0] 24 (0, 0)) (blk_go BK176.out)) : gb176 ≠ gb177))
          have n17_ := Aside0.mk (blk_apart hg (blk_go BK176.out) : gb177 ≠ gb176)
          clear HO_3
          clear HO_10
          clear HL165_1
          clear HO171
          clear HO175
          clear BK161
          clear BK166
          clear BK176
          clear HB
          have HO_3 := n0_
          have HO_10 := n1_
          have HL165_1 := n2_
          have HO171 := n3_
          have HO175 := n4_
          have BK161 := n5_
          have BK166 := n6_
          have BK176 := n7_
          have HB := n8_
          have BK177 := n9_
          have GW177 := n10_
          have GE177 := n11_
          have NB161_177 := n12_
          have NB177_161 := n13_
          have NB166_177 := n14_
          have NB177_166 := n15_
          have NB176_177 := n16_
          have NB177_176 := n17_
          clear n0_ n1_ n2_ n3_ n4_ n5_ n6_ n7_ n8_ n9_ n10_ n11_ n12_ n13_ n14_ n15_ n16_ n17_
          clear hb hbox hg
          refine hK.out _ _ ⟨(blk_cell BK166.out 0).trans rfl, (blk_cell BK166.out 1).trans rfl⟩ (fun hHeld => ?_)
          clear hK K
          refine norm_ (a' := ?_) ?_ ?_
          rotate_left
          ·
           show Act.put _ (some 8) _ = _
           simp only [Act.put, List.setIfInBounds_toArray, List.set_cons_zero, List.set_cons_succ, i64_w, i32_w]
           rfl
          exact norm_ (by simp only [putAll, Act.put, List.setIfInBounds_toArray, List.set_cons_zero, List.set_cons_succ]; try rfl) (hJ2_9_10_11 (v170, v174, gb176, gb177) _ ⟨hHeld, (Kd.R_go HL165_1.out), (Kd.R_go HO171.out), (Kd.R_go HO175.out), (by (with_reducible repeat (first | apply Kd.S_alloc | apply Kd.S_drewN | apply Kd.S_drew)); exact Kd.S_mono HO_10.out (fun _ hk => ⟨hk.1.1, ⟨hk.1.2.1, ⟨hk.1.2.2.1, ⟨hk.1.2.2.2.1, ⟨hk.1.2.2.2.2, hk.2⟩⟩⟩⟩⟩)), (by (with_reducible repeat (first | apply Kd.S_alloc | apply Kd.S_drewN | apply Kd.S_drew)); exact HO_3.out), (blk_go BK161.out), (blk_go BK166.out), (blk_go BK176.out), (blk_go BK177.out), GW176.out, GE176.out, NB161_176.out, NB176_161.out, NB166_176.out, NB176_166.out, NB177_176.out, NB176_177.out, GW177.out, GE177.out, NB161_177.out, NB177_161.out, NB166_177.out, NB177_166.out, (by repeat (first | (with_reducible first | exact HB.out | apply below_alloc | apply pw_below_drewN | apply below_drew1 | refine below_set ?_ GE161.out | refine below_set ?_ GE166.out | refine below_set ?_ GE176.out | refine below_set ?_ GE177.out) | exact HB.out))⟩)
        intro hJ2_9_10
        refine join_ (σ := Value × Value × Nat) 3 #[true, true, true, true, true, true, true, true, true, true, false, true, false, false] (fun s_ => [(22, .agg #[.string t168, s_.1]), (29, .agg #[.string t172, s_.2.1]), (8, .pointer (some ⟨s_.2.2, 0, none⟩))]) (fun s_ w' => (w'.cell? ⟨gb166, 0, none⟩ = some (.string ((rd_T24 t162 x12_1).f0)) ∧ w'.cell? ⟨gb166, 1, none⟩ = some (.slice A165_1 ((rd_T24 t162 x12_1).f1).length c165_1)) ∧ (Kd.R k56 56 w' w.heap.size (fun k_ => some k_ ≠ (s_.1 : Value).ownBlock ∧ some k_ ≠ (s_.2.1 : Value).ownBlock ∧ some k_ ≠ (.slice (some ad165) t162.length co6 : Value).ownBlock ∧ k_ ≠ gb161) (.slice A165_1 ((rd_T24 t162 x12_1).f1).length c165_1) ((rd_T24 t162 x12_1).f1)) ∧ (Kd.R k56 56 w' w.heap.size (fun k_ => some k_ ≠ (.slice A165_1 ((rd_T24 t162 x12_1).f1).length c165_1 : Value).ownBlock ∧ some k_ ≠ (s_.2.1 : Value).ownBlock) s_.1 t169) ∧ (Kd.R k56 56 w' w.heap.size (fun k_ => some k_ ≠ (.slice A165_1 ((rd_T24 t162 x12_1).f1).length c165_1 : Value).ownBlock ∧ some k_ ≠ (s_.1 : Value).ownBlock) s_.2.1 t173) ∧ (Kd.S k24 24 w' w.heap.size (fun k_ => some k_ ≠ (s_.1 : Value).ownBlock ∧ some k_ ≠ (s_.2.1 : Value).ownBlock ∧ k_ ≠ gb161 ∧ k_ ≠ gb166 ∧ k_ ≠ s_.2.2) (.slice (some ad165) t162.length co6) t162) ∧ (Kd.S k32 32 w' w.heap.size (fun k_ => some k_ ≠ (s_.1 : Value).ownBlock ∧ some k_ ≠ (s_.2.1 : Value).ownBlock) u3 x3_1) ∧ (w'.heap[gb161]? = some (.cells #[.string a0_0, .slice A0_1 l0_1.length c0_1] 24 (0, 0))) ∧ (w'.heap[gb166]? = some (.cells #[.string ((rd_T24 t162 x12_1).f0), .slice A165_1 ((rd_T24 t162 x12_1).f1).length c165_1] 24 (0, 0))) ∧ (w'.heap[s_.2.2]? = some (.cells #[.string (⟨#[]⟩ : ByteArray), .slice none 0 0] 24 (0, 0))) ∧ (w.heap.size ≤ s_.2.2) ∧ (w.heap.size ≤ s_.2.2) ∧ (gb161 ≠ s_.2.2) ∧ (s_.2.2 ≠ gb161) ∧ (gb166 ≠ s_.2.2) ∧ (s_.2.2 ≠ gb166) ∧ (Below w.heap.size w w')) ?_ ?_
        ·
         ·
          skip
          rintro ⟨v170, v174, gb177⟩ w30 ⟨hS_, h0_, h1_, h2_, h3_, h4_, h5_, h6_, h7_, h8_, h9_, h10_, h11_, h12_, h13_, h14_⟩
          dsimp only at hS_ h0_ h1_ h2_ h3_ h4_ h5_ h6_ h7_ h8_ h9_ h10_ h11_ h12_ h13_ h14_
          have n0_ := Aside0.mk h0_
          have n1_ := Aside0.mk h1_
          have n2_ := Aside0.mk h2_
          have n3_ := Aside0.mk h3_
          have n4_ := Aside0.mk h4_
          have n5_ := Aside0.mk h5_
          have n6_ := Aside0.mk h6_
          have n7_ := Aside0.mk h7_
          have n8_ := Aside0.mk h8_
          have n9_ := Aside0.mk h9_
          have n10_ := Aside0.mk h10_
          have n11_ := Aside0.mk h11_
          have n12_ := Aside0.mk h12_
          have n13_ := Aside0.mk h13_
          have n14_ := Aside0.mk h14_
          clear HO_3
          clear HO_10
          clear HL165_1
          clear BK161
          clear BK166
          clear HR165_1
          clear HB
          clear h0_ h1_ h2_ h3_ h4_ h5_ h6_ h7_ h8_ h9_ h10_ h11_ h12_ h13_ h14_
          have HL165_1 := n0_
          have HO171 := n1_
          have HO175 := n2_
          have HO_10 := n3_
          have HO_3 := n4_
          have BK161 := n5_
          have BK166 := n6_
          have BK177 := n7_
          have GW177 := n8_
          have GE177 := n9_
          have NB161_177 := n10_
          have NB177_161 := n11_
          have NB166_177 := n12_
          have NB177_166 := n13_
          have HB := n14_
          clear n0_ n1_ n2_ n3_ n4_ n5_ n6_ n7_ n8_ n9_ n10_ n11_ n12_ n13_ n14_
          have hHeld := hS_
          refine norm_ (a' := ?_) ?_ ?_
          rotate_left
          ·
           simp only [putAll, Act.put, List.setIfInBounds_toArray, List.set_cons_zero, List.set_cons_succ]
           rfl
          refine one_ (i := 10) (N := some 7) #[true, true, true, true, true, true, true, true, true, true, true, true, false, false] rfl rfl (one_of HT_.out (by kernel_rfl)) (by decide) (fun K hK => ?_)
          refine box_step ?hg (N := 7) ?hd (cs := #[.string (⟨#[]⟩ : ByteArray), .slice none 0 0]) (t := 24) ?hr ?_; (case hd => rfl); (case hg => rfl); (case hr => first | (go_simp; done) | (go_simp; rfl))
          intro gb176 hg w31 hbox hb
          have n0_ := Aside0.mk (Kd.S_below (by (with_reducible repeat (first | apply Kd.S_alloc | apply Kd.S_drewN | apply Kd.S_drew)); exact HO_3.out) hb)
          have n1_ := Aside0.mk (Kd.S_below (Kd.S_elderB (by (with_reducible repeat (first | apply Kd.S_alloc | apply Kd.S_drewN | apply Kd.S_drew)); exact HO_10.out) gb176 (Nat.le_of_eq hg.symm)) hb)
          have n2_ := Aside0.mk (Kd.R_below (Kd.R_go HL165_1.out) hb)
          have n3_ := Aside0.mk (Kd.R_below (Kd.R_go HO171.out) hb)
          have n4_ := Aside0.mk (Kd.R_below (Kd.R_go HO175.out) hb)
          have n5_ := Aside0.mk (blk_below (blk_go BK161.out) hb)
          have n6_ := Aside0.mk (blk_below (blk_go BK166.out) hb)
          have n7_ := Aside0.mk (blk_below (blk_go BK177.out) hb)
          have n8_ := Aside0.mk (below_step (by repeat (first | (with_reducible first | exact HB.out | apply below_alloc | apply pw_below_drewN | apply below_drew1 | refine below_set ?_ GE161.out | refine below_set ?_ GE166.out | refine below_set ?_ GE177.out) | exact HB.out)) hb)
          have n9_ := Aside0.mk (hbox)
          have n10_ := Aside0.mk ((by rw [hg]; exact (below_size (by repeat (first | (with_reducible first | exact HB.out | apply below_alloc | apply pw_below_drewN | apply below_drew1 | refine below_set ?_ GE161.out | refine below_set ?_ GE166.out | refine below_set ?_ GE177.out) | exact HB.out))) : w.heap.size ≤ gb176))
          have n11_ := Aside0.mk ((by rw [hg]; exact (below_size (by repeat (first | (with_reducible first | exact HB.out | apply below_alloc | apply pw_below_drewN | apply below_drew1 | refine below_set ?_ GE161.out | refine below_set ?_ GE166.out | refine below_set ?_ GE177.out) | exact HB.out))) : w.heap.size ≤ gb176))
          have n12_ := Aside0.mk ((by rw [hg]; exact Nat.ne_of_lt (blk_lt (g := gb161) (o := .cells #[.string a0_0, .slice A0_1 l0_1.length c0_1] 24 (0, 0)) (blk_go BK161.out)) : gb161 ≠ gb176))
          have n13_ := Aside0.mk (blk_apart hg (blk_go BK161.out) : gb176 ≠ gb161)
          have n14_ := Aside0.mk ((by rw [hg]; exact Nat.ne_of_lt (blk_lt (g := gb166) (o := .cells #[.string ((rd_T24 t162 x12_1).f0), .slice A165_1 ((rd_T24 t162 x12_1).f1).length c165_1] 24 (0, 0)) (blk_go BK166.out)) : gb166 ≠ gb176))
          have n15_ := Aside0.mk (blk_apart hg (blk_go BK166.out) : gb176 ≠ gb166)
          have n16_ := Aside0.mk ((by rw [hg]; exact Nat.ne_of_lt (blk_lt (g := gb177) (o := .cells #[.string (⟨#[]⟩ : ByteArray), .slice none 0 0] 24 (0, 0)) (blk_go BK177.out)) : gb177 ≠ gb176))
          have n17_ := Aside0.mk (blk_apart hg (blk_go BK177.out) : gb176 ≠ gb177)
          clear HO_3
          clear HO_10
          clear HL165_1
          clear HO171
          clear HO175
          clear BK161
          clear BK166
          clear BK177
          clear HB
          have HO_3 := n0_
          have HO_10 := n1_
          have HL165_1 := n2_
          have HO171 := n3_
          have HO175 := n4_
          have BK161 := n5_
          have BK166 := n6_
          have BK177 := n7_
          have HB := n8_
          have BK176 := n9_
          have GW176 := n10_
          have GE176 := n11_
          have NB161_176 := n12_
          have NB176_161 := n13_
          have NB166_176 := n14_
          have NB176_166 := n15_
          have NB177_176 := n16_
          have NB176_177 := n17_
          clear n0_ n1_ n2_ n3_ n4_ n5_ n6_ n7_ n8_ n9_ n10_ n11_ n12_ n13_ n14_ n15_ n16_ n17_
          clear hb hbox hg
          refine hK.out _ _ ⟨(blk_cell BK166.out 0).trans rfl, (blk_cell BK166.out 1).trans rfl⟩ (fun hHeld => ?_)
          clear hK K
          refine norm_ (a' := ?_) ?_ ?_
          rotate_left
          ·
           show Act.put _ (some 7) _ = _
           simp only [Act.put, List.setIfInBounds_toArray, List.set_cons_zero, List.set_cons_succ, i64_w, i32_w]
           rfl
          exact norm_ (by simp only [putAll, Act.put, List.setIfInBounds_toArray, List.set_cons_zero, List.set_cons_succ]; try rfl) (hJ2_9_10_11 (v170, v174, gb176, gb177) _ ⟨hHeld, (Kd.R_go HL165_1.out), (Kd.R_go HO171.out), (Kd.R_go HO175.out), (by (with_reducible repeat (first | apply Kd.S_alloc | apply Kd.S_drewN | apply Kd.S_drew)); exact Kd.S_mono HO_10.out (fun _ hk => ⟨hk.1.1, ⟨hk.1.2.1, ⟨hk.1.2.2.1, ⟨hk.1.2.2.2.1, ⟨hk.2, hk.1.2.2.2.2⟩⟩⟩⟩⟩)), (by (with_reducible repeat (first | apply Kd.S_alloc | apply Kd.S_drewN | apply Kd.S_drew)); exact HO_3.out), (blk_go BK161.out), (blk_go BK166.out), (blk_go BK176.out), (blk_go BK177.out), GW176.out, GE176.out, NB161_176.out, NB176_161.out, NB166_176.out, NB176_166.out, NB177_176.out, NB176_177.out, GW177.out, GE177.out, NB161_177.out, NB177_161.out, NB166_177.out, NB177_166.out, (by repeat (first | (with_reducible first | exact HB.out | apply below_alloc | apply pw_below_drewN | apply below_drew1 | refine below_set ?_ GE161.out | refine below_set ?_ GE166.out | refine below_set ?_ GE177.out | refine below_set ?_ GE176.out) | exact HB.out))⟩)
        intro hJ2_9_11
        refine join_ (σ := Value × Nat × Nat) 3 #[true, true, true, true, true, true, true, true, true, false, true, true, false, false] (fun s_ => [(22, .agg #[.string t168, s_.1]), (7, .pointer (some ⟨s_.2.1, 0, none⟩)), (8, .pointer (some ⟨s_.2.2, 0, none⟩))]) (fun s_ w' => (w'.cell? ⟨gb166, 0, none⟩ = some (.string ((rd_T24 t162 x12_1).f0)) ∧ w'.cell? ⟨gb166, 1, none⟩ = some (.slice A165_1 ((rd_T24 t162 x12_1).f1).length c165_1)) ∧ (Kd.R k56 56 w' w.heap.size (fun k_ => some k_ ≠ (s_.1 : Value).ownBlock ∧ some k_ ≠ (.slice (some ad165) t162.length co6 : Value).ownBlock ∧ k_ ≠ gb161) (.slice A165_1 ((rd_T24 t162 x12_1).f1).length c165_1) ((rd_T24 t162 x12_1).f1)) ∧ (Kd.R k56 56 w' w.heap.size (fun k_ => some k_ ≠ (.slice A165_1 ((rd_T24 t162 x12_1).f1).length c165_1 : Value).ownBlock) s_.1 t169) ∧ (Kd.S k24 24 w' w.heap.size (fun k_ => some k_ ≠ (s_.1 : Value).ownBlock ∧ k_ ≠ gb161 ∧ k_ ≠ gb166 ∧ k_ ≠ s_.2.1 ∧ k_ ≠ s_.2.2) (.slice (some ad165) t162.length co6) t162) ∧ (Kd.S k32 32 w' w.heap.size (fun k_ => some k_ ≠ (s_.1 : Value).ownBlock) u3 x3_1) ∧ (w'.heap[gb161]? = some (.cells #[.string a0_0, .slice A0_1 l0_1.length c0_1] 24 (0, 0))) ∧ (w'.heap[gb166]? = some (.cells #[.string ((rd_T24 t162 x12_1).f0), .slice A165_1 ((rd_T24 t162 x12_1).f1).length c165_1] 24 (0, 0))) ∧ (w'.heap[s_.2.1]? = some (.cells #[.string (⟨#[]⟩ : ByteArray), .slice none 0 0] 24 (0, 0))) ∧ (w'.heap[s_.2.2]? = some (.cells #[.string (⟨#[]⟩ : ByteArray), .slice none 0 0] 24 (0, 0))) ∧ (w.heap.size ≤ s_.2.1) ∧ (w.heap.size ≤ s_.2.1) ∧ (gb161 ≠ s_.2.1) ∧ (s_.2.1 ≠ gb161) ∧ (gb166 ≠ s_.2.1) ∧ (s_.2.1 ≠ gb166) ∧ (s_.2.2 ≠ s_.2.1) ∧ (s_.2.1 ≠ s_.2.2) ∧ (w.heap.size ≤ s_.2.2) ∧ (w.heap.size ≤ s_.2.2) ∧ (gb161 ≠ s_.2.2) ∧ (s_.2.2 ≠ gb161) ∧ (gb166 ≠ s_.2.2) ∧ (s_.2.2 ≠ gb166) ∧ (Below w.heap.size w w')) ?_ ?_
        ·
         ·
          skip
          rintro ⟨v170, gb176, gb177⟩ w30 ⟨hS_, h0_, h1_, h2_, h3_, h4_, h5_, h6_, h7_, h8_, h9_, h10_, h11_, h12_, h13_, h14_, h15_, h16_, h17_, h18_, h19_, h20_, h21_, h22_⟩
          dsimp only at hS_ h0_ h1_ h2_ h3_ h4_ h5_ h6_ h7_ h8_ h9_ h10_ h11_ h12_ h13_ h14_ h15_ h16_ h17_ h18_ h19_ h20_ h21_ h22_
          have n0_ := Aside0.mk h0_
          have n1_ := Aside0.mk h1_
          have n2_ := Aside0.mk h2_
          have n3_ := Aside0.mk h3_
          have n4_ := Aside0.mk h4_
          have n5_ := Aside0.mk h5_
          have n6_ := Aside0.mk h6_
          have n7_ := Aside0.mk h7_
          have n8_ := Aside0.mk h8_
          have n9_ := Aside0.mk h9_
          have n10_ := Aside0.mk h10_
          have n11_ := Aside0.mk h11_
          have n12_ := Aside0.mk h12_
          have n13_ := Aside0.mk h13_
          have n14_ := Aside0.mk h14_
          have n15_ := Aside0.mk h15_
          have n16_ := Aside0.mk h16_
          have n17_ := Aside0.mk h17_
          have n18_ := Aside0.mk h18_
          have n19_ := Aside0.mk h19_
          have n20_ := Aside0.mk h20_
          have n21_ := Aside0.mk h21_
          have n22_ := Aside0.mk h22_
          clear HO_3
          clear HO_10
          clear HL165_1
          clear BK161
          clear BK166
          clear HR165_1
          clear HB
          clear h0_ h1_ h2_ h3_ h4_ h5_ h6_ h7_ h8_ h9_ h10_ h11_ h12_ h13_ h14_ h15_ h16_ h17_ h18_ h19_ h20_ h21_ h22_
          have HL165_1 := n0_
          have HO171 := n1_
          have HO_10 := n2_
          have HO_3 := n3_
          have BK161 := n4_
          have BK166 := n5_
          have BK176 := n6_
          have BK177 := n7_
          have GW176 := n8_
          have GE176 := n9_
          have NB161_176 := n10_
          have NB176_161 := n11_
          have NB166_176 := n12_
          have NB176_166 := n13_
          have NB177_176 := n14_
          have NB176_177 := n15_
          have GW177 := n16_
          have GE177 := n17_
          have NB161_177 := n18_
          have NB177_161 := n19_
          have NB166_177 := n20_
          have NB177_166 := n21_
          have HB := n22_
          clear n0_ n1_ n2_ n3_ n4_ n5_ n6_ n7_ n8_ n9_ n10_ n11_ n12_ n13_ n14_ n15_ n16_ n17_ n18_ n19_ n20_ n21_ n22_
          have hHeld := hS_
          refine norm_ (a' := ?_) ?_ ?_
          rotate_left
          ·
           simp only [putAll, Act.put, List.setIfInBounds_toArray, List.set_cons_zero, List.set_cons_succ]
           rfl
          refine one_ (i := 9) (N := some 29) #[true, true, true, true, true, true, true, true, true, true, true, true, false, false] rfl rfl (one_of HT_.out (by kernel_rfl)) (by decide) (fun K hK => ?_)
          refine goes_ Tryd.func37 (by kernel_rfl) rfl #[.agg #[.string ((rd_T24 t162 x12_1).f0), .slice A165_1 ((rd_T24 t162 x12_1).f1).length c165_1], .int .i64 (wrap64 (t167 + 1)), .int .i64 (((rd_T24 t162 x12_1).f0).size : Int)] (by rfl) rfl rfl (by (try simp only [List.map_toArray, List.map_cons, List.map_nil]); first | done | rfl | (simp only [List.length_drop, List.length_take]; rfl)) ?_
          with_reducible refine (mark_Cut.calls k1 ((rd_T24 t162 x12_1).f0) _ _ ((rd_T24 t162 x12_1).f1) (wrap64 (t167 + 1)) (((rd_T24 t162 x12_1).f0).size : Int) t172 t173 _ ?side1 ?side2 A17.out).mono ?_
          (case side1 => repeat (first | exact ((Kd.R_reads' (Kd.R_go HL165_1.out)).2.2) | (with_reducible refine Kd.C_alloc ?_ _) | (with_reducible refine Kd.C_drewN ?_ _) | (with_reducible refine Kd.C_drew ?_)))
          (case side2 => exact HC165_1.out)
          rintro e w31 ⟨v174, rfl, ho0, hb⟩
          refine ⟨_, rfl, ?_⟩
          have n0_ := Aside0.mk (Kd.S_elder' (by (with_reducible repeat (first | apply Kd.S_alloc | apply Kd.S_drewN | apply Kd.S_drew)); exact HO_3.out) (Kd.R_base ho0) hb)
          have n1_ := Aside0.mk (Kd.S_elder' (by (with_reducible repeat (first | apply Kd.S_alloc | apply Kd.S_drewN | apply Kd.S_drew)); exact HO_10.out) (Kd.R_base ho0) hb)
          have n2_ := Aside0.mk (Kd.R_elder' (Kd.R_go HL165_1.out) (Kd.R_base ho0) hb)
          have n3_ := Aside0.mk (Kd.R_elder' (Kd.R_go HO171.out) (Kd.R_base ho0) hb)
          have n4_ := Aside0.mk (Kd.R_lower (Kd.R_new' (Kd.R_new' ho0 (Kd.R_lt (Kd.R_go HL165_1.out))) (Kd.R_lt (Kd.R_go HO171.out))) (below_size (by repeat (first | (with_reducible first | exact HB.out | apply below_alloc | apply pw_below_drewN | apply below_drew1 | refine below_set ?_ GE161.out | refine below_set ?_ GE166.out | refine below_set ?_ GE176.out | refine below_set ?_ GE177.out) | exact HB.out))))
          have n5_ := Aside0.mk (blk_below (blk_go BK161.out) hb)
          have n6_ := Aside0.mk (blk_below (blk_go BK166.out) hb)
          have n7_ := Aside0.mk (blk_below (blk_go BK176.out) hb)
          have n8_ := Aside0.mk (blk_below (blk_go BK177.out) hb)
          have n9_ := Aside0.mk (below_step (by repeat (first | (with_reducible first | exact HB.out | apply below_alloc | apply pw_below_drewN | apply below_drew1 | refine below_set ?_ GE161.out | refine below_set ?_ GE166.out | refine below_set ?_ GE176.out | refine below_set ?_ GE177.out) | exact HB.out)) hb)
          clear HO_3
          clear HO_10
          clear HL165_1
          clear HO171
          clear BK161
          clear BK166
          clear BK176
          clear BK177
          clear HB
          have HO_3 := n0_
          have HO_10 := n1_
          have HL165_1 := n2_
          have HO171 := n3_
          have HO175 := n4_
          have BK161 := n5_
          have BK166 := n6_
          have BK176 := n7_
          have BK177 := n8_
          have HB := n9_
          clear n0_ n1_ n2_ n3_ n4_ n5_ n6_ n7_ n8_ n9_
          (try clear hb)
          (try clear hb2)
          (try clear hk)
          (try clear hi)
          (try clear ho0)
          refine hK.out _ _ ⟨(blk_cell BK166.out 0).trans rfl, (blk_cell BK166.out 1).trans rfl⟩ (fun hHeld => ?_)
          clear hK K
          refine norm_ (a' := ?_) ?_ ?_
          rotate_left
          ·
           show Act.put _ (some 29) _ = _
           simp only [Act.put, List.setIfInBounds_toArray, List.set_cons_zero, List.set_cons_succ, i64_w, i32_w]
           rfl
          exact norm_ (by simp only [putAll, Act.put, List.setIfInBounds_toArray, List.set_cons_zero, List.set_cons_succ]; try rfl) (hJ2_9_10_11 (v170, v174, gb176, gb177) _ ⟨hHeld, (Kd.R_go (Kd.R_mono HL165_1.out (fun _ hk => ⟨hk.1.1, ⟨hk.2, ⟨hk.1.2.1, hk.1.2.2⟩⟩⟩))), (Kd.R_go HO171.out), (Kd.R_go (Kd.R_mono HO175.out (fun _ hk => ⟨hk.1.2, hk.2⟩))), (by (with_reducible repeat (first | apply Kd.S_alloc | apply Kd.S_drewN | apply Kd.S_drew)); exact Kd.S_mono HO_10.out (fun _ hk => ⟨hk.1.1, ⟨hk.2, ⟨hk.1.2.1, ⟨hk.1.2.2.1, ⟨hk.1.2.2.2.1, hk.1.2.2.2.2⟩⟩⟩⟩⟩)), (by (with_reducible repeat (first | apply Kd.S_alloc | apply Kd.S_drewN | apply Kd.S_drew)); exact HO_3.out), (blk_go BK161.out), (blk_go BK166.out), (blk_go BK176.out), (blk_go BK177.out), GW176.out, GE176.out, NB161_176.out, NB176_161.out, NB166_176.out, NB176_166.out, NB177_176.out, NB176_177.out, GW177.out, GE177.out, NB161_177.out, NB177_161.out, NB166_177.out, NB177_166.out, (by repeat (first | (with_reducible first | exact HB.out | apply below_alloc | apply pw_below_drewN | apply below_drew1 | refine below_set ?_ GE161.out | refine below_set ?_ GE166.out | refine below_set ?_ GE176.out | refine below_set ?_ GE177.out) | exact HB.out))⟩)
        intro hJ2_10_11
        refine join_ (σ := Value × Value) 4 #[true, true, true, true, true, true, true, true, true, true, false, false, false, false] (fun s_ => [(22, .agg #[.string t168, s_.1]), (29, .agg #[.string t172, s_.2])]) (fun s_ w' => (w'.cell? ⟨gb166, 0, none⟩ = some (.string ((rd_T24 t162 x12_1).f0)) ∧ w'.cell? ⟨gb166, 1, none⟩ = some (.slice A165_1 ((rd_T24 t162 x12_1).f1).length c165_1)) ∧ (Kd.R k56 56 w' w.heap.size (fun k_ => some k_ ≠ (s_.1 : Value).ownBlock ∧ some k_ ≠ (s_.2 : Value).ownBlock ∧ some k_ ≠ (.slice (some ad165) t162.length co6 : Value).ownBlock ∧ k_ ≠ gb161) (.slice A165_1 ((rd_T24 t162 x12_1).f1).length c165_1) ((rd_T24 t162 x12_1).f1)) ∧ (Kd.R k56 56 w' w.heap.size (fun k_ => some k_ ≠ (.slice A165_1 ((rd_T24 t162 x12_1).f1).length c165_1 : Value).ownBlock ∧ some k_ ≠ (s_.2 : Value).ownBlock) s_.1 t169) ∧ (Kd.R k56 56 w' w.heap.size (fun k_ => some k_ ≠ (.slice A165_1 ((rd_T24 t162 x12_1).f1).length c165_1 : Value).ownBlock ∧ some k_ ≠ (s_.1 : Value).ownBlock) s_.2 t173) ∧ (Kd.S k24 24 w' w.heap.size (fun k_ => some k_ ≠ (s_.1 : Value).ownBlock ∧ some k_ ≠ (s_.2 : Value).ownBlock ∧ k_ ≠ gb161 ∧ k_ ≠ gb166) (.slice (some ad165) t162.length co6) t162) ∧ (Kd.S k32 32 w' w.heap.size (fun k_ => some k_ ≠ (s_.1 : Value).ownBlock ∧ some k_ ≠ (s_.2 : Value).ownBlock) u3 x3_1) ∧ (w'.heap[gb161]? = some (.cells #[.string a0_0, .slice A0_1 l0_1.length c0_1] 24 (0, 0))) ∧ (w'.heap[gb166]? = some (.cells #[.string ((rd_T24 t162 x12_1).f0), .slice A165_1 ((rd_T24 t162 x12_1).f1).length c165_1] 24 (0, 0))) ∧ (Below w.heap.size w w')) ?_ ?_
        ·
         ·
          skip
          rintro ⟨v170, v174⟩ w29 ⟨hS_, h0_, h1_, h2_, h3_, h4_, h5_, h6_, h7_⟩
          dsimp only at hS_ h0_ h1_ h2_ h3_ h4_ h5_ h6_ h7_
          have n0_ := Aside0.mk h0_
          have n1_ := Aside0.mk h1_
          have n2_ := Aside0.mk h2_
          have n3_ := Aside0.mk h3_
          have n4_ := Aside0.mk h4_
          have n5_ := Aside0.mk h5_
          have n6_ := Aside0.mk h6_
          have n7_ := Aside0.mk h7_
          clear HO_3
          clear HO_10
          clear HL165_1
          clear BK161
          clear BK166
          clear HR165_1
          clear HB
          clear h0_ h1_ h2_ h3_ h4_ h5_ h6_ h7_
          have HL165_1 := n0_
          have HO171 := n1_
          have HO175 := n2_
          have HO_10 := n3_
          have HO_3 := n4_
          have BK161 := n5_
          have BK166 := n6_
          have HB := n7_
          clear n0_ n1_ n2_ n3_ n4_ n5_ n6_ n7_
          have hHeld := hS_
          refine norm_ (a' := ?_) ?_ ?_
          rotate_left
          ·
           simp only [putAll, Act.put, List.setIfInBounds_toArray, List.set_cons_zero, List.set_cons_succ]
           rfl
          refine two_ (i := 10) (j := 11) (Ni := some 7) (Nj := some 8) #[true, true, true, true, true, true, true, true, true, true, true, false, false, false] #[true, true, true, true, true, true, true, true, true, true, false, true, false, false] rfl rfl rfl rfl (two_of HT_.out (by kernel_rfl)) (by decide) (by decide) (fun K hK => ?_) (fun K hK => ?_)
          ·
           skip
           refine box_step ?hg (N := 7) ?hd (cs := #[.string (⟨#[]⟩ : ByteArray), .slice none 0 0]) (t := 24) ?hr ?_; (case hd => rfl); (case hg => rfl); (case hr => first | (go_simp; done) | (go_simp; rfl))
           intro gb176 hg w30 hbox hb
           have n0_ := Aside0.mk (Kd.S_below (by (with_reducible repeat (first | apply Kd.S_alloc | apply Kd.S_drewN | apply Kd.S_drew)); exact HO_3.out) hb)
           have n1_ := Aside0.mk (Kd.S_below (Kd.S_elderB (by (with_reducible repeat (first | apply Kd.S_alloc | apply Kd.S_drewN | apply Kd.S_drew)); exact HO_10.out) gb176 (Nat.le_of_eq hg.symm)) hb)
           have n2_ := Aside0.mk (Kd.R_below (Kd.R_go HL165_1.out) hb)
           have n3_ := Aside0.mk (Kd.R_below (Kd.R_go HO171.out) hb)
           have n4_ := Aside0.mk (Kd.R_below (Kd.R_go HO175.out) hb)
           have n5_ := Aside0.mk (blk_below (blk_go BK161.out) hb)
           have n6_ := Aside0.mk (blk_below (blk_go BK166.out) hb)
           have n7_ := Aside0.mk (below_step (by repeat (first | (with_reducible first | exact HB.out | apply below_alloc | apply pw_below_drewN | apply below_drew1 | refine below_set ?_ GE161.out | refine below_set ?_ GE166.out) | exact HB.out)) hb)
           have n8_ := Aside0.mk (hbox)
           have n9_ := Aside0.mk ((by rw [hg]; exact (below_size (by repeat (first | (with_reducible first | exact HB.out | apply below_alloc | apply pw_below_drewN | apply below_drew1 | refine below_set ?_ GE161.out | refine below_set ?_ GE166.out) | exact HB.out))) : w.heap.size ≤ gb176))
           have n10_ := Aside0.mk ((by rw [hg]; exact (below_size (by repeat (first | (with_reducible first | exact HB.out | apply below_alloc | apply pw_below_drewN | apply below_drew1 | refine below_set ?_ GE161.out | refine below_set ?_ GE166.out) | exact HB.out))) : w.heap.size ≤ gb176))
           have n11_ := Aside0.mk ((by rw [hg]; exact Nat.ne_of_lt (blk_lt (g := gb161) (o := .cells #[.string a0_0, .slice A0_1 l0_1.length c0_1] 24 (0, 0)) (blk_go BK161.out)) : gb161 ≠ gb176))
           have n12_ := Aside0.mk (blk_apart hg (blk_go BK161.out) : gb176 ≠ gb161)
           have n13_ := Aside0.mk ((by rw [hg]; exact Nat.ne_of_lt (blk_lt (g := gb166) (o := .cells #[.string ((rd_T24 t162 x12_1).f0), .slice A165_1 ((rd_T24 t162 x12_1).f1).length c165_1] 24 (0, 0)) (blk_go BK166.out)) : gb166 ≠ gb176))
           have n14_ := Aside0.mk (blk_apart hg (blk_go BK166.out) : gb176 ≠ gb166)
           clear HO_3
           clear HO_10
           clear HL165_1
           clear HO171
           clear HO175
           clear BK161
           clear BK166
           clear HB
           have HO_3 := n0_
           have HO_10 := n1_
           have HL165_1 := n2_
           have HO171 := n3_
           have HO175 := n4_
           have BK161 := n5_
           have BK166 := n6_
           have HB := n7_
           have BK176 := n8_
           have GW176 := n9_
           have GE176 := n10_
           have NB161_176 := n11_
           have NB176_161 := n12_
           have NB166_176 := n13_
           have NB176_166 := n14_
           clear n0_ n1_ n2_ n3_ n4_ n5_ n6_ n7_ n8_ n9_ n10_ n11_ n12_ n13_ n14_
           clear hb hbox hg
           refine hK.out _ _ ⟨(blk_cell BK166.out 0).trans rfl, (blk_cell BK166.out 1).trans rfl⟩ (fun hHeld => ?_)
           clear hK K
           refine norm_ (a' := ?_) ?_ ?_
           rotate_left
           ·
            show Act.put _ (some 7) _ = _
            simp only [Act.put, List.setIfInBounds_toArray, List.set_cons_zero, List.set_cons_succ, i64_w, i32_w]
            rfl
           exact norm_ (by simp only [putAll, Act.put, List.setIfInBounds_toArray, List.set_cons_zero, List.set_cons_succ]; try rfl) (hJ2_9_10 (v170, v174, gb176) _ ⟨hHeld, (Kd.R_go HL165_1.out), (Kd.R_go HO171.out), (Kd.R_go HO175.out), (by (with_reducible repeat (first | apply Kd.S_alloc | apply Kd.S_drewN | apply Kd.S_drew)); exact Kd.S_mono HO_10.out (fun _ hk => ⟨hk.1.1, ⟨hk.1.2.1, ⟨hk.1.2.2.1, ⟨hk.1.2.2.2, hk.2⟩⟩⟩⟩)), (by (with_reducible repeat (first | apply Kd.S_alloc | apply Kd.S_drewN | apply Kd.S_drew)); exact HO_3.out), (blk_go BK161.out), (blk_go BK166.out), (blk_go BK176.out), GW176.out, GE176.out, NB161_176.out, NB176_161.out, NB166_176.out, NB176_166.out, (by repeat (first | (with_reducible first | exact HB.out | apply below_alloc | apply pw_below_drewN | apply below_drew1 | refine below_set ?_ GE161.out | refine below_set ?_ GE166.out | refine below_set ?_ GE176.out) | exact HB.out))⟩)
          ·
           skip
           refine box_step ?hg (N := 8) ?hd (cs := #[.string (⟨#[]⟩ : ByteArray), .slice none 0 0]) (t := 24) ?hr ?_; (case hd => rfl); (case hg => rfl); (case hr => first | (go_simp; done) | (go_simp; rfl))
           intro gb177 hg w30 hbox hb
           have n0_ := Aside0.mk (Kd.S_below (by (with_reducible repeat (first | apply Kd.S_alloc | apply Kd.S_drewN | apply Kd.S_drew)); exact HO_3.out) hb)
           have n1_ := Aside0.mk (Kd.S_below (Kd.S_elderB (by (with_reducible repeat (first | apply Kd.S_alloc | apply Kd.S_drewN | apply Kd.S_drew)); exact HO_10.out) gb177 (Nat.le_of_eq hg.symm)) hb)
           have n2_ := Aside0.mk (Kd.R_below (Kd.R_go HL165_1.out) hb)
           have n3_ := Aside0.mk (Kd.R_below (Kd.R_go HO171.out) hb)
           have n4_ := Aside0.mk (Kd.R_below (Kd.R_go HO175.out) hb)
           have n5_ := Aside0.mk (blk_below (blk_go BK161.out) hb)
           have n6_ := Aside0.mk (blk_below (blk_go BK166.out) hb)
           have n7_ := Aside0.mk (below_step (by repeat (first | (with_reducible first | exact HB.out | apply below_alloc | apply pw_below_drewN | apply below_drew1 | refine below_set ?_ GE161.out | refine below_set ?_ GE166.out) | exact HB.out)) hb)
           have n8_ := Aside0.mk (hbox)
           have n9_ := Aside0.mk ((by rw [hg]; exact (below_size (by repeat (first | (with_reducible first | exact HB.out | apply below_alloc | apply pw_below_drewN | apply below_drew1 | refine below_set ?_ GE161.out | refine below_set ?_ GE166.out) | exact HB.out))) : w.heap.size ≤ gb177))
           have n10_ := Aside0.mk ((by rw [hg]; exact (below_size (by repeat (first | (with_reducible first | exact HB.out | apply below_alloc | apply pw_below_drewN | apply below_drew1 | refine below_set ?_ GE161.out | refine below_set ?_ GE166.out) | exact HB.out))) : w.heap.size ≤ gb177))
           have n11_ := Aside0.mk ((by rw [hg]; exact Nat.ne_of_lt (blk_lt (g := gb161) (o := .cells #[.string a0_0, .slice A0_1 l0_1.length c0_1] 24 (0, 0)) (blk_go BK161.out)) : gb161 ≠ gb177))
           have n12_ := Aside0.mk (blk_apart hg (blk_go BK161.out) : gb177 ≠ gb161)
           have n13_ := Aside0.mk ((by rw [hg]; exact Nat.ne_of_lt (blk_lt (g := gb166) (o := .cells #[.string ((rd_T24 t162 x12_1).f0), .slice A165_1 ((rd_T24 t162 x12_1).f1).length c165_1] 24 (0, 0)) (blk_go BK166.out)) : gb166 ≠ gb177))
           have n14_ := Aside0.mk (blk_apart hg (blk_go BK166.out) : gb177 ≠ gb166)
           clear HO_3
           clear HO_10
           clear HL165_1
           clear HO171
           clear HO175
           clear BK161
           clear BK166
           clear HB
           have HO_3 := n0_
           have HO_10 := n1_
           have HL165_1 := n2_
           have HO171 := n3_
           have HO175 := n4_
           have BK161 := n5_
           have BK166 := n6_
           have HB := n7_
           have BK177 := n8_
           have GW177 := n9_
           have GE177 := n10_
           have NB161_177 := n11_
           have NB177_161 := n12_
           have NB166_177 := n13_
           have NB177_166 := n14_
           clear n0_ n1_ n2_ n3_ n4_ n5_ n6_ n7_ n8_ n9_ n10_ n11_ n12_ n13_ n14_
           clear hb hbox hg
           refine hK.out _ _ ⟨(blk_cell BK166.out 0).trans rfl, (blk_cell BK166.out 1).trans rfl⟩ (fun hHeld => ?_)
           clear hK K
           refine norm_ (a' := ?_) ?_ ?_
           rotate_left
           ·
            show Act.put _ (some 8) _ = _
            simp only [Act.put, List.setIfInBounds_toArray, List.set_cons_zero, List.set_cons_succ, i64_w, i32_w]
            rfl
           exact norm_ (by simp only [putAll, Act.put, List.setIfInBounds_toArray, List.set_cons_zero, List.set_cons_succ]; try rfl) (hJ2_9_11 (v170, v174, gb177) _ ⟨hHeld, (Kd.R_go HL165_1.out), (Kd.R_go HO171.out), (Kd.R_go HO175.out), (by (with_reducible repeat (first | apply Kd.S_alloc | apply Kd.S_drewN | apply Kd.S_drew)); exact Kd.S_mono HO_10.out (fun _ hk => ⟨hk.1.1, ⟨hk.1.2.1, ⟨hk.1.2.2.1, ⟨hk.1.2.2.2, hk.2⟩⟩⟩⟩)), (by (with_reducible repeat (first | apply Kd.S_alloc | apply Kd.S_drewN | apply Kd.S_drew)); exact HO_3.out), (blk_go BK161.out), (blk_go BK166.out), (blk_go BK177.out), GW177.out, GE177.out, NB161_177.out, NB177_161.out, NB166_177.out, NB177_166.out, (by repeat (first | (with_reducible first | exact HB.out | apply below_alloc | apply pw_below_drewN | apply below_drew1 | refine below_set ?_ GE161.out | refine below_set ?_ GE166.out | refine below_set ?_ GE177.out) | exact HB.out))⟩)
        intro hJ2_9
        refine join_ (σ := Value × Nat) 4 #[true, true, true, true, true, true, true, true, true, false, true, false, false, false] (fun s_ => [(22, .agg #[.string t168, s_.1]), (7, .pointer (some ⟨s_.2, 0, none⟩))]) (fun s_ w' => (w'.cell? ⟨gb166, 0, none⟩ = some (.string ((rd_T24 t162 x12_1).f0)) ∧ w'.cell? ⟨gb166, 1, none⟩ = some (.slice A165_1 ((rd_T24 t162 x12_1).f1).length c165_1)) ∧ (Kd.R k56 56 w' w.heap.size (fun k_ => some k_ ≠ (s_.1 : Value).ownBlock ∧ some k_ ≠ (.slice (some ad165) t162.length co6 : Value).ownBlock ∧ k_ ≠ gb161) (.slice A165_1 ((rd_T24 t162 x12_1).f1).length c165_1) ((rd_T24 t162 x12_1).f1)) ∧ (Kd.R k56 56 w' w.heap.size (fun k_ => some k_ ≠ (.slice A165_1 ((rd_T24 t162 x12_1).f1).length c165_1 : Value).ownBlock) s_.1 t169) ∧ (Kd.S k24 24 w' w.heap.size (fun k_ => some k_ ≠ (s_.1 : Value).ownBlock ∧ k_ ≠ gb161 ∧ k_ ≠ gb166 ∧ k_ ≠ s_.2) (.slice (some ad165) t162.length co6) t162) ∧ (Kd.S k32 32 w' w.heap.size (fun k_ => some k_ ≠ (s_.1 : Value).ownBlock) u3 x3_1) ∧ (w'.heap[gb161]? = some (.cells #[.string a0_0, .slice A0_1 l0_1.length c0_1] 24 (0, 0))) ∧ (w'.heap[gb166]? = some (.cells #[.string ((rd_T24 t162 x12_1).f0), .slice A165_1 ((rd_T24 t162 x12_1).f1).length c165_1] 24 (0, 0))) ∧ (w'.heap[s_.2]? = some (.cells #[.string (⟨#[]⟩ : ByteArray), .slice none 0 0] 24 (0, 0))) ∧ (w.heap.size ≤ s_.2) ∧ (w.heap.size ≤ s_.2) ∧ (gb161 ≠ s_.2) ∧ (s_.2 ≠ gb161) ∧ (gb166 ≠ s_.2) ∧ (s_.2 ≠ gb166) ∧ (Below w.heap.size w w')) ?_ ?_
        ·
         ·
          skip
          rintro ⟨v170, gb176⟩ w29 ⟨hS_, h0_, h1_, h2_, h3_, h4_, h5_, h6_, h7_, h8_, h9_, h10_, h11_, h12_, h13_⟩
          dsimp only at hS_ h0_ h1_ h2_ h3_ h4_ h5_ h6_ h7_ h8_ h9_ h10_ h11_ h12_ h13_
          have n0_ := Aside0.mk h0_
          have n1_ := Aside0.mk h1_
          have n2_ := Aside0.mk h2_
          have n3_ := Aside0.mk h3_
          have n4_ := Aside0.mk h4_
          have n5_ := Aside0.mk h5_
          have n6_ := Aside0.mk h6_
          have n7_ := Aside0.mk h7_
          have n8_ := Aside0.mk h8_
          have n9_ := Aside0.mk h9_
          have n10_ := Aside0.mk h10_
          have n11_ := Aside0.mk h11_
          have n12_ := Aside0.mk h12_
          have n13_ := Aside0.mk h13_
          clear HO_3
          clear HO_10
          clear HL165_1
          clear BK161
          clear BK166
          clear HR165_1
          clear HB
          clear h0_ h1_ h2_ h3_ h4_ h5_ h6_ h7_ h8_ h9_ h10_ h11_ h12_ h13_
          have HL165_1 := n0_
          have HO171 := n1_
          have HO_10 := n2_
          have HO_3 := n3_
          have BK161 := n4_
          have BK166 := n5_
          have BK176 := n6_
          have GW176 := n7_
          have GE176 := n8_
          have NB161_176 := n9_
          have NB176_161 := n10_
          have NB166_176 := n11_
          have NB176_166 := n12_
          have HB := n13_
          clear n0_ n1_ n2_ n3_ n4_ n5_ n6_ n7_ n8_ n9_ n10_ n11_ n12_ n13_
          have hHeld := hS_
          refine norm_ (a' := ?_) ?_ ?_
          rotate_left
          ·
           simp only [putAll, Act.put, List.setIfInBounds_toArray, List.set_cons_zero, List.set_cons_succ]
           rfl
          refine two_ (i := 9) (j := 11) (Ni := some 29) (Nj := some 8) #[true, true, true, true, true, true, true, true, true, true, true, false, false, false] #[true, true, true, true, true, true, true, true, true, false, true, true, false, false] rfl rfl rfl rfl (two_of HT_.out (by kernel_rfl)) (by decide) (by decide) (fun K hK => ?_) (fun K hK => ?_)
          ·
           skip
           refine goes_ Tryd.func37 (by kernel_rfl) rfl #[.agg #[.string ((rd_T24 t162 x12_1).f0), .slice A165_1 ((rd_T24 t162 x12_1).f1).length c165_1], .int .i64 (wrap64 (t167 + 1)), .int .i64 (((rd_T24 t162 x12_1).f0).size : Int)] (by rfl) rfl rfl (by (try simp only [List.map_toArray, List.map_cons, List.map_nil]); first | done | rfl | (simp only [List.length_drop, List.length_take]; rfl)) ?_
           with_reducible refine (mark_Cut.calls k1 ((rd_T24 t162 x12_1).f0) _ _ ((rd_T24 t162 x12_1).f1) (wrap64 (t167 + 1)) (((rd_T24 t162 x12_1).f0).size : Int) t172 t173 _ ?side1 ?side2 A17.out).mono ?_
           (case side1 => repeat (first | exact ((Kd.R_reads' (Kd.R_go HL165_1.out)).2.2) | (with_reducible refine Kd.C_alloc ?_ _) | (with_reducible refine Kd.C_drewN ?_ _) | (with_reducible refine Kd.C_drew ?_)))
           (case side2 => exact HC165_1.out)
           rintro e w30 ⟨v174, rfl, ho0, hb⟩
           refine ⟨_, rfl, ?_⟩
           have n0_ := Aside0.mk (Kd.S_elder' (by (with_reducible repeat (first | apply Kd.S_alloc | apply Kd.S_drewN | apply Kd.S_drew)); exact HO_3.out) (Kd.R_base ho0) hb)
           have n1_ := Aside0.mk (Kd.S_elder' (by (with_reducible repeat (first | apply Kd.S_alloc | apply Kd.S_drewN | apply Kd.S_drew)); exact HO_10.out) (Kd.R_base ho0) hb)
           have n2_ := Aside0.mk (Kd.R_elder' (Kd.R_go HL165_1.out) (Kd.R_base ho0) hb)
           have n3_ := Aside0.mk (Kd.R_elder' (Kd.R_go HO171.out) (Kd.R_base ho0) hb)
           have n4_ := Aside0.mk (Kd.R_lower (Kd.R_new' (Kd.R_new' ho0 (Kd.R_lt (Kd.R_go HL165_1.out))) (Kd.R_lt (Kd.R_go HO171.out))) (below_size (by repeat (first | (with_reducible first | exact HB.out | apply below_alloc | apply pw_below_drewN | apply below_drew1 | refine below_set ?_ GE161.out | refine below_set ?_ GE166.out | refine below_set ?_ GE176.out) | exact HB.out))))
           have n5_ := Aside0.mk (blk_below (blk_go BK161.out) hb)
           have n6_ := Aside0.mk (blk_below (blk_go BK166.out) hb)
           have n7_ := Aside0.mk (blk_below (blk_go BK176.out) hb)
           have n8_ := Aside0.mk (below_step (by repeat (first | (with_reducible first | exact HB.out | apply below_alloc | apply pw_below_drewN | apply below_drew1 | refine below_set ?_ GE161.out | refine below_set ?_ GE166.out | refine below_set ?_ GE176.out) | exact HB.out)) hb)
           clear HO_3
           clear HO_10
           clear HL165_1
           clear HO171
           clear BK161
           clear BK166
           clear BK176
           clear HB
           have HO_3 := n0_
           have HO_10 := n1_
           have HL165_1 := n2_
           have HO171 := n3_
           have HO175 := n4_
           have BK161 := n5_
           have BK166 := n6_
           have BK176 := n7_
           have HB := n8_
           clear n0_ n1_ n2_ n3_ n4_ n5_ n6_ n7_ n8_
           (try clear hb)
           (try clear hb2)
           (try clear hk)
           (try clear hi)
           (try clear ho0)
           refine hK.out _ _ ⟨(blk_cell BK166.out 0).trans rfl, (blk_cell BK166.out 1).trans rfl⟩ (fun hHeld => ?_)
           clear hK K
           refine norm_ (a' := ?_) ?_ ?_
           rotate_left
           ·
            show Act.put _ (some 29) _ = _
            simp only [Act.put, List.setIfInBounds_toArray, List.set_cons_zero, List.set_cons_succ, i64_w, i32_w]
            rfl
           exact norm_ (by simp only [putAll, Act.put, List.setIfInBounds_toArray, List.set_cons_zero, List.set_cons_succ]; try rfl) (hJ2_9_10 (v170, v174, gb176) _ ⟨hHeld, (Kd.R_go (Kd.R_mono HL165_1.out (fun _ hk => ⟨hk.1.1, ⟨hk.2, ⟨hk.1.2.1, hk.1.2.2⟩⟩⟩))), (Kd.R_go HO171.out), (Kd.R_go (Kd.R_mono HO175.out (fun _ hk => ⟨hk.1.2, hk.2⟩))), (by (with_reducible repeat (first | apply Kd.S_alloc | apply Kd.S_drewN | apply Kd.S_drew)); exact Kd.S_mono HO_10.out (fun _ hk => ⟨hk.1.1, ⟨hk.2, ⟨hk.1.2.1, ⟨hk.1.2.2.1, hk.1.2.2.2⟩⟩⟩⟩)), (by (with_reducible repeat (first | apply Kd.S_alloc | apply Kd.S_drewN | apply Kd.S_drew)); exact HO_3.out), (blk_go BK161.out), (blk_go BK166.out), (blk_go BK176.out), GW176.out, GE176.out, NB161_176.out, NB176_161.out, NB166_176.out, NB176_166.out, (by repeat (first | (with_reducible first | exact HB.out | apply below_alloc | apply pw_below_drewN | apply below_drew1 | refine below_set ?_ GE161.out | refine below_set ?_ GE166.out | refine below_set ?_ GE176.out) | exact HB.out))⟩)
          ·
           skip
           refine box_step ?hg (N := 8) ?hd (cs := #[.string (⟨#[]⟩ : ByteArray), .slice none 0 0]) (t := 24) ?hr ?_; (case hd => rfl); (case hg => rfl); (case hr => first | (go_simp; done) | (go_simp; rfl))
           intro gb177 hg w30 hbox hb
           have n0_ := Aside0.mk (Kd.S_below (by (with_reducible repeat (first | apply Kd.S_alloc | apply Kd.S_drewN | apply Kd.S_drew)); exact HO_3.out) hb)
           have n1_ := Aside0.mk (Kd.S_below (Kd.S_elderB (by (with_reducible repeat (first | apply Kd.S_alloc | apply Kd.S_drewN | apply Kd.S_drew)); exact HO_10.out) gb177 (Nat.le_of_eq hg.symm)) hb)
           have n2_ := Aside0.mk (Kd.R_below (Kd.R_go HL165_1.out) hb)
           have n3_ := Aside0.mk (Kd.R_below (Kd.R_go HO171.out) hb)
           have n4_ := Aside0.mk (blk_below (blk_go BK161.out) hb)
           have n5_ := Aside0.mk (blk_below (blk_go BK166.out) hb)
           have n6_ := Aside0.mk (blk_below (blk_go BK176.out) hb)
           have n7_ := Aside0.mk (below_step (by repeat (first | (with_reducible first | exact HB.out | apply below_alloc | apply pw_below_drewN | apply below_drew1 | refine below_set ?_ GE161.out | refine below_set ?_ GE166.out | refine below_set ?_ GE176.out) | exact HB.out)) hb)
           have n8_ := Aside0.mk (hbox)
           have n9_ := Aside0.mk ((by rw [hg]; exact (below_size (by repeat (first | (with_reducible first | exact HB.out | apply below_alloc | apply pw_below_drewN | apply below_drew1 | refine below_set ?_ GE161.out | refine below_set ?_ GE166.out | refine below_set ?_ GE176.out) | exact HB.out))) : w.heap.size ≤ gb177))
           have n10_ := Aside0.mk ((by rw [hg]; exact (below_size (by repeat (first | (with_reducible first | exact HB.out | apply below_alloc | apply pw_below_drewN | apply below_drew1 | refine below_set ?_ GE161.out | refine below_set ?_ GE166.out | refine below_set ?_ GE176.out) | exact HB.out))) : w.heap.size ≤ gb177))
           have n11_ := Aside0.mk ((by rw [hg]; exact Nat.ne_of_lt (blk_lt (g := gb161) (o := .cells #[.string a0_0, .slice A0_1 l0_1.length c0_1] 24 (0, 0)) (blk_go BK161.out)) : gb161 ≠ gb177))
           have n12_ := Aside0.mk (blk_apart hg (blk_go BK161.out) : gb177 ≠ gb161)
           have n13_ := Aside0.mk ((by rw [hg]; exact Nat.ne_of_lt (blk_lt (g := gb166) (o := .cells #[.string ((rd_T24 t162 x12_1).f0), .slice A165_1 ((rd_T24 t162 x12_1).f1).length c165_1] 24 (0, 0)) (blk_go BK166.out)) : gb166 ≠ gb177))
           have n14_ := Aside0.mk (blk_apart hg (blk_go BK166.out) : gb177 ≠ gb166)
           have n15_ := Aside0.mk ((by rw [hg]; exact Nat.ne_of_lt (blk_lt (g := gb176) (o := .cells #[.string (⟨#[]⟩ : ByteArray), .slice none 0 0] 24 (0, 0)) (blk_go BK176.out)) : gb176 ≠ gb177))
           have n16_ := Aside0.mk (blk_apart hg (blk_go BK176.out) : gb177 ≠ gb176)
           clear HO_3
           clear HO_10
           clear HL165_1
           clear HO171
           clear BK161
           clear BK166
           clear BK176
           clear HB
           have HO_3 := n0_
           have HO_10 := n1_
           have HL165_1 := n2_
           have HO171 := n3_
           have BK161 := n4_
           have BK166 := n5_
           have BK176 := n6_
           have HB := n7_
           have BK177 := n8_
           have GW177 := n9_
           have GE177 := n10_
           have NB161_177 := n11_
           have NB177_161 := n12_
           have NB166_177 := n13_
           have NB177_166 := n14_
           have NB176_177 := n15_
           have NB177_176 := n16_
           clear n0_ n1_ n2_ n3_ n4_ n5_ n6_ n7_ n8_ n9_ n10_ n11_ n12_ n13_ n14_ n15_ n16_
           clear hb hbox hg
           refine hK.out _ _ ⟨(blk_cell BK166.out 0).trans rfl, (blk_cell BK166.out 1).trans rfl⟩ (fun hHeld => ?_)
           clear hK K
           refine norm_ (a' := ?_) ?_ ?_
           rotate_left
           ·
            show Act.put _ (some 8) _ = _
            simp only [Act.put, List.setIfInBounds_toArray, List.set_cons_zero, List.set_cons_succ, i64_w, i32_w]
            rfl
           exact norm_ (by simp only [putAll, Act.put, List.setIfInBounds_toArray, List.set_cons_zero, List.set_cons_succ]; try rfl) (hJ2_10_11 (v170, gb176, gb177) _ ⟨hHeld, (Kd.R_go HL165_1.out), (Kd.R_go HO171.out), (by (with_reducible repeat (first | apply Kd.S_alloc | apply Kd.S_drewN | apply Kd.S_drew)); exact Kd.S_mono HO_10.out (fun _ hk => ⟨hk.1.1, ⟨hk.1.2.1, ⟨hk.1.2.2.1, ⟨hk.1.2.2.2, hk.2⟩⟩⟩⟩)), (by (with_reducible repeat (first | apply Kd.S_alloc | apply Kd.S_drewN | apply Kd.S_drew)); exact HO_3.out), (blk_go BK161.out), (blk_go BK166.out), (blk_go BK176.out), (blk_go BK177.out), GW176.out, GE176.out, NB161_176.out, NB176_161.out, NB166_176.out, NB176_166.out, NB177_176.out, NB176_177.out, GW177.out, GE177.out, NB161_177.out, NB177_161.out, NB166_177.out, NB177_166.out, (by repeat (first | (with_reducible first | exact HB.out | apply below_alloc | apply pw_below_drewN | apply below_drew1 | refine below_set ?_ GE161.out | refine below_set ?_ GE166.out | refine below_set ?_ GE176.out | refine below_set ?_ GE177.out) | exact HB.out))⟩)
        intro hJ2_10
        refine join_ (σ := Value × Nat) 4 #[true, true, true, true, true, true, true, true, true, false, false, true, false, false] (fun s_ => [(22, .agg #[.string t168, s_.1]), (8, .pointer (some ⟨s_.2, 0, none⟩))]) (fun s_ w' => (w'.cell? ⟨gb166, 0, none⟩ = some (.string ((rd_T24 t162 x12_1).f0)) ∧ w'.cell? ⟨gb166, 1, none⟩ = some (.slice A165_1 ((rd_T24 t162 x12_1).f1).length c165_1)) ∧ (Kd.R k56 56 w' w.heap.size (fun k_ => some k_ ≠ (s_.1 : Value).ownBlock ∧ some k_ ≠ (.slice (some ad165) t162.length co6 : Value).ownBlock ∧ k_ ≠ gb161) (.slice A165_1 ((rd_T24 t162 x12_1).f1).length c165_1) ((rd_T24 t162 x12_1).f1)) ∧ (Kd.R k56 56 w' w.heap.size (fun k_ => some k_ ≠ (.slice A165_1 ((rd_T24 t162 x12_1).f1).length c165_1 : Value).ownBlock) s_.1 t169) ∧ (Kd.S k24 24 w' w.heap.size (fun k_ => some k_ ≠ (s_.1 : Value).ownBlock ∧ k_ ≠ gb161 ∧ k_ ≠ gb166 ∧ k_ ≠ s_.2) (.slice (some ad165) t162.length co6) t162) ∧ (Kd.S k32 32 w' w.heap.size (fun k_ => some k_ ≠ (s_.1 : Value).ownBlock) u3 x3_1) ∧ (w'.heap[gb161]? = some (.cells #[.string a0_0, .slice A0_1 l0_1.length c0_1] 24 (0, 0))) ∧ (w'.heap[gb166]? = some (.cells #[.string ((rd_T24 t162 x12_1).f0), .slice A165_1 ((rd_T24 t162 x12_1).f1).length c165_1] 24 (0, 0))) ∧ (w'.heap[s_.2]? = some (.cells #[.string (⟨#[]⟩ : ByteArray), .slice none 0 0] 24 (0, 0))) ∧ (w.heap.size ≤ s_.2) ∧ (w.heap.size ≤ s_.2) ∧ (gb161 ≠ s_.2) ∧ (s_.2 ≠ gb161) ∧ (gb166 ≠ s_.2) ∧ (s_.2 ≠ gb166) ∧ (Below w.heap.size w w')) ?_ ?_
        ·
         ·
          skip
          rintro ⟨v170, gb177⟩ w29 ⟨hS_, h0_, h1_, h2_, h3_, h4_, h5_, h6_, h7_, h8_, h9_, h10_, h11_, h12_, h13_⟩
          dsimp only at hS_ h0_ h1_ h2_ h3_ h4_ h5_ h6_ h7_ h8_ h9_ h10_ h11_ h12_ h13_
          have n0_ := Aside0.mk h0_
          have n1_ := Aside0.mk h1_
          have n2_ := Aside0.mk h2_
          have n3_ := Aside0.mk h3_
          have n4_ := Aside0.mk h4_
          have n5_ := Aside0.mk h5_
          have n6_ := Aside0.mk h6_
          have n7_ := Aside0.mk h7_
          have n8_ := Aside0.mk h8_
          have n9_ := Aside0.mk h9_
          have n10_ := Aside0.mk h10_
          have n11_ := Aside0.mk h11_
          have n12_ := Aside0.mk h12_
          have n13_ := Aside0.mk h13_
          clear HO_3
          clear HO_10
          clear HL165_1
          clear BK161
          clear BK166
          clear HR165_1
          clear HB
          clear h0_ h1_ h2_ h3_ h4_ h5_ h6_ h7_ h8_ h9_ h10_ h11_ h12_ h13_
          have HL165_1 := n0_
          have HO171 := n1_
          have HO_10 := n2_
          have HO_3 := n3_
          have BK161 := n4_
          have BK166 := n5_
          have BK177 := n6_
          have GW177 := n7_
          have GE177 := n8_
          have NB161_177 := n9_
          have NB177_161 := n10_
          have NB166_177 := n11_
          have NB177_166 := n12_
          have HB := n13_
          clear n0_ n1_ n2_ n3_ n4_ n5_ n6_ n7_ n8_ n9_ n10_ n11_ n12_ n13_
          have hHeld := hS_
          refine norm_ (a' := ?_) ?_ ?_
          rotate_left
          ·
           simp only [putAll, Act.put, List.setIfInBounds_toArray, List.set_cons_zero, List.set_cons_succ]
           rfl
          refine two_ (i := 9) (j := 10) (Ni := some 29) (Nj := some 7) #[true, true, true, true, true, true, true, true, true, true, false, true, false, false] #[true, true, true, true, true, true, true, true, true, false, true, true, false, false] rfl rfl rfl rfl (two_of HT_.out (by kernel_rfl)) (by decide) (by decide) (fun K hK => ?_) (fun K hK => ?_)
          ·
           skip
           refine goes_ Tryd.func37 (by kernel_rfl) rfl #[.agg #[.string ((rd_T24 t162 x12_1).f0), .slice A165_1 ((rd_T24 t162 x12_1).f1).length c165_1], .int .i64 (wrap64 (t167 + 1)), .int .i64 (((rd_T24 t162 x12_1).f0).size : Int)] (by rfl) rfl rfl (by (try simp only [List.map_toArray, List.map_cons, List.map_nil]); first | done | rfl | (simp only [List.length_drop, List.length_take]; rfl)) ?_
           with_reducible refine (mark_Cut.calls k1 ((rd_T24 t162 x12_1).f0) _ _ ((rd_T24 t162 x12_1).f1) (wrap64 (t167 + 1)) (((rd_T24 t162 x12_1).f0).size : Int) t172 t173 _ ?side1 ?side2 A17.out).mono ?_
           (case side1 => repeat (first | exact ((Kd.R_reads' (Kd.R_go HL165_1.out)).2.2) | (with_reducible refine Kd.C_alloc ?_ _) | (with_reducible refine Kd.C_drewN ?_ _) | (with_reducible refine Kd.C_drew ?_)))
           (case side2 => exact HC165_1.out)
           rintro e w30 ⟨v174, rfl, ho0, hb⟩
           refine ⟨_, rfl, ?_⟩
           have n0_ := Aside0.mk (Kd.S_elder' (by (with_reducible repeat (first | apply Kd.S_alloc | apply Kd.S_drewN | apply Kd.S_drew)); exact HO_3.out) (Kd.R_base ho0) hb)
           have n1_ := Aside0.mk (Kd.S_elder' (by (with_reducible repeat (first | apply Kd.S_alloc | apply Kd.S_drewN | apply Kd.S_drew)); exact HO_10.out) (Kd.R_base ho0) hb)
           have n2_ := Aside0.mk (Kd.R_elder' (Kd.R_go HL165_1.out) (Kd.R_base ho0) hb)
           have n3_ := Aside0.mk (Kd.R_elder' (Kd.R_go HO171.out) (Kd.R_base ho0) hb)
           have n4_ := Aside0.mk (Kd.R_lower (Kd.R_new' (Kd.R_new' ho0 (Kd.R_lt (Kd.R_go HL165_1.out))) (Kd.R_lt (Kd.R_go HO171.out))) (below_size (by repeat (first | (with_reducible first | exact HB.out | apply below_alloc | apply pw_below_drewN | apply below_drew1 | refine below_set ?_ GE161.out | refine below_set ?_ GE166.out | refine below_set ?_ GE177.out) | exact HB.out))))
           have n5_ := Aside0.mk (blk_below (blk_go BK161.out) hb)
           have n6_ := Aside0.mk (blk_below (blk_go BK166.out) hb)
           have n7_ := Aside0.mk (blk_below (blk_go BK177.out) hb)
           have n8_ := Aside0.mk (below_step (by repeat (first | (with_reducible first | exact HB.out | apply below_alloc | apply pw_below_drewN | apply below_drew1 | refine below_set ?_ GE161.out | refine below_set ?_ GE166.out | refine below_set ?_ GE177.out) | exact HB.out)) hb)
           clear HO_3
           clear HO_10
           clear HL165_1
           clear HO171
           clear BK161
           clear BK166
           clear BK177
           clear HB
           have HO_3 := n0_
           have HO_10 := n1_
           have HL165_1 := n2_
           have HO171 := n3_
           have HO175 := n4_
           have BK161 := n5_
           have BK166 := n6_
           have BK177 := n7_
           have HB := n8_
           clear n0_ n1_ n2_ n3_ n4_ n5_ n6_ n7_ n8_
           (try clear hb)
           (try clear hb2)
           (try clear hk)
           (try clear hi)
           (try clear ho0)
           refine hK.out _ _ ⟨(blk_cell BK166.out 0).trans rfl, (blk_cell BK166.out 1).trans rfl⟩ (fun hHeld => ?_)
           clear hK K
           refine norm_ (a' := ?_) ?_ ?_
           rotate_left
           ·
            show Act.put _ (some 29) _ = _
            simp only [Act.put, List.setIfInBounds_toArray, List.set_cons_zero, List.set_cons_succ, i64_w, i32_w]
            rfl
           exact norm_ (by simp only [putAll, Act.put, List.setIfInBounds_toArray, List.set_cons_zero, List.set_cons_succ]; try rfl) (hJ2_9_11 (v170, v174, gb177) _ ⟨hHeld, (Kd.R_go (Kd.R_mono HL165_1.out (fun _ hk => ⟨hk.1.1, ⟨hk.2, ⟨hk.1.2.1, hk.1.2.2⟩⟩⟩))), (Kd.R_go HO171.out), (Kd.R_go (Kd.R_mono HO175.out (fun _ hk => ⟨hk.1.2, hk.2⟩))), (by (with_reducible repeat (first | apply Kd.S_alloc | apply Kd.S_drewN | apply Kd.S_drew)); exact Kd.S_mono HO_10.out (fun _ hk => ⟨hk.1.1, ⟨hk.2, ⟨hk.1.2.1, ⟨hk.1.2.2.1, hk.1.2.2.2⟩⟩⟩⟩)), (by (with_reducible repeat (first | apply Kd.S_alloc | apply Kd.S_drewN | apply Kd.S_drew)); exact HO_3.out), (blk_go BK161.out), (blk_go BK166.out), (blk_go BK177.out), GW177.out, GE177.out, NB161_177.out, NB177_161.out, NB166_177.out, NB177_166.out, (by repeat (first | (with_reducible first | exact HB.out | apply below_alloc | apply pw_below_drewN | apply below_drew1 | refine below_set ?_ GE161.out | refine below_set ?_ GE166.out | refine below_set ?_ GE177.out) | exact HB.out))⟩)
          ·
           skip
           refine box_step ?hg (N := 7) ?hd (cs := #[.string (⟨#[]⟩ : ByteArray), .slice none 0 0]) (t := 24) ?hr ?_; (case hd => rfl); (case hg => rfl); (case hr => first | (go_simp; done) | (go_simp; rfl))
           intro gb176 hg w30 hbox hb
           have n0_ := Aside0.mk (Kd.S_below (by (with_reducible repeat (first | apply Kd.S_alloc | apply Kd.S_drewN | apply Kd.S_drew)); exact HO_3.out) hb)
           have n1_ := Aside0.mk (Kd.S_below (Kd.S_elderB (by (with_reducible repeat (first | apply Kd.S_alloc | apply Kd.S_drewN | apply Kd.S_drew)); exact HO_10.out) gb176 (Nat.le_of_eq hg.symm)) hb)
           have n2_ := Aside0.mk (Kd.R_below (Kd.R_go HL165_1.out) hb)
           have n3_ := Aside0.mk (Kd.R_below (Kd.R_go HO171.out) hb)
           have n4_ := Aside0.mk (blk_below (blk_go BK161.out) hb)
           have n5_ := Aside0.mk (blk_below (blk_go BK166.out) hb)
           have n6_ := Aside0.mk (blk_below (blk_go BK177.out) hb)
           have n7_ := Aside0.mk (below_step (by repeat (first | (with_reducible first | exact HB.out | apply below_alloc | apply pw_below_drewN | apply below_drew1 | refine below_set ?_ GE161.out | refine below_set ?_ GE166.out | refine below_set ?_ GE177.out) | exact HB.out)) hb)
           have n8_ := Aside0.mk (hbox)
           have n9_ := Aside0.mk ((by rw [hg]; exact (below_size (by repeat (first | (with_reducible first | exact HB.out | apply below_alloc | apply pw_below_drewN | apply below_drew1 | refine below_set ?_ GE161.out | refine below_set ?_ GE166.out | refine below_set ?_ GE177.out) | exact HB.out))) : w.heap.size ≤ gb176))
           have n10_ := Aside0.mk ((by rw [hg]; exact (below_size (by repeat (first | (with_reducible first | exact HB.out | apply below_alloc | apply pw_below_drewN | apply below_drew1 | refine below_set ?_ GE161.out | refine below_set ?_ GE166.out | refine below_set ?_ GE177.out) | exact HB.out))) : w.heap.size ≤ gb176))
           have n11_ := Aside0.mk ((by rw [hg]; exact Nat.ne_of_lt (blk_lt (g := gb161) (o := .cells #[.string a0_0, .slice A0_1 l0_1.length c0_1] 24 (0, 0)) (blk_go BK161.out)) : gb161 ≠ gb176))
           have n12_ := Aside0.mk (blk_apart hg (blk_go BK161.out) : gb176 ≠ gb161)
           have n13_ := Aside0.mk ((by rw [hg]; exact Nat.ne_of_lt (blk_lt (g := gb166) (o := .cells #[.string ((rd_T24 t162 x12_1).f0), .slice A165_1 ((rd_T24 t162 x12_1).f1).length c165_1] 24 (0, 0)) (blk_go BK166.out)) : gb166 ≠ gb176))
           have n14_ := Aside0.mk (blk_apart hg (blk_go BK166.out) : gb176 ≠ gb166)
           have n15_ := Aside0.mk ((by rw [hg]; exact Nat.ne_of_lt (blk_lt (g := gb177) (o := .cells #[.string (⟨#[]⟩ : ByteArray), .slice none 0 0] 24 (0, 0)) (blk_go BK177.out)) : gb177 ≠ gb176))
           have n16_ := Aside0.mk (blk_apart hg (blk_go BK177.out) : gb176 ≠ gb177)
           clear HO_3
           clear HO_10
           clear HL165_1
           clear HO171
           clear BK161
           clear BK166
           clear BK177
           clear HB
           have HO_3 := n0_
           have HO_10 := n1_
           have HL165_1 := n2_
           have HO171 := n3_
           have BK161 := n4_
           have BK166 := n5_
           have BK177 := n6_
           have HB := n7_
           have BK176 := n8_
           have GW176 := n9_
           have GE176 := n10_
           have NB161_176 := n11_
           have NB176_161 := n12_
           have NB166_176 := n13_
           have NB176_166 := n14_
           have NB177_176 := n15_
           have NB176_177 := n16_
           clear n0_ n1_ n2_ n3_ n4_ n5_ n6_ n7_ n8_ n9_ n10_ n11_ n12_ n13_ n14_ n15_ n16_
           clear hb hbox hg
           refine hK.out _ _ ⟨(blk_cell BK166.out 0).trans rfl, (blk_cell BK166.out 1).trans rfl⟩ (fun hHeld => ?_)
           clear hK K
           refine norm_ (a' := ?_) ?_ ?_
           rotate_left
           ·
            show Act.put _ (some 7) _ = _
            simp only [Act.put, List.setIfInBounds_toArray, List.set_cons_zero, List.set_cons_succ, i64_w, i32_w]
            rfl
           exact norm_ (by simp only [putAll, Act.put, List.setIfInBounds_toArray, List.set_cons_zero, List.set_cons_succ]; try rfl) (hJ2_10_11 (v170, gb176, gb177) _ ⟨hHeld, (Kd.R_go HL165_1.out), (Kd.R_go HO171.out), (by (with_reducible repeat (first | apply Kd.S_alloc | apply Kd.S_drewN | apply Kd.S_drew)); exact Kd.S_mono HO_10.out (fun _ hk => ⟨hk.1.1, ⟨hk.1.2.1, ⟨hk.1.2.2.1, ⟨hk.2, hk.1.2.2.2⟩⟩⟩⟩)), (by (with_reducible repeat (first | apply Kd.S_alloc | apply Kd.S_drewN | apply Kd.S_drew)); exact HO_3.out), (blk_go BK161.out), (blk_go BK166.out), (blk_go BK176.out), (blk_go BK177.out), GW176.out, GE176.out, NB161_176.out, NB176_161.out, NB166_176.out, NB176_166.out, NB177_176.out, NB176_177.out, GW177.out, GE177.out, NB161_177.out, NB177_161.out, NB166_177.out, NB177_166.out, (by repeat (first | (with_reducible first | exact HB.out | apply below_alloc | apply pw_below_drewN | apply below_drew1 | refine below_set ?_ GE161.out | refine below_set ?_ GE166.out | refine below_set ?_ GE177.out | refine below_set ?_ GE176.out) | exact HB.out))⟩)
        intro hJ2_11
        refine join_ (σ := Nat × Nat) 4 #[true, true, false, true, true, true, true, true, true, false, true, true, false, false] (fun s_ => [(7, .pointer (some ⟨s_.1, 0, none⟩)), (8, .pointer (some ⟨s_.2, 0, none⟩))]) (fun s_ w' => (w'.cell? ⟨gb166, 0, none⟩ = some (.string ((rd_T24 t162 x12_1).f0)) ∧ w'.cell? ⟨gb166, 1, none⟩ = some (.slice A165_1 ((rd_T24 t162 x12_1).f1).length c165_1)) ∧ (Kd.R k56 56 w' w.heap.size (fun k_ => some k_ ≠ (.slice (some ad165) t162.length co6 : Value).ownBlock ∧ k_ ≠ gb161) (.slice A165_1 ((rd_T24 t162 x12_1).f1).length c165_1) ((rd_T24 t162 x12_1).f1)) ∧ (Kd.S k24 24 w' w.heap.size (fun k_ => k_ ≠ gb161 ∧ k_ ≠ gb166 ∧ k_ ≠ s_.1 ∧ k_ ≠ s_.2) (.slice (some ad165) t162.length co6) t162) ∧ (Kd.S k32 32 w' w.heap.size (fun _ => True) u3 x3_1) ∧ (w'.heap[gb161]? = some (.cells #[.string a0_0, .slice A0_1 l0_1.length c0_1] 24 (0, 0))) ∧ (w'.heap[gb166]? = some (.cells #[.string ((rd_T24 t162 x12_1).f0), .slice A165_1 ((rd_T24 t162 x12_1).f1).length c165_1] 24 (0, 0))) ∧ (w'.heap[s_.1]? = some (.cells #[.string (⟨#[]⟩ : ByteArray), .slice none 0 0] 24 (0, 0))) ∧ (w'.heap[s_.2]? = some (.cells #[.string (⟨#[]⟩ : ByteArray), .slice none 0 0] 24 (0, 0))) ∧ (w.heap.size ≤ s_.1) ∧ (w.heap.size ≤ s_.1) ∧ (gb161 ≠ s_.1) ∧ (s_.1 ≠ gb161) ∧ (gb166 ≠ s_.1) ∧ (s_.1 ≠ gb166) ∧ (s_.2 ≠ s_.1) ∧ (s_.1 ≠ s_.2) ∧ (w.heap.size ≤ s_.2) ∧ (w.heap.size ≤ s_.2) ∧ (gb161 ≠ s_.2) ∧ (s_.2 ≠ gb161) ∧ (gb166 ≠ s_.2) ∧ (s_.2 ≠ gb166) ∧ (Below w.heap.size w w')) ?_ ?_
        ·
         ·
          skip
          rintro ⟨gb176, gb177⟩ w29 ⟨hS_, h0_, h1_, h2_, h3_, h4_, h5_, h6_, h7_, h8_, h9_, h10_, h11_, h12_, h13_, h14_, h15_, h16_, h17_, h18_, h19_, h20_, h21_⟩
          dsimp only at hS_ h0_ h1_ h2_ h3_ h4_ h5_ h6_ h7_ h8_ h9_ h10_ h11_ h12_ h13_ h14_ h15_ h16_ h17_ h18_ h19_ h20_ h21_
          have n0_ := Aside0.mk h0_
          have n1_ := Aside0.mk h1_
          have n2_ := Aside0.mk h2_
          have n3_ := Aside0.mk h3_
          have n4_ := Aside0.mk h4_
          have n5_ := Aside0.mk h5_
          have n6_ := Aside0.mk h6_
          have n7_ := Aside0.mk h7_
          have n8_ := Aside0.mk h8_
          have n9_ := Aside0.mk h9_
          have n10_ := Aside0.mk h10_
          have n11_ := Aside0.mk h11_
          have n12_ := Aside0.mk h12_
          have n13_ := Aside0.mk h13_
          have n14_ := Aside0.mk h14_
          have n15_ := Aside0.mk h15_
          have n16_ := Aside0.mk h16_
          have n17_ := Aside0.mk h17_
          have n18_ := Aside0.mk h18_
          have n19_ := Aside0.mk h19_
          have n20_ := Aside0.mk h20_
          have n21_ := Aside0.mk h21_
          clear HO_3
          clear HO_10
          clear HL165_1
          clear BK161
          clear BK166
          clear HR165_1
          clear HB
          clear h0_ h1_ h2_ h3_ h4_ h5_ h6_ h7_ h8_ h9_ h10_ h11_ h12_ h13_ h14_ h15_ h16_ h17_ h18_ h19_ h20_ h21_
          have HL165_1 := n0_
          have HO_10 := n1_
          have HO_3 := n2_
          have BK161 := n3_
          have BK166 := n4_
          have BK176 := n5_
          have BK177 := n6_
          have GW176 := n7_
          have GE176 := n8_
          have NB161_176 := n9_
          have NB176_161 := n10_
          have NB166_176 := n11_
          have NB176_166 := n12_
          have NB177_176 := n13_
          have NB176_177 := n14_
          have GW177 := n15_
          have GE177 := n16_
          have NB161_177 := n17_
          have NB177_161 := n18_
          have NB166_177 := n19_
          have NB177_166 := n20_
          have HB := n21_
          clear n0_ n1_ n2_ n3_ n4_ n5_ n6_ n7_ n8_ n9_ n10_ n11_ n12_ n13_ n14_ n15_ n16_ n17_ n18_ n19_ n20_ n21_
          have hHeld := hS_
          refine norm_ (a' := ?_) ?_ ?_
          rotate_left
          ·
           simp only [putAll, Act.put, List.setIfInBounds_toArray, List.set_cons_zero, List.set_cons_succ]
           rfl
          refine one_ (i := 2) (N := some 22) #[true, true, true, true, true, true, true, true, true, false, true, true, false, false] rfl rfl (one_of HT_.out (by kernel_rfl)) (by decide) (fun K hK => ?_)
          refine goes_ Tryd.func37 (by kernel_rfl) rfl #[.agg #[.string ((rd_T24 t162 x12_1).f0), .slice A165_1 ((rd_T24 t162 x12_1).f1).length c165_1], .int .i64 0, .int .i64 t167] (by rfl) rfl rfl (by (try simp only [List.map_toArray, List.map_cons, List.map_nil]); first | done | rfl | (simp only [List.length_drop, List.length_take]; rfl)) ?_
          with_reducible refine (mark_Cut.calls k1 ((rd_T24 t162 x12_1).f0) _ _ ((rd_T24 t162 x12_1).f1) 0 t167 t168 t169 _ ?side1 ?side2 A16.out).mono ?_
          (case side1 => repeat (first | exact ((Kd.R_reads' (Kd.R_go HL165_1.out)).2.2) | (with_reducible refine Kd.C_alloc ?_ _) | (with_reducible refine Kd.C_drewN ?_ _) | (with_reducible refine Kd.C_drew ?_)))
          (case side2 => exact HC165_1.out)
          rintro e w30 ⟨v170, rfl, ho0, hb⟩
          refine ⟨_, rfl, ?_⟩
          have n0_ := Aside0.mk (Kd.S_elder' (by (with_reducible repeat (first | apply Kd.S_alloc | apply Kd.S_drewN | apply Kd.S_drew)); exact HO_3.out) (Kd.R_base ho0) hb)
          have n1_ := Aside0.mk (Kd.S_elder' (by (with_reducible repeat (first | apply Kd.S_alloc | apply Kd.S_drewN | apply Kd.S_drew)); exact HO_10.out) (Kd.R_base ho0) hb)
          have n2_ := Aside0.mk (Kd.R_elder' (Kd.R_go HL165_1.out) (Kd.R_base ho0) hb)
          have n3_ := Aside0.mk (Kd.R_lower (Kd.R_new' ho0 (Kd.R_lt (Kd.R_go HL165_1.out))) (below_size (by repeat (first | (with_reducible first | exact HB.out | apply below_alloc | apply pw_below_drewN | apply below_drew1 | refine below_set ?_ GE161.out | refine below_set ?_ GE166.out | refine below_set ?_ GE176.out | refine below_set ?_ GE177.out) | exact HB.out))))
          have n4_ := Aside0.mk (blk_below (blk_go BK161.out) hb)
          have n5_ := Aside0.mk (blk_below (blk_go BK166.out) hb)
          have n6_ := Aside0.mk (blk_below (blk_go BK176.out) hb)
          have n7_ := Aside0.mk (blk_below (blk_go BK177.out) hb)
          have n8_ := Aside0.mk (below_step (by repeat (first | (with_reducible first | exact HB.out | apply below_alloc | apply pw_below_drewN | apply below_drew1 | refine below_set ?_ GE161.out | refine below_set ?_ GE166.out | refine below_set ?_ GE176.out | refine below_set ?_ GE177.out) | exact HB.out)) hb)
          clear HO_3
          clear HO_10
          clear HL165_1
          clear BK161
          clear BK166
          clear BK176
          clear BK177
          clear HB
          have HO_3 := n0_
          have HO_10 := n1_
          have HL165_1 := n2_
          have HO171 := n3_
          have BK161 := n4_
          have BK166 := n5_
          have BK176 := n6_
          have BK177 := n7_
          have HB := n8_
          clear n0_ n1_ n2_ n3_ n4_ n5_ n6_ n7_ n8_
          (try clear hb)
          (try clear hb2)
          (try clear hk)
          (try clear hi)
          (try clear ho0)
          refine hK.out _ _ ⟨(blk_cell BK166.out 0).trans rfl, (blk_cell BK166.out 1).trans rfl⟩ (fun hHeld => ?_)
          clear hK K
          refine norm_ (a' := ?_) ?_ ?_
          rotate_left
          ·
           show Act.put _ (some 22) _ = _
           simp only [Act.put, List.setIfInBounds_toArray, List.set_cons_zero, List.set_cons_succ, i64_w, i32_w]
           rfl
          exact norm_ (by simp only [putAll, Act.put, List.setIfInBounds_toArray, List.set_cons_zero, List.set_cons_succ]; try rfl) (hJ2_10_11 (v170, gb176, gb177) _ ⟨hHeld, (Kd.R_go (Kd.R_mono HL165_1.out (fun _ hk => ⟨hk.2, ⟨hk.1.1, hk.1.2⟩⟩))), (Kd.R_go (Kd.R_mono HO171.out (fun _ hk => hk.2))), (by (with_reducible repeat (first | apply Kd.S_alloc | apply Kd.S_drewN | apply Kd.S_drew)); exact Kd.S_mono HO_10.out (fun _ hk => ⟨hk.2, ⟨hk.1.1, ⟨hk.1.2.1, ⟨hk.1.2.2.1, hk.1.2.2.2⟩⟩⟩⟩)), (by (with_reducible repeat (first | apply Kd.S_alloc | apply Kd.S_drewN | apply Kd.S_drew)); exact Kd.S_mono HO_3.out (fun _ hk => hk.2)), (blk_go BK161.out), (blk_go BK166.out), (blk_go BK176.out), (blk_go BK177.out), GW176.out, GE176.out, NB161_176.out, NB176_161.out, NB166_176.out, NB176_166.out, NB177_176.out, NB176_177.out, GW177.out, GE177.out, NB161_177.out, NB177_161.out, NB166_177.out, NB177_166.out, (by repeat (first | (with_reducible first | exact HB.out | apply below_alloc | apply pw_below_drewN | apply below_drew1 | refine below_set ?_ GE161.out | refine below_set ?_ GE166.out | refine below_set ?_ GE176.out | refine below_set ?_ GE177.out) | exact HB.out))⟩)
        intro hJ10_11
        refine join_ (σ := Value) 5 #[true, true, true, true, true, true, true, true, true, false, false, false, false, false] (fun s_ => [(22, .agg #[.string t168, s_])]) (fun s_ w' => (w'.cell? ⟨gb166, 0, none⟩ = some (.string ((rd_T24 t162 x12_1).f0)) ∧ w'.cell? ⟨gb166, 1, none⟩ = some (.slice A165_1 ((rd_T24 t162 x12_1).f1).length c165_1)) ∧ (Kd.R k56 56 w' w.heap.size (fun k_ => some k_ ≠ (s_ : Value).ownBlock ∧ some k_ ≠ (.slice (some ad165) t162.length co6 : Value).ownBlock ∧ k_ ≠ gb161) (.slice A165_1 ((rd_T24 t162 x12_1).f1).length c165_1) ((rd_T24 t162 x12_1).f1)) ∧ (Kd.R k56 56 w' w.heap.size (fun k_ => some k_ ≠ (.slice A165_1 ((rd_T24 t162 x12_1).f1).length c165_1 : Value).ownBlock) s_ t169) ∧ (Kd.S k24 24 w' w.heap.size (fun k_ => some k_ ≠ (s_ : Value).ownBlock ∧ k_ ≠ gb161 ∧ k_ ≠ gb166) (.slice (some ad165) t162.length co6) t162) ∧ (Kd.S k32 32 w' w.heap.size (fun k_ => some k_ ≠ (s_ : Value).ownBlock) u3 x3_1) ∧ (w'.heap[gb161]? = some (.cells #[.string a0_0, .slice A0_1 l0_1.length c0_1] 24 (0, 0))) ∧ (w'.heap[gb166]? = some (.cells #[.string ((rd_T24 t162 x12_1).f0), .slice A165_1 ((rd_T24 t162 x12_1).f1).length c165_1] 24 (0, 0))) ∧ (Below w.heap.size w w')) ?_ ?_
        ·
         ·
          skip
          rintro v170 w28 ⟨hS_, h0_, h1_, h2_, h3_, h4_, h5_, h6_⟩
          have n0_ := Aside0.mk h0_
          have n1_ := Aside0.mk h1_
          have n2_ := Aside0.mk h2_
          have n3_ := Aside0.mk h3_
          have n4_ := Aside0.mk h4_
          have n5_ := Aside0.mk h5_
          have n6_ := Aside0.mk h6_
          clear HO_3
          clear HO_10
          clear HL165_1
          clear BK161
          clear BK166
          clear HR165_1
          clear HB
          clear h0_ h1_ h2_ h3_ h4_ h5_ h6_
          have HL165_1 := n0_
          have HO171 := n1_
          have HO_10 := n2_
          have HO_3 := n3_
          have BK161 := n4_
          have BK166 := n5_
          have HB := n6_
          clear n0_ n1_ n2_ n3_ n4_ n5_ n6_
          have hHeld := hS_
          refine norm_ (a' := ?_) ?_ ?_
          rotate_left
          ·
           simp only [putAll, Act.put, List.setIfInBounds_toArray, List.set_cons_zero, List.set_cons_succ]
           rfl
          refine three_ (i := 9) (j := 10) (k := 11) (Ni := some 29) (Nj := some 7) (Nk := some 8) #[true, true, true, true, true, true, true, true, true, true, false, false, false, false] #[true, true, true, true, true, true, true, true, true, false, true, false, false, false] #[true, true, true, true, true, true, true, true, true, false, false, true, false, false] rfl rfl rfl rfl rfl rfl (three_of HT_.out (by kernel_rfl)) (by decide) (by decide) (by decide) (fun K hK => ?_) (fun K hK => ?_) (fun K hK => ?_)
          ·
           skip
           refine goes_ Tryd.func37 (by kernel_rfl) rfl #[.agg #[.string ((rd_T24 t162 x12_1).f0), .slice A165_1 ((rd_T24 t162 x12_1).f1).length c165_1], .int .i64 (wrap64 (t167 + 1)), .int .i64 (((rd_T24 t162 x12_1).f0).size : Int)] (by rfl) rfl rfl (by (try simp only [List.map_toArray, List.map_cons, List.map_nil]); first | done | rfl | (simp only [List.length_drop, List.length_take]; rfl)) ?_
           with_reducible refine (mark_Cut.calls k1 ((rd_T24 t162 x12_1).f0) _ _ ((rd_T24 t162 x12_1).f1) (wrap64 (t167 + 1)) (((rd_T24 t162 x12_1).f0).size : Int) t172 t173 _ ?side1 ?side2 A17.out).mono ?_
           (case side1 => repeat (first | exact ((Kd.R_reads' (Kd.R_go HL165_1.out)).2.2) | (with_reducible refine Kd.C_alloc ?_ _) | (with_reducible refine Kd.C_drewN ?_ _) | (with_reducible refine Kd.C_drew ?_)))
           (case side2 => exact HC165_1.out)
           rintro e w29 ⟨v174, rfl, ho0, hb⟩
           refine ⟨_, rfl, ?_⟩
           have n0_ := Aside0.mk (Kd.S_elder' (by (with_reducible repeat (first | apply Kd.S_alloc | apply Kd.S_drewN | apply Kd.S_drew)); exact HO_3.out) (Kd.R_base ho0) hb)
           have n1_ := Aside0.mk (Kd.S_elder' (by (with_reducible repeat (first | apply Kd.S_alloc | apply Kd.S_drewN | apply Kd.S_drew)); exact HO_10.out) (Kd.R_base ho0) hb)
           have n2_ := Aside0.mk (Kd.R_elder' (Kd.R_go HL165_1.out) (Kd.R_base ho0) hb)
           have n3_ := Aside0.mk (Kd.R_elder' (Kd.R_go HO171.out) (Kd.R_base ho0) hb)
           have n4_ := Aside0.mk (Kd.R_lower (Kd.R_new' (Kd.R_new' ho0 (Kd.R_lt (Kd.R_go HL165_1.out))) (Kd.R_lt (Kd.R_go HO171.out))) (below_size (by repeat (first | (with_reducible first | exact HB.out | apply below_alloc | apply pw_below_drewN | apply below_drew1 | refine below_set ?_ GE161.out | refine below_set ?_ GE166.out) | exact HB.out))))
           have n5_ := Aside0.mk (blk_below (blk_go BK161.out) hb)
           have n6_ := Aside0.mk (blk_below (blk_go BK166.out) hb)
           have n7_ := Aside0.mk (below_step (by repeat (first | (with_reducible first | exact HB.out | apply below_alloc | apply pw_below_drewN | apply below_drew1 | refine below_set ?_ GE161.out | refine below_set ?_ GE166.out) | exact HB.out)) hb)
           clear HO_3
           clear HO_10
           clear HL165_1
           clear HO171
           clear BK161
           clear BK166
           clear HB
           have HO_3 := n0_
           have HO_10 := n1_
           have HL165_1 := n2_
           have HO171 := n3_
           have HO175 := n4_
           have BK161 := n5_
           have BK166 := n6_
           have HB := n7_
           clear n0_ n1_ n2_ n3_ n4_ n5_ n6_ n7_
           (try clear hb)
           (try clear hb2)
           (try clear hk)
           (try clear hi)
           (try clear ho0)
           refine hK.out _ _ ⟨(blk_cell BK166.out 0).trans rfl, (blk_cell BK166.out 1).trans rfl⟩ (fun hHeld => ?_)
           clear hK K
           refine norm_ (a' := ?_) ?_ ?_
           rotate_left
           ·
            show Act.put _ (some 29) _ = _
            simp only [Act.put, List.setIfInBounds_toArray, List.set_cons_zero, List.set_cons_succ, i64_w, i32_w]
            rfl
           exact norm_ (by simp only [putAll, Act.put, List.setIfInBounds_toArray, List.set_cons_zero, List.set_cons_succ]; try rfl) (hJ2_9 (v170, v174) _ ⟨hHeld, (Kd.R_go (Kd.R_mono HL165_1.out (fun _ hk => ⟨hk.1.1, ⟨hk.2, ⟨hk.1.2.1, hk.1.2.2⟩⟩⟩))), (Kd.R_go HO171.out), (Kd.R_go (Kd.R_mono HO175.out (fun _ hk => ⟨hk.1.2, hk.2⟩))), (by (with_reducible repeat (first | apply Kd.S_alloc | apply Kd.S_drewN | apply Kd.S_drew)); exact Kd.S_mono HO_10.out (fun _ hk => ⟨hk.1.1, ⟨hk.2, ⟨hk.1.2.1, hk.1.2.2⟩⟩⟩)), (by (with_reducible repeat (first | apply Kd.S_alloc | apply Kd.S_drewN | apply Kd.S_drew)); exact HO_3.out), (blk_go BK161.out), (blk_go BK166.out), (by repeat (first | (with_reducible first | exact HB.out | apply below_alloc | apply pw_below_drewN | apply below_drew1 | refine below_set ?_ GE161.out | refine below_set ?_ GE166.out) | exact HB.out))⟩)
          ·
           skip
           refine box_step ?hg (N := 7) ?hd (cs := #[.string (⟨#[]⟩ : ByteArray), .slice none 0 0]) (t := 24) ?hr ?_; (case hd => rfl); (case hg => rfl); (case hr => first | (go_simp; done) | (go_simp; rfl))
           intro gb176 hg w29 hbox hb
           have n0_ := Aside0.mk (Kd.S_below (by (with_reducible repeat (first | apply Kd.S_alloc | apply Kd.S_drewN | apply Kd.S_drew)); exact HO_3.out) hb)
           have n1_ := Aside0.mk (Kd.S_below (Kd.S_elderB (by (with_reducible repeat (first | apply Kd.S_alloc | apply Kd.S_drewN | apply Kd.S_drew)); exact HO_10.out) gb176 (Nat.le_of_eq hg.symm)) hb)
           have n2_ := Aside0.mk (Kd.R_below (Kd.R_go HL165_1.out) hb)
           have n3_ := Aside0.mk (Kd.R_below (Kd.R_go HO171.out) hb)
           have n4_ := Aside0.mk (blk_below (blk_go BK161.out) hb)
           have n5_ := Aside0.mk (blk_below (blk_go BK166.out) hb)
           have n6_ := Aside0.mk (below_step (by repeat (first | (with_reducible first | exact HB.out | apply below_alloc | apply pw_below_drewN | apply below_drew1 | refine below_set ?_ GE161.out | refine below_set ?_ GE166.out) | exact HB.out)) hb)
           have n7_ := Aside0.mk (hbox)
           have n8_ := Aside0.mk ((by rw [hg]; exact (below_size (by repeat (first | (with_reducible first | exact HB.out | apply below_alloc | apply pw_below_drewN | apply below_drew1 | refine below_set ?_ GE161.out | refine below_set ?_ GE166.out) | exact HB.out))) : w.heap.size ≤ gb176))
           have n9_ := Aside0.mk ((by rw [hg]; exact (below_size (by repeat (first | (with_reducible first | exact HB.out | apply below_alloc | apply pw_below_drewN | apply below_drew1 | refine below_set ?_ GE161.out | refine below_set ?_ GE166.out) | exact HB.out))) : w.heap.size ≤ gb176))
           have n10_ := Aside0.mk ((by rw [hg]; exact Nat.ne_of_lt (blk_lt (g := gb161) (o := .cells #[.string a0_0, .slice A0_1 l0_1.length c0_1] 24 (0, 0)) (blk_go BK161.out)) : gb161 ≠ gb176))
           have n11_ := Aside0.mk (blk_apart hg (blk_go BK161.out) : gb176 ≠ gb161)
           have n12_ := Aside0.mk ((by rw [hg]; exact Nat.ne_of_lt (blk_lt (g := gb166) (o := .cells #[.string ((rd_T24 t162 x12_1).f0), .slice A165_1 ((rd_T24 t162 x12_1).f1).length c165_1] 24 (0, 0)) (blk_go BK166.out)) : gb166 ≠ gb176))
           have n13_ := Aside0.mk (blk_apart hg (blk_go BK166.out) : gb176 ≠ gb166)
           clear HO_3
           clear HO_10
           clear HL165_1
           clear HO171
           clear BK161
           clear BK166
           clear HB
           have HO_3 := n0_
           have HO_10 := n1_
           have HL165_1 := n2_
           have HO171 := n3_
           have BK161 := n4_
           have BK166 := n5_
           have HB := n6_
           have BK176 := n7_
           have GW176 := n8_
           have GE176 := n9_
           have NB161_176 := n10_
           have NB176_161 := n11_
           have NB166_176 := n12_
           have NB176_166 := n13_
           clear n0_ n1_ n2_ n3_ n4_ n5_ n6_ n7_ n8_ n9_ n10_ n11_ n12_ n13_
           clear hb hbox hg
           refine hK.out _ _ ⟨(blk_cell BK166.out 0).trans rfl, (blk_cell BK166.out 1).trans rfl⟩ (fun hHeld => ?_)
           clear hK K
           refine norm_ (a' := ?_) ?_ ?_
           rotate_left
           ·
            show Act.put _ (some 7) _ = _
            simp only [Act.put, List.setIfInBounds_toArray, List.set_cons_zero, List.set_cons_succ, i64_w, i32_w]
            rfl
           exact norm_ (by simp only [putAll, Act.put, List.setIfInBounds_toArray, List.set_cons_zero, List.set_cons_succ]; try rfl) (hJ2_10 (v170, gb176) _ ⟨hHeld, (Kd.R_go HL165_1.out), (Kd.R_go HO171.out), (by (with_reducible repeat (first | apply Kd.S_alloc | apply Kd.S_drewN | apply Kd.S_drew)); exact Kd.S_mono HO_10.out (fun _ hk => ⟨hk.1.1, ⟨hk.1.2.1, ⟨hk.1.2.2, hk.2⟩⟩⟩)), (by (with_reducible repeat (first | apply Kd.S_alloc | apply Kd.S_drewN | apply Kd.S_drew)); exact HO_3.out), (blk_go BK161.out), (blk_go BK166.out), (blk_go BK176.out), GW176.out, GE176.out, NB161_176.out, NB176_161.out, NB166_176.out, NB176_166.out, (by repeat (first | (with_reducible first | exact HB.out | apply below_alloc | apply pw_below_drewN | apply below_drew1 | refine below_set ?_ GE161.out | refine below_set ?_ GE166.out | refine below_set ?_ GE176.out) | exact HB.out))⟩)
          ·
           skip
           refine box_step ?hg (N := 8) ?hd (cs := #[.string (⟨#[]⟩ : ByteArray), .slice none 0 0]) (t := 24) ?hr ?_; (case hd => rfl); (case hg => rfl); (case hr => first | (go_simp; done) | (go_simp; rfl))
           intro gb177 hg w29 hbox hb
           have n0_ := Aside0.mk (Kd.S_below (by (with_reducible repeat (first | apply Kd.S_alloc | apply Kd.S_drewN | apply Kd.S_drew)); exact HO_3.out) hb)
           have n1_ := Aside0.mk (Kd.S_below (Kd.S_elderB (by (with_reducible repeat (first | apply Kd.S_alloc | apply Kd.S_drewN | apply Kd.S_drew)); exact HO_10.out) gb177 (Nat.le_of_eq hg.symm)) hb)
           have n2_ := Aside0.mk (Kd.R_below (Kd.R_go HL165_1.out) hb)
           have n3_ := Aside0.mk (Kd.R_below (Kd.R_go HO171.out) hb)
           have n4_ := Aside0.mk (blk_below (blk_go BK161.out) hb)
           have n5_ := Aside0.mk (blk_below (blk_go BK166.out) hb)
           have n6_ := Aside0.mk (below_step (by repeat (first | (with_reducible first | exact HB.out | apply below_alloc | apply pw_below_drewN | apply below_drew1 | refine below_set ?_ GE161.out | refine below_set ?_ GE166.out) | exact HB.out)) hb)
           have n7_ := Aside0.mk (hbox)
           have n8_ := Aside0.mk ((by rw [hg]; exact (below_size (by repeat (first | (with_reducible first | exact HB.out | apply below_alloc | apply pw_below_drewN | apply below_drew1 | refine below_set ?_ GE161.out | refine below_set ?_ GE166.out) | exact HB.out))) : w.heap.size ≤ gb177))
           have n9_ := Aside0.mk ((by rw [hg]; exact (below_size (by repeat (first | (with_reducible first | exact HB.out | apply below_alloc | apply pw_below_drewN | apply below_drew1 | refine below_set ?_ GE161.out | refine below_set ?_ GE166.out) | exact HB.out))) : w.heap.size ≤ gb177))
           have n10_ := Aside0.mk ((by rw [hg]; exact Nat.ne_of_lt (blk_lt (g := gb161) (o := .cells #[.string a0_0, .slice A0_1 l0_1.length c0_1] 24 (0, 0)) (blk_go BK161.out)) : gb161 ≠ gb177))
           have n11_ := Aside0.mk (blk_apart hg (blk_go BK161.out) : gb177 ≠ gb161)
           have n12_ := Aside0.mk ((by rw [hg]; exact Nat.ne_of_lt (blk_lt (g := gb166) (o := .cells #[.string ((rd_T24 t162 x12_1).f0), .slice A165_1 ((rd_T24 t162 x12_1).f1).length c165_1] 24 (0, 0)) (blk_go BK166.out)) : gb166 ≠ gb177))
           have n13_ := Aside0.mk (blk_apart hg (blk_go BK166.out) : gb177 ≠ gb166)
           clear HO_3
           clear HO_10
           clear HL165_1
           clear HO171
           clear BK161
           clear BK166
           clear HB
           have HO_3 := n0_
           have HO_10 := n1_
           have HL165_1 := n2_
           have HO171 := n3_
           have BK161 := n4_
           have BK166 := n5_
           have HB := n6_
           have BK177 := n7_
           have GW177 := n8_
           have GE177 := n9_
           have NB161_177 := n10_
           have NB177_161 := n11_
           have NB166_177 := n12_
           have NB177_166 := n13_
           clear n0_ n1_ n2_ n3_ n4_ n5_ n6_ n7_ n8_ n9_ n10_ n11_ n12_ n13_
           clear hb hbox hg
           refine hK.out _ _ ⟨(blk_cell BK166.out 0).trans rfl, (blk_cell BK166.out 1).trans rfl⟩ (fun hHeld => ?_)
           clear hK K
           refine norm_ (a' := ?_) ?_ ?_
           rotate_left
           ·
            show Act.put _ (some 8) _ = _
            simp only [Act.put, List.setIfInBounds_toArray, List.set_cons_zero, List.set_cons_succ, i64_w, i32_w]
            rfl
           exact norm_ (by simp only [putAll, Act.put, List.setIfInBounds_toArray, List.set_cons_zero, List.set_cons_succ]; try rfl) (hJ2_11 (v170, gb177) _ ⟨hHeld, (Kd.R_go HL165_1.out), (Kd.R_go HO171.out), (by (with_reducible repeat (first | apply Kd.S_alloc | apply Kd.S_drewN | apply Kd.S_drew)); exact Kd.S_mono HO_10.out (fun _ hk => ⟨hk.1.1, ⟨hk.1.2.1, ⟨hk.1.2.2, hk.2⟩⟩⟩)), (by (with_reducible repeat (first | apply Kd.S_alloc | apply Kd.S_drewN | apply Kd.S_drew)); exact HO_3.out), (blk_go BK161.out), (blk_go BK166.out), (blk_go BK177.out), GW177.out, GE177.out, NB161_177.out, NB177_161.out, NB166_177.out, NB177_166.out, (by repeat (first | (with_reducible first | exact HB.out | apply below_alloc | apply pw_below_drewN | apply below_drew1 | refine below_set ?_ GE161.out | refine below_set ?_ GE166.out | refine below_set ?_ GE177.out) | exact HB.out))⟩)
        intro hJ2
        refine join_ (σ := Nat) 5 #[true, true, false, true, true, true, true, true, true, false, true, false, false, false] (fun s_ => [(7, .pointer (some ⟨s_, 0, none⟩))]) (fun s_ w' => (w'.cell? ⟨gb166, 0, none⟩ = some (.string ((rd_T24 t162 x12_1).f0)) ∧ w'.cell? ⟨gb166, 1, none⟩ = some (.slice A165_1 ((rd_T24 t162 x12_1).f1).length c165_1)) ∧ (Kd.R k56 56 w' w.heap.size (fun k_ => some k_ ≠ (.slice (some ad165) t162.length co6 : Value).ownBlock ∧ k_ ≠ gb161) (.slice A165_1 ((rd_T24 t162 x12_1).f1).length c165_1) ((rd_T24 t162 x12_1).f1)) ∧ (Kd.S k24 24 w' w.heap.size (fun k_ => k_ ≠ gb161 ∧ k_ ≠ gb166 ∧ k_ ≠ s_) (.slice (some ad165) t162.length co6) t162) ∧ (Kd.S k32 32 w' w.heap.size (fun _ => True) u3 x3_1) ∧ (w'.heap[gb161]? = some (.cells #[.string a0_0, .slice A0_1 l0_1.length c0_1] 24 (0, 0))) ∧ (w'.heap[gb166]? = some (.cells #[.string ((rd_T24 t162 x12_1).f0), .slice A165_1 ((rd_T24 t162 x12_1).f1).length c165_1] 24 (0, 0))) ∧ (w'.heap[s_]? = some (.cells #[.string (⟨#[]⟩ : ByteArray), .slice none 0 0] 24 (0, 0))) ∧ (w.heap.size ≤ s_) ∧ (w.heap.size ≤ s_) ∧ (gb161 ≠ s_) ∧ (s_ ≠ gb161) ∧ (gb166 ≠ s_) ∧ (s_ ≠ gb166) ∧ (Below w.heap.size w w')) ?_ ?_
        ·
         ·
          skip
          rintro gb176 w28 ⟨hS_, h0_, h1_, h2_, h3_, h4_, h5_, h6_, h7_, h8_, h9_, h10_, h11_, h12_⟩
          have n0_ := Aside0.mk h0_
          have n1_ := Aside0.mk h1_
          have n2_ := Aside0.mk h2_
          have n3_ := Aside0.mk h3_
          have n4_ := Aside0.mk h4_
          have n5_ := Aside0.mk h5_
          have n6_ := Aside0.mk h6_
          have n7_ := Aside0.mk h7_
          have n8_ := Aside0.mk h8_
          have n9_ := Aside0.mk h9_
          have n10_ := Aside0.mk h10_
          have n11_ := Aside0.mk h11_
          have n12_ := Aside0.mk h12_
          clear HO_3
          clear HO_10
          clear HL165_1
          clear BK161
          clear BK166
          clear HR165_1
          clear HB
          clear h0_ h1_ h2_ h3_ h4_ h5_ h6_ h7_ h8_ h9_ h10_ h11_ h12_
          have HL165_1 := n0_
          have HO_10 := n1_
          have HO_3 := n2_
          have BK161 := n3_
          have BK166 := n4_
          have BK176 := n5_
          have GW176 := n6_
          have GE176 := n7_
          have NB161_176 := n8_
          have NB176_161 := n9_
          have NB166_176 := n10_
          have NB176_166 := n11_
          have HB := n12_
          clear n0_ n1_ n2_ n3_ n4_ n5_ n6_ n7_ n8_ n9_ n10_ n11_ n12_
          have hHeld := hS_
          refine norm_ (a' := ?_) ?_ ?_
          rotate_left
          ·
           simp only [putAll, Act.put, List.setIfInBounds_toArray, List.set_cons_zero, List.set_cons_succ]
           rfl
          refine two_ (i := 2) (j := 11) (Ni := some 22) (Nj := some 8) #[true, true, true, true, true, true, true, true, true, false, true, false, false, false] #[true, true, false, true, true, true, true, true, true, false, true, true, false, false] rfl rfl rfl rfl (two_of HT_.out (by kernel_rfl)) (by decide) (by decide) (fun K hK => ?_) (fun K hK => ?_)
          ·
           skip
           refine goes_ Tryd.func37 (by kernel_rfl) rfl #[.agg #[.string ((rd_T24 t162 x12_1).f0), .slice A165_1 ((rd_T24 t162 x12_1).f1).length c165_1], .int .i64 0, .int .i64 t167] (by rfl) rfl rfl (by (try simp only [List.map_toArray, List.map_cons, List.map_nil]); first | done | rfl | (simp only [List.length_drop, List.length_take]; rfl)) ?_
           with_reducible refine (mark_Cut.calls k1 ((rd_T24 t162 x12_1).f0) _ _ ((rd_T24 t162 x12_1).f1) 0 t167 t168 t169 _ ?side1 ?side2 A16.out).mono ?_
           (case side1 => repeat (first | exact ((Kd.R_reads' (Kd.R_go HL165_1.out)).2.2) | (with_reducible refine Kd.C_alloc ?_ _) | (with_reducible refine Kd.C_drewN ?_ _) | (with_reducible refine Kd.C_drew ?_)))
           (case side2 => exact HC165_1.out)
           rintro e w29 ⟨v170, rfl, ho0, hb⟩
           refine ⟨_, rfl, ?_⟩
           have n0_ := Aside0.mk (Kd.S_elder' (by (with_reducible repeat (first | apply Kd.S_alloc | apply Kd.S_drewN | apply Kd.S_drew)); exact HO_3.out) (Kd.R_base ho0) hb)
           have n1_ := Aside0.mk (Kd.S_elder' (by (with_reducible repeat (first | apply Kd.S_alloc | apply Kd.S_drewN | apply Kd.S_drew)); exact HO_10.out) (Kd.R_base ho0) hb)
           have n2_ := Aside0.mk (Kd.R_elder' (Kd.R_go HL165_1.out) (Kd.R_base ho0) hb)
           have n3_ := Aside0.mk (Kd.R_lower (Kd.R_new' ho0 (Kd.R_lt (Kd.R_go HL165_1.out))) (below_size (by repeat (first | (with_reducible first | exact HB.out | apply below_alloc | apply pw_below_drewN | apply below_drew1 | refine below_set ?_ GE161.out | refine below_set ?_ GE166.out | refine below_set ?_ GE176.out) | exact HB.out))))
           have n4_ := Aside0.mk (blk_below (blk_go BK161.out) hb)
           have n5_ := Aside0.mk (blk_below (blk_go BK166.out) hb)
           have n6_ := Aside0.mk (blk_below (blk_go BK176.out) hb)
           have n7_ := Aside0.mk (below_step (by repeat (first | (with_reducible first | exact HB.out | apply below_alloc | apply pw_below_drewN | apply below_drew1 | refine below_set ?_ GE161.out | refine below_set ?_ GE166.out | refine below_set ?_ GE176.out) | exact HB.out)) hb)
           clear HO_3
           clear HO_10
           clear HL165_1
           clear BK161
           clear BK166
           clear BK176
           clear HB
           have HO_3 := n0_
           have HO_10 := n1_
           have HL165_1 := n2_
           have HO171 := n3_
           have BK161 := n4_
           have BK166 := n5_
           have BK176 := n6_
           have HB := n7_
           clear n0_ n1_ n2_ n3_ n4_ n5_ n6_ n7_
           (try clear hb)
           (try clear hb2)
           (try clear hk)
           (try clear hi)
           (try clear ho0)
           refine hK.out _ _ ⟨(blk_cell BK166.out 0).trans rfl, (blk_cell BK166.out 1).trans rfl⟩ (fun hHeld => ?_)
           clear hK K
           refine norm_ (a' := ?_) ?_ ?_
           rotate_left
           ·
            show Act.put _ (some 22) _ = _
            simp only [Act.put, List.setIfInBounds_toArray, List.set_cons_zero, List.set_cons_succ, i64_w, i32_w]
            rfl
           exact norm_ (by simp only [putAll, Act.put, List.setIfInBounds_toArray, List.set_cons_zero, List.set_cons_succ]; try rfl) (hJ2_10 (v170, gb176) _ ⟨hHeld, (Kd.R_go (Kd.R_mono HL165_1.out (fun _ hk => ⟨hk.2, ⟨hk.1.1, hk.1.2⟩⟩))), (Kd.R_go (Kd.R_mono HO171.out (fun _ hk => hk.2))), (by (with_reducible repeat (first | apply Kd.S_alloc | apply Kd.S_drewN | apply Kd.S_drew)); exact Kd.S_mono HO_10.out (fun _ hk => ⟨hk.2, ⟨hk.1.1, ⟨hk.1.2.1, hk.1.2.2⟩⟩⟩)), (by (with_reducible repeat (first | apply Kd.S_alloc | apply Kd.S_drewN | apply Kd.S_drew)); exact Kd.S_mono HO_3.out (fun _ hk => hk.2)), (blk_go BK161.out), (blk_go BK166.out), (blk_go BK176.out), GW176.out, GE176.out, NB161_176.out, NB176_161.out, NB166_176.out, NB176_166.out, (by repeat (first | (with_reducible first | exact HB.out | apply below_alloc | apply pw_below_drewN | apply below_drew1 | refine below_set ?_ GE161.out | refine below_set ?_ GE166.out | refine below_set ?_ GE176.out) | exact HB.out))⟩)
          ·
           skip
           refine box_step ?hg (N := 8) ?hd (cs := #[.string (⟨#[]⟩ : ByteArray), .slice none 0 0]) (t := 24) ?hr ?_; (case hd => rfl); (case hg => rfl); (case hr => first | (go_simp; done) | (go_simp; rfl))
           intro gb177 hg w29 hbox hb
           have n0_ := Aside0.mk (Kd.S_below (by (with_reducible repeat (first | apply Kd.S_alloc | apply Kd.S_drewN | apply Kd.S_drew)); exact HO_3.out) hb)
           have n1_ := Aside0.mk (Kd.S_below (Kd.S_elderB (by (with_reducible repeat (first | apply Kd.S_alloc | apply Kd.S_drewN | apply Kd.S_drew)); exact HO_10.out) gb177 (Nat.le_of_eq hg.symm)) hb)
           have n2_ := Aside0.mk (Kd.R_below (Kd.R_go HL165_1.out) hb)
           have n3_ := Aside0.mk (blk_below (blk_go BK161.out) hb)
           have n4_ := Aside0.mk (blk_below (blk_go BK166.out) hb)
           have n5_ := Aside0.mk (blk_below (blk_go BK176.out) hb)
           have n6_ := Aside0.mk (below_step (by repeat (first | (with_reducible first | exact HB.out | apply below_alloc | apply pw_below_drewN | apply below_drew1 | refine below_set ?_ GE161.out | refine below_set ?_ GE166.out | refine below_set ?_ GE176.out) | exact HB.out)) hb)
           have n7_ := Aside0.mk (hbox)
           have n8_ := Aside0.mk ((by rw [hg]; exact (below_size (by repeat (first | (with_reducible first | exact HB.out | apply below_alloc | apply pw_below_drewN | apply below_drew1 | refine below_set ?_ GE161.out | refine below_set ?_ GE166.out | refine below_set ?_ GE176.out) | exact HB.out))) : w.heap.size ≤ gb177))
           have n9_ := Aside0.mk ((by rw [hg]; exact (below_size (by repeat (first | (with_reducible first | exact HB.out | apply below_alloc | apply pw_below_drewN | apply below_drew1 | refine below_set ?_ GE161.out | refine below_set ?_ GE166.out | refine below_set ?_ GE176.out) | exact HB.out))) : w.heap.size ≤ gb177))
           have n10_ := Aside0.mk ((by rw [hg]; exact Nat.ne_of_lt (blk_lt (g := gb161) (o := .cells #[.string a0_0, .slice A0_1 l0_1.length c0_1] 24 (0, 0)) (blk_go BK161.out)) : gb161 ≠ gb177))
           have n11_ := Aside0.mk (blk_apart hg (blk_go BK161.out) : gb177 ≠ gb161)
           have n12_ := Aside0.mk ((by rw [hg]; exact Nat.ne_of_lt (blk_lt (g := gb166) (o := .cells #[.string ((rd_T24 t162 x12_1).f0), .slice A165_1 ((rd_T24 t162 x12_1).f1).length c165_1] 24 (0, 0)) (blk_go BK166.out)) : gb166 ≠ gb177))
           have n13_ := Aside0.mk (blk_apart hg (blk_go BK166.out) : gb177 ≠ gb166)
           have n14_ := Aside0.mk ((by rw [hg]; exact Nat.ne_of_lt (blk_lt (g := gb176) (o := .cells #[.string (⟨#[]⟩ : ByteArray), .slice none 0 0] 24 (0, 0)) (blk_go BK176.out)) : gb176 ≠ gb177))
           have n15_ := Aside0.mk (blk_apart hg (blk_go BK176.out) : gb177 ≠ gb176)
           clear HO_3
           clear HO_10
           clear HL165_1
           clear BK161
           clear BK166
           clear BK176
           clear HB
           have HO_3 := n0_
           have HO_10 := n1_
           have HL165_1 := n2_
           have BK161 := n3_
           have BK166 := n4_
           have BK176 := n5_
           have HB := n6_
           have BK177 := n7_
           have GW177 := n8_
           have GE177 := n9_
           have NB161_177 := n10_
           have NB177_161 := n11_
           have NB166_177 := n12_
           have NB177_166 := n13_
           have NB176_177 := n14_
           have NB177_176 := n15_
           clear n0_ n1_ n2_ n3_ n4_ n5_ n6_ n7_ n8_ n9_ n10_ n11_ n12_ n13_ n14_ n15_
           clear hb hbox hg
           refine hK.out _ _ ⟨(blk_cell BK166.out 0).trans rfl, (blk_cell BK166.out 1).trans rfl⟩ (fun hHeld => ?_)
           clear hK K
           refine norm_ (a' := ?_) ?_ ?_
           rotate_left
           ·
            show Act.put _ (some 8) _ = _
            simp only [Act.put, List.setIfInBounds_toArray, List.set_cons_zero, List.set_cons_succ, i64_w, i32_w]
            rfl
           exact norm_ (by simp only [putAll, Act.put, List.setIfInBounds_toArray, List.set_cons_zero, List.set_cons_succ]; try rfl) (hJ10_11 (gb176, gb177) _ ⟨hHeld, (Kd.R_go HL165_1.out), (by (with_reducible repeat (first | apply Kd.S_alloc | apply Kd.S_drewN | apply Kd.S_drew)); exact Kd.S_mono HO_10.out (fun _ hk => ⟨hk.1.1, ⟨hk.1.2.1, ⟨hk.1.2.2, hk.2⟩⟩⟩)), (by (with_reducible repeat (first | apply Kd.S_alloc | apply Kd.S_drewN | apply Kd.S_drew)); exact HO_3.out), (blk_go BK161.out), (blk_go BK166.out), (blk_go BK176.out), (blk_go BK177.out), GW176.out, GE176.out, NB161_176.out, NB176_161.out, NB166_176.out, NB176_166.out, NB177_176.out, NB176_177.out, GW177.out, GE177.out, NB161_177.out, NB177_161.out, NB166_177.out, NB177_166.out, (by repeat (first | (with_reducible first | exact HB.out | apply below_alloc | apply pw_below_drewN | apply below_drew1 | refine below_set ?_ GE161.out | refine below_set ?_ GE166.out | refine below_set ?_ GE176.out | refine below_set ?_ GE177.out) | exact HB.out))⟩)
        intro hJ10
        refine join_ (σ := Nat) 5 #[true, true, false, true, true, true, true, true, true, false, false, true, false, false] (fun s_ => [(8, .pointer (some ⟨s_, 0, none⟩))]) (fun s_ w' => (w'.cell? ⟨gb166, 0, none⟩ = some (.string ((rd_T24 t162 x12_1).f0)) ∧ w'.cell? ⟨gb166, 1, none⟩ = some (.slice A165_1 ((rd_T24 t162 x12_1).f1).length c165_1)) ∧ (Kd.R k56 56 w' w.heap.size (fun k_ => some k_ ≠ (.slice (some ad165) t162.length co6 : Value).ownBlock ∧ k_ ≠ gb161) (.slice A165_1 ((rd_T24 t162 x12_1).f1).length c165_1) ((rd_T24 t162 x12_1).f1)) ∧ (Kd.S k24 24 w' w.heap.size (fun k_ => k_ ≠ gb161 ∧ k_ ≠ gb166 ∧ k_ ≠ s_) (.slice (some ad165) t162.length co6) t162) ∧ (Kd.S k32 32 w' w.heap.size (fun _ => True) u3 x3_1) ∧ (w'.heap[gb161]? = some (.cells #[.string a0_0, .slice A0_1 l0_1.length c0_1] 24 (0, 0))) ∧ (w'.heap[gb166]? = some (.cells #[.string ((rd_T24 t162 x12_1).f0), .slice A165_1 ((rd_T24 t162 x12_1).f1).length c165_1] 24 (0, 0))) ∧ (w'.heap[s_]? = some (.cells #[.string (⟨#[]⟩ : ByteArray), .slice none 0 0] 24 (0, 0))) ∧ (w.heap.size ≤ s_) ∧ (w.heap.size ≤ s_) ∧ (gb161 ≠ s_) ∧ (s_ ≠ gb161) ∧ (gb166 ≠ s_) ∧ (s_ ≠ gb166) ∧ (Below w.heap.size w w')) ?_ ?_
        ·
         ·
          skip
          rintro gb177 w28 ⟨hS_, h0_, h1_, h2_, h3_, h4_, h5_, h6_, h7_, h8_, h9_, h10_, h11_, h12_⟩
          have n0_ := Aside0.mk h0_
          have n1_ := Aside0.mk h1_
          have n2_ := Aside0.mk h2_
          have n3_ := Aside0.mk h3_
          have n4_ := Aside0.mk h4_
          have n5_ := Aside0.mk h5_
          have n6_ := Aside0.mk h6_
          have n7_ := Aside0.mk h7_
          have n8_ := Aside0.mk h8_
          have n9_ := Aside0.mk h9_
          have n10_ := Aside0.mk h10_
          have n11_ := Aside0.mk h11_
          have n12_ := Aside0.mk h12_
          clear HO_3
          clear HO_10
          clear HL165_1
          clear BK161
          clear BK166
          clear HR165_1
          clear HB
          clear h0_ h1_ h2_ h3_ h4_ h5_ h6_ h7_ h8_ h9_ h10_ h11_ h12_
          have HL165_1 := n0_
          have HO_10 := n1_
          have HO_3 := n2_
          have BK161 := n3_
          have BK166 := n4_
          have BK177 := n5_
          have GW177 := n6_
          have GE177 := n7_
          have NB161_177 := n8_
          have NB177_161 := n9_
          have NB166_177 := n10_
          have NB177_166 := n11_
          have HB := n12_
          clear n0_ n1_ n2_ n3_ n4_ n5_ n6_ n7_ n8_ n9_ n10_ n11_ n12_
          have hHeld := hS_
          refine norm_ (a' := ?_) ?_ ?_
          rotate_left
          ·
           simp only [putAll, Act.put, List.setIfInBounds_toArray, List.set_cons_zero, List.set_cons_succ]
           rfl
          refine two_ (i := 2) (j := 10) (Ni := some 22) (Nj := some 7) #[true, true, true, true, true, true, true, true, true, false, false, true, false, false] #[true, true, false, true, true, true, true, true, true, false, true, true, false, false] rfl rfl rfl rfl (two_of HT_.out (by kernel_rfl)) (by decide) (by decide) (fun K hK => ?_) (fun K hK => ?_)
          ·
           skip
           refine goes_ Tryd.func37 (by kernel_rfl) rfl #[.agg #[.string ((rd_T24 t162 x12_1).f0), .slice A165_1 ((rd_T24 t162 x12_1).f1).length c165_1], .int .i64 0, .int .i64 t167] (by rfl) rfl rfl (by (try simp only [List.map_toArray, List.map_cons, List.map_nil]); first | done | rfl | (simp only [List.length_drop, List.length_take]; rfl)) ?_
           with_reducible refine (mark_Cut.calls k1 ((rd_T24 t162 x12_1).f0) _ _ ((rd_T24 t162 x12_1).f1) 0 t167 t168 t169 _ ?side1 ?side2 A16.out).mono ?_
           (case side1 => repeat (first | exact ((Kd.R_reads' (Kd.R_go HL165_1.out)).2.2) | (with_reducible refine Kd.C_alloc ?_ _) | (with_reducible refine Kd.C_drewN ?_ _) | (with_reducible refine Kd.C_drew ?_)))
           (case side2 => exact HC165_1.out)
           rintro e w29 ⟨v170, rfl, ho0, hb⟩
           refine ⟨_, rfl, ?_⟩
           have n0_ := Aside0.mk (Kd.S_elder' (by (with_reducible repeat (first | apply Kd.S_alloc | apply Kd.S_drewN | apply Kd.S_drew)); exact HO_3.out) (Kd.R_base ho0) hb)
           have n1_ := Aside0.mk (Kd.S_elder' (by (with_reducible repeat (first | apply Kd.S_alloc | apply Kd.S_drewN | apply Kd.S_drew)); exact HO_10.out) (Kd.R_base ho0) hb)
           have n2_ := Aside0.mk (Kd.R_elder' (Kd.R_go HL165_1.out) (Kd.R_base ho0) hb)
           have n3_ := Aside0.mk (Kd.R_lower (Kd.R_new' ho0 (Kd.R_lt (Kd.R_go HL165_1.out))) (below_size (by repeat (first | (with_reducible first | exact HB.out | apply below_alloc | apply pw_below_drewN | apply below_drew1 | refine below_set ?_ GE161.out | refine below_set ?_ GE166.out | refine below_set ?_ GE177.out) | exact HB.out))))
           have n4_ := Aside0.mk (blk_below (blk_go BK161.out) hb)
           have n5_ := Aside0.mk (blk_below (blk_go BK166.out) hb)
           have n6_ := Aside0.mk (blk_below (blk_go BK177.out) hb)
           have n7_ := Aside0.mk (below_step (by repeat (first | (with_reducible first | exact HB.out | apply below_alloc | apply pw_below_drewN | apply below_drew1 | refine below_set ?_ GE161.out | refine below_set ?_ GE166.out | refine below_set ?_ GE177.out) | exact HB.out)) hb)
           clear HO_3
           clear HO_10
           clear HL165_1
           clear BK161
           clear BK166
           clear BK177
           clear HB
           have HO_3 := n0_
           have HO_10 := n1_
           have HL165_1 := n2_
           have HO171 := n3_
           have BK161 := n4_
           have BK166 := n5_
           have BK177 := n6_
           have HB := n7_
           clear n0_ n1_ n2_ n3_ n4_ n5_ n6_ n7_
           (try clear hb)
           (try clear hb2)
           (try clear hk)
           (try clear hi)
           (try clear ho0)
           refine hK.out _ _ ⟨(blk_cell BK166.out 0).trans rfl, (blk_cell BK166.out 1).trans rfl⟩ (fun hHeld => ?_)
           clear hK K
           refine norm_ (a' := ?_) ?_ ?_
           rotate_left
           ·
            show Act.put _ (some 22) _ = _
            simp only [Act.put, List.setIfInBounds_toArray, List.set_cons_zero, List.set_cons_succ, i64_w, i32_w]
            rfl
           exact norm_ (by simp only [putAll, Act.put, List.setIfInBounds_toArray, List.set_cons_zero, List.set_cons_succ]; try rfl) (hJ2_11 (v170, gb177) _ ⟨hHeld, (Kd.R_go (Kd.R_mono HL165_1.out (fun _ hk => ⟨hk.2, ⟨hk.1.1, hk.1.2⟩⟩))), (Kd.R_go (Kd.R_mono HO171.out (fun _ hk => hk.2))), (by (with_reducible repeat (first | apply Kd.S_alloc | apply Kd.S_drewN | apply Kd.S_drew)); exact Kd.S_mono HO_10.out (fun _ hk => ⟨hk.2, ⟨hk.1.1, ⟨hk.1.2.1, hk.1.2.2⟩⟩⟩)), (by (with_reducible repeat (first | apply Kd.S_alloc | apply Kd.S_drewN | apply Kd.S_drew)); exact Kd.S_mono HO_3.out (fun _ hk => hk.2)), (blk_go BK161.out), (blk_go BK166.out), (blk_go BK177.out), GW177.out, GE177.out, NB161_177.out, NB177_161.out, NB166_177.out, NB177_166.out, (by repeat (first | (with_reducible first | exact HB.out | apply below_alloc | apply pw_below_drewN | apply below_drew1 | refine below_set ?_ GE161.out | refine below_set ?_ GE166.out | refine below_set ?_ GE177.out) | exact HB.out))⟩)
          ·
           skip
           refine box_step ?hg (N := 7) ?hd (cs := #[.string (⟨#[]⟩ : ByteArray), .slice none 0 0]) (t := 24) ?hr ?_; (case hd => rfl); (case hg => rfl); (case hr => first | (go_simp; done) | (go_simp; rfl))
           intro gb176 hg w29 hbox hb
           have n0_ := Aside0.mk (Kd.S_below (by (with_reducible repeat (first | apply Kd.S_alloc | apply Kd.S_drewN | apply Kd.S_drew)); exact HO_3.out) hb)
           have n1_ := Aside0.mk (Kd.S_below (Kd.S_elderB (by (with_reducible repeat (first | apply Kd.S_alloc | apply Kd.S_drewN | apply Kd.S_drew)); exact HO_10.out) gb176 (Nat.le_of_eq hg.symm)) hb)
           have n2_ := Aside0.mk (Kd.R_below (Kd.R_go HL165_1.out) hb)
           have n3_ := Aside0.mk (blk_below (blk_go BK161.out) hb)
           have n4_ := Aside0.mk (blk_below (blk_go BK166.out) hb)
           have n5_ := Aside0.mk (blk_below (blk_go BK177.out) hb)
           have n6_ := Aside0.mk (below_step (by repeat (first | (with_reducible first | exact HB.out | apply below_alloc | apply pw_below_drewN | apply below_drew1 | refine below_set ?_ GE161.out | refine below_set ?_ GE166.out | refine below_set ?_ GE177.out) | exact HB.out)) hb)
           have n7_ := Aside0.mk (hbox)
           have n8_ := Aside0.mk ((by rw [hg]; exact (below_size (by repeat (first | (with_reducible first | exact HB.out | apply below_alloc | apply pw_below_drewN | apply below_drew1 | refine below_set ?_ GE161.out | refine below_set ?_ GE166.out | refine below_set ?_ GE177.out) | exact HB.out))) : w.heap.size ≤ gb176))
           have n9_ := Aside0.mk ((by rw [hg]; exact (below_size (by repeat (first | (with_reducible first | exact HB.out | apply below_alloc | apply pw_below_drewN | apply below_drew1 | refine below_set ?_ GE161.out | refine below_set ?_ GE166.out | refine below_set ?_ GE177.out) | exact HB.out))) : w.heap.size ≤ gb176))
           have n10_ := Aside0.mk ((by rw [hg]; exact Nat.ne_of_lt (blk_lt (g := gb161) (o := .cells #[.string a0_0, .slice A0_1 l0_1.length c0_1] 24 (0, 0)) (blk_go BK161.out)) : gb161 ≠ gb176))
           have n11_ := Aside0.mk (blk_apart hg (blk_go BK161.out) : gb176 ≠ gb161)
           have n12_ := Aside0.mk ((by rw [hg]; exact Nat.ne_of_lt (blk_lt (g := gb166) (o := .cells #[.string ((rd_T24 t162 x12_1).f0), .slice A165_1 ((rd_T24 t162 x12_1).f1).length c165_1] 24 (0, 0)) (blk_go BK166.out)) : gb166 ≠ gb176))
           have n13_ := Aside0.mk (blk_apart hg (blk_go BK166.out) : gb176 ≠ gb166)
           have n14_ := Aside0.mk ((by rw [hg]; exact Nat.ne_of_lt (blk_lt (g := gb177) (o := .cells #[.string (⟨#[]⟩ : ByteArray), .slice none 0 0] 24 (0, 0)) (blk_go BK177.out)) : gb177 ≠ gb176))
           have n15_ := Aside0.mk (blk_apart hg (blk_go BK177.out) : gb176 ≠ gb177)
           clear HO_3
           clear HO_10
           clear HL165_1
           clear BK161
           clear BK166
           clear BK177
           clear HB
           have HO_3 := n0_
           have HO_10 := n1_
           have HL165_1 := n2_
           have BK161 := n3_
           have BK166 := n4_
           have BK177 := n5_
           have HB := n6_
           have BK176 := n7_
           have GW176 := n8_
           have GE176 := n9_
           have NB161_176 := n10_
           have NB176_161 := n11_
           have NB166_176 := n12_
           have NB176_166 := n13_
           have NB177_176 := n14_
           have NB176_177 := n15_
           clear n0_ n1_ n2_ n3_ n4_ n5_ n6_ n7_ n8_ n9_ n10_ n11_ n12_ n13_ n14_ n15_
           clear hb hbox hg
           refine hK.out _ _ ⟨(blk_cell BK166.out 0).trans rfl, (blk_cell BK166.out 1).trans rfl⟩ (fun hHeld => ?_)
           clear hK K
           refine norm_ (a' := ?_) ?_ ?_
           rotate_left
           ·
            show Act.put _ (some 7) _ = _
            simp only [Act.put, List.setIfInBounds_toArray, List.set_cons_zero, List.set_cons_succ, i64_w, i32_w]
            rfl
           exact norm_ (by simp only [putAll, Act.put, List.setIfInBounds_toArray, List.set_cons_zero, List.set_cons_succ]; try rfl) (hJ10_11 (gb176, gb177) _ ⟨hHeld, (Kd.R_go HL165_1.out), (by (with_reducible repeat (first | apply Kd.S_alloc | apply Kd.S_drewN | apply Kd.S_drew)); exact Kd.S_mono HO_10.out (fun _ hk => ⟨hk.1.1, ⟨hk.1.2.1, ⟨hk.2, hk.1.2.2⟩⟩⟩)), (by (with_reducible repeat (first | apply Kd.S_alloc | apply Kd.S_drewN | apply Kd.S_drew)); exact HO_3.out), (blk_go BK161.out), (blk_go BK166.out), (blk_go BK176.out), (blk_go BK177.out), GW176.out, GE176.out, NB161_176.out, NB176_161.out, NB166_176.out, NB176_166.out, NB177_176.out, NB176_177.out, GW177.out, GE177.out, NB161_177.out, NB177_161.out, NB166_177.out, NB177_166.out, (by repeat (first | (with_reducible first | exact HB.out | apply below_alloc | apply pw_below_drewN | apply below_drew1 | refine below_set ?_ GE161.out | refine below_set ?_ GE166.out | refine below_set ?_ GE177.out | refine below_set ?_ GE176.out) | exact HB.out))⟩)
        intro hJ11
        refine three_ (i := 2) (j := 10) (k := 11) (Ni := some 22) (Nj := some 7) (Nk := some 8) #[true, true, true, true, true, true, true, true, true, false, false, false, false, false] #[true, true, false, true, true, true, true, true, true, false, true, false, false, false] #[true, true, false, true, true, true, true, true, true, false, false, true, false, false] rfl rfl rfl rfl rfl rfl (three_of HT_.out (by kernel_rfl)) (by decide) (by decide) (by decide) (fun K hK => ?_) (fun K hK => ?_) (fun K hK => ?_)
        ·
         skip
         refine goes_ Tryd.func37 (by kernel_rfl) rfl #[.agg #[.string ((rd_T24 t162 x12_1).f0), .slice A165_1 ((rd_T24 t162 x12_1).f1).length c165_1], .int .i64 0, .int .i64 t167] (by rfl) rfl rfl (by (try simp only [List.map_toArray, List.map_cons, List.map_nil]); first | done | rfl | (simp only [List.length_drop, List.length_take]; rfl)) ?_
         with_reducible refine (mark_Cut.calls k1 ((rd_T24 t162 x12_1).f0) _ _ ((rd_T24 t162 x12_1).f1) 0 t167 t168 t169 _ ?side1 ?side2 A16.out).mono ?_
         (case side1 => repeat (first | exact (by repeat (first | (with_reducible exact HR165_1.out) | (with_reducible refine Kd.C_alloc ?_ _) | (with_reducible refine Kd.C_drewN ?_ _) | (with_reducible refine Kd.C_drew ?_) | exact HR165_1.out)) | (with_reducible refine Kd.C_alloc ?_ _) | (with_reducible refine Kd.C_drewN ?_ _) | (with_reducible refine Kd.C_drew ?_)))
         (case side2 => exact HC165_1.out)
         rintro e w27 ⟨v170, rfl, ho0, hb⟩
         refine ⟨_, rfl, ?_⟩
         have n0_ := Aside0.mk (Kd.S_elder' (by (with_reducible repeat (first | apply Kd.S_alloc | apply Kd.S_drewN | apply Kd.S_drew)); exact HO_3.out) (Kd.R_base ho0) hb)
         have n1_ := Aside0.mk (Kd.S_elder' (by (with_reducible repeat (first | apply Kd.S_alloc | apply Kd.S_drewN | apply Kd.S_drew)); exact HO_10.out) (Kd.R_base ho0) hb)
         have n2_ := Aside0.mk (Kd.R_elder' (Kd.R_go HL165_1.out) (Kd.R_base ho0) hb)
         have n3_ := Aside0.mk (Kd.R_lower (Kd.R_new' ho0 (Kd.R_lt (Kd.R_go HL165_1.out))) (below_size (by repeat (first | (with_reducible first | exact HB.out | apply below_alloc | apply pw_below_drewN | apply below_drew1 | refine below_set ?_ GE161.out | refine below_set ?_ GE166.out) | exact HB.out))))
         have n4_ := Aside0.mk (blk_below (blk_go BK161.out) hb)
         have n5_ := Aside0.mk (Kd.C_below (by repeat (first | (with_reducible exact HR165_1.out) | (with_reducible refine Kd.C_alloc ?_ _) | (with_reducible refine Kd.C_drewN ?_ _) | (with_reducible refine Kd.C_drew ?_) | exact HR165_1.out)) hb)
         have n6_ := Aside0.mk (blk_below (blk_go BK166.out) hb)
         have n7_ := Aside0.mk (below_step (by repeat (first | (with_reducible first | exact HB.out | apply below_alloc | apply pw_below_drewN | apply below_drew1 | refine below_set ?_ GE161.out | refine below_set ?_ GE166.out) | exact HB.out)) hb)
         clear HO_3
         clear HO_10
         clear HL165_1
         clear BK161
         clear HR165_1
         clear BK166
         clear HB
         have HO_3 := n0_
         have HO_10 := n1_
         have HL165_1 := n2_
         have HO171 := n3_
         have BK161 := n4_
         have HR165_1 := n5_
         have BK166 := n6_
         have HB := n7_
         clear n0_ n1_ n2_ n3_ n4_ n5_ n6_ n7_
         (try clear hb)
         (try clear hb2)
         (try clear hk)
         (try clear hi)
         (try clear ho0)
         refine hK.out _ _ ⟨(blk_cell BK166.out 0).trans rfl, (blk_cell BK166.out 1).trans rfl⟩ (fun hHeld => ?_)
         clear hK K
         refine norm_ (a' := ?_) ?_ ?_
         rotate_left
         ·
          show Act.put _ (some 22) _ = _
          simp only [Act.put, List.setIfInBounds_toArray, List.set_cons_zero, List.set_cons_succ, i64_w, i32_w]
          rfl
         exact norm_ (by simp only [putAll, Act.put, List.setIfInBounds_toArray, List.set_cons_zero, List.set_cons_succ]; try rfl) (hJ2 (v170) _ ⟨hHeld, (Kd.R_go (Kd.R_mono HL165_1.out (fun _ hk => ⟨hk.2, ⟨hk.1.2, hk.1.1⟩⟩))), (Kd.R_go (Kd.R_mono HO171.out (fun _ hk => hk.2))), (by (with_reducible repeat (first | apply Kd.S_alloc | apply Kd.S_drewN | apply Kd.S_drew)); exact Kd.S_mono HO_10.out (fun _ hk => ⟨hk.2, ⟨hk.1.1, hk.1.2⟩⟩)), (by (with_reducible repeat (first | apply Kd.S_alloc | apply Kd.S_drewN | apply Kd.S_drew)); exact Kd.S_mono HO_3.out (fun _ hk => hk.2)), (blk_go BK161.out), (blk_go BK166.out), (by repeat (first | (with_reducible first | exact HB.out | apply below_alloc | apply pw_below_drewN | apply below_drew1 | refine below_set ?_ GE161.out | refine below_set ?_ GE166.out) | exact HB.out))⟩)
        ·
         skip
         refine box_step ?hg (N := 7) ?hd (cs := #[.string (⟨#[]⟩ : ByteArray), .slice none 0 0]) (t := 24) ?hr ?_; (case hd => rfl); (case hg => rfl); (case hr => first | (go_simp; done) | (go_simp; rfl))
         intro gb176 hg w27 hbox hb
         have n0_ := Aside0.mk (Kd.S_below (by (with_reducible repeat (first | apply Kd.S_alloc | apply Kd.S_drewN | apply Kd.S_drew)); exact HO_3.out) hb)
         have n1_ := Aside0.mk (Kd.S_below (Kd.S_elderB (by (with_reducible repeat (first | apply Kd.S_alloc | apply Kd.S_drewN | apply Kd.S_drew)); exact HO_10.out) gb176 (Nat.le_of_eq hg.symm)) hb)
         have n2_ := Aside0.mk (Kd.R_below (Kd.R_go HL165_1.out) hb)
         have n3_ := Aside0.mk (blk_below (blk_go BK161.out) hb)
         have n4_ := Aside0.mk (Kd.C_below (by repeat (first | (with_reducible exact HR165_1.out) | (with_reducible refine Kd.C_alloc ?_ _) | (with_reducible refine Kd.C_drewN ?_ _) | (with_reducible refine Kd.C_drew ?_) | exact HR165_1.out)) hb)
         have n5_ := Aside0.mk (blk_below (blk_go BK166.out) hb)
         have n6_ := Aside0.mk (below_step (by repeat (first | (with_reducible first | exact HB.out | apply below_alloc | apply pw_below_drewN | apply below_drew1 | refine below_set ?_ GE161.out | refine below_set ?_ GE166.out) | exact HB.out)) hb)
         have n7_ := Aside0.mk (hbox)
         have n8_ := Aside0.mk ((by rw [hg]; exact (below_size (by repeat (first | (with_reducible first | exact HB.out | apply below_alloc | apply pw_below_drewN | apply below_drew1 | refine below_set ?_ GE161.out | refine below_set ?_ GE166.out) | exact HB.out))) : w.heap.size ≤ gb176))
         have n9_ := Aside0.mk ((by rw [hg]; exact (below_size (by repeat (first | (with_reducible first | exact HB.out | apply below_alloc | apply pw_below_drewN | apply below_drew1 | refine below_set ?_ GE161.out | refine below_set ?_ GE166.out) | exact HB.out))) : w.heap.size ≤ gb176))
         have n10_ := Aside0.mk ((by rw [hg]; exact Nat.ne_of_lt (blk_lt (g := gb161) (o := .cells #[.string a0_0, .slice A0_1 l0_1.length c0_1] 24 (0, 0)) (blk_go BK161.out)) : gb161 ≠ gb176))
         have n11_ := Aside0.mk (blk_apart hg (blk_go BK161.out) : gb176 ≠ gb161)
         have n12_ := Aside0.mk ((by rw [hg]; exact Nat.ne_of_lt (blk_lt (g := gb166) (o := .cells #[.string ((rd_T24 t162 x12_1).f0), .slice A165_1 ((rd_T24 t162 x12_1).f1).length c165_1] 24 (0, 0)) (blk_go BK166.out)) : gb166 ≠ gb176))
         have n13_ := Aside0.mk (blk_apart hg (blk_go BK166.out) : gb176 ≠ gb166)
         clear HO_3
         clear HO_10
         clear HL165_1
         clear BK161
         clear HR165_1
         clear BK166
         clear HB
         have HO_3 := n0_
         have HO_10 := n1_
         have HL165_1 := n2_
         have BK161 := n3_
         have HR165_1 := n4_
         have BK166 := n5_
         have HB := n6_
         have BK176 := n7_
         have GW176 := n8_
         have GE176 := n9_
         have NB161_176 := n10_
         have NB176_161 := n11_
         have NB166_176 := n12_
         have NB176_166 := n13_
         clear n0_ n1_ n2_ n3_ n4_ n5_ n6_ n7_ n8_ n9_ n10_ n11_ n12_ n13_
         clear hb hbox hg
         refine hK.out _ _ ⟨(blk_cell BK166.out 0).trans rfl, (blk_cell BK166.out 1).trans rfl⟩ (fun hHeld => ?_)
         clear hK K
         refine norm_ (a' := ?_) ?_ ?_
         rotate_left
         ·
          show Act.put _ (some 7) _ = _
          simp only [Act.put, List.setIfInBounds_toArray, List.set_cons_zero, List.set_cons_succ, i64_w, i32_w]
          rfl
         exact norm_ (by simp only [putAll, Act.put, List.setIfInBounds_toArray, List.set_cons_zero, List.set_cons_succ]; try rfl) (hJ10 (gb176) _ ⟨hHeld, (Kd.R_go (Kd.R_mono HL165_1.out (fun _ hk => ⟨hk.2, hk.1⟩))), (by (with_reducible repeat (first | apply Kd.S_alloc | apply Kd.S_drewN | apply Kd.S_drew)); exact Kd.S_mono HO_10.out (fun _ hk => ⟨hk.1.1, ⟨hk.1.2, hk.2⟩⟩)), (by (with_reducible repeat (first | apply Kd.S_alloc | apply Kd.S_drewN | apply Kd.S_drew)); exact HO_3.out), (blk_go BK161.out), (blk_go BK166.out), (blk_go BK176.out), GW176.out, GE176.out, NB161_176.out, NB176_161.out, NB166_176.out, NB176_166.out, (by repeat (first | (with_reducible first | exact HB.out | apply below_alloc | apply pw_below_drewN | apply below_drew1 | refine below_set ?_ GE161.out | refine below_set ?_ GE166.out | refine below_set ?_ GE176.out) | exact HB.out))⟩)
        ·
         skip
         refine box_step ?hg (N := 8) ?hd (cs := #[.string (⟨#[]⟩ : ByteArray), .slice none 0 0]) (t := 24) ?hr ?_; (case hd => rfl); (case hg => rfl); (case hr => first | (go_simp; done) | (go_simp; rfl))
         intro gb177 hg w27 hbox hb
         have n0_ := Aside0.mk (Kd.S_below (by (with_reducible repeat (first | apply Kd.S_alloc | apply Kd.S_drewN | apply Kd.S_drew)); exact HO_3.out) hb)
         have n1_ := Aside0.mk (Kd.S_below (Kd.S_elderB (by (with_reducible repeat (first | apply Kd.S_alloc | apply Kd.S_drewN | apply Kd.S_drew)); exact HO_10.out) gb177 (Nat.le_of_eq hg.symm)) hb)
         have n2_ := Aside0.mk (Kd.R_below (Kd.R_go HL165_1.out) hb)
         have n3_ := Aside0.mk (blk_below (blk_go BK161.out) hb)
         have n4_ := Aside0.mk (Kd.C_below (by repeat (first | (with_reducible exact HR165_1.out) | (with_reducible refine Kd.C_alloc ?_ _) | (with_reducible refine Kd.C_drewN ?_ _) | (with_reducible refine Kd.C_drew ?_) | exact HR165_1.out)) hb)
         have n5_ := Aside0.mk (blk_below (blk_go BK166.out) hb)
         have n6_ := Aside0.mk (below_step (by repeat (first | (with_reducible first | exact HB.out | apply below_alloc | apply pw_below_drewN | apply below_drew1 | refine below_set ?_ GE161.out | refine below_set ?_ GE166.out) | exact HB.out)) hb)
         have n7_ := Aside0.mk (hbox)
         have n8_ := Aside0.mk ((by rw [hg]; exact (below_size (by repeat (first | (with_reducible first | exact HB.out | apply below_alloc | apply pw_below_drewN | apply below_drew1 | refine below_set ?_ GE161.out | refine below_set ?_ GE166.out) | exact HB.out))) : w.heap.size ≤ gb177))
         have n9_ := Aside0.mk ((by rw [hg]; exact (below_size (by repeat (first | (with_reducible first | exact HB.out | apply below_alloc | apply pw_below_drewN | apply below_drew1 | refine below_set ?_ GE161.out | refine below_set ?_ GE166.out) | exact HB.out))) : w.heap.size ≤ gb177))
         have n10_ := Aside0.mk ((by rw [hg]; exact Nat.ne_of_lt (blk_lt (g := gb161) (o := .cells #[.string a0_0, .slice A0_1 l0_1.length c0_1] 24 (0, 0)) (blk_go BK161.out)) : gb161 ≠ gb177))
         have n11_ := Aside0.mk (blk_apart hg (blk_go BK161.out) : gb177 ≠ gb161)
         have n12_ := Aside0.mk ((by rw [hg]; exact Nat.ne_of_lt (blk_lt (g := gb166) (o := .cells #[.string ((rd_T24 t162 x12_1).f0), .slice A165_1 ((rd_T24 t162 x12_1).f1).length c165_1] 24 (0, 0)) (blk_go BK166.out)) : gb166 ≠ gb177))
         have n13_ := Aside0.mk (blk_apart hg (blk_go BK166.out) : gb177 ≠ gb166)
         clear HO_3
         clear HO_10
         clear HL165_1
         clear BK161
         clear HR165_1
         clear BK166
         clear HB
         have HO_3 := n0_
         have HO_10 := n1_
         have HL165_1 := n2_
         have BK161 := n3_
         have HR165_1 := n4_
         have BK166 := n5_
         have HB := n6_
         have BK177 := n7_
         have GW177 := n8_
         have GE177 := n9_
         have NB161_177 := n10_
         have NB177_161 := n11_
         have NB166_177 := n12_
         have NB177_166 := n13_
         clear n0_ n1_ n2_ n3_ n4_ n5_ n6_ n7_ n8_ n9_ n10_ n11_ n12_ n13_
         clear hb hbox hg
         refine hK.out _ _ ⟨(blk_cell BK166.out 0).trans rfl, (blk_cell BK166.out 1).trans rfl⟩ (fun hHeld => ?_)
         clear hK K
         refine norm_ (a' := ?_) ?_ ?_
         rotate_left
         ·
          show Act.put _ (some 8) _ = _
          simp only [Act.put, List.setIfInBounds_toArray, List.set_cons_zero, List.set_cons_succ, i64_w, i32_w]
          rfl
         exact norm_ (by simp only [putAll, Act.put, List.setIfInBounds_toArray, List.set_cons_zero, List.set_cons_succ]; try rfl) (hJ11 (gb177) _ ⟨hHeld, (Kd.R_go (Kd.R_mono HL165_1.out (fun _ hk => ⟨hk.2, hk.1⟩))), (by (with_reducible repeat (first | apply Kd.S_alloc | apply Kd.S_drewN | apply Kd.S_drew)); exact Kd.S_mono HO_10.out (fun _ hk => ⟨hk.1.1, ⟨hk.1.2, hk.2⟩⟩)), (by (with_reducible repeat (first | apply Kd.S_alloc | apply Kd.S_drewN | apply Kd.S_drew)); exact HO_3.out), (blk_go BK161.out), (blk_go BK166.out), (blk_go BK177.out), GW177.out, GE177.out, NB161_177.out, NB177_161.out, NB166_177.out, NB177_166.out, (by repeat (first | (with_reducible first | exact HB.out | apply below_alloc | apply pw_below_drewN | apply below_drew1 | refine below_set ?_ GE161.out | refine below_set ?_ GE166.out | refine below_set ?_ GE177.out) | exact HB.out))⟩)
       ·
        rw [if_neg c21] at H
        exact absurd H (by simp)
     ·
      rw [if_neg c9] at H
      exact absurd H (by simp)
    ·
     rw [if_neg c8] at H
     exact absurd H (by simp)
   ·
    rw [if_neg c7] at H
    have c7b0 : decide (x12_1 < (t162.length : Int)) = false := decide_eq_false c7
    clear c7
    obtain rfl := Option.some.inj H
    go_wp2
    go_ret
    exact ⟨_, by first | rfl | (simp [errW_none, errW_some] <;> rfl) | (simp [*, errW_none, errW_some] <;> rfl), by (with_reducible repeat (first | apply Kd.S_alloc | apply Kd.S_drewN | apply Kd.S_drew)); exact HO_3.out, by repeat (first | (with_reducible first | exact HB.out | apply below_alloc | apply pw_below_drewN | apply below_drew1 | refine below_set ?_ GE161.out) | exact HB.out)⟩

end Go.Proofs.YtljmmhihdcnbaaaDoor.G
