-- Written for this claim by hybrid.py's copy of the print program (a program of this session); not trusted: Lean checks it.
import Derived.Test.YtljmmhihdcnbaaaG0
import Derived.Test.YtljmmhihdcnbaaaG81
namespace Go.Proofs.Ytljmmhihdcnbaaa.G
open Go.RowKit Go.Proofs.YtljmmhihdcnbaaaW.PrintWords Go.Proofs.YtljmmhihdcnbaaaW.PrintLast Go.Proofs.YtljmmhihdcnbaaaW.PrintMore
attribute [local go_sem] max2_int min2_int max_two min_two max_three min_three max_four min_four   -- for this text's walks alone
set_option linter.unusedVariables false
set_option linter.unusedSimpArgs false

/-! ### seek_Fields: function 65 -/
def seek_Fields.l0 : Nat → List (S24) → List (S24) → Int → Int → Option ((List (S24)))
 | 0, _, _, _, _ => none
 | k + 1, x3, x7, x8, x9 => if x9 < x8 then (if 0 ≤ x9 then (if x9 < (x7.length : Int) then (if ((rd_T24 x7 x9).f0).toList = ([] : List UInt8) then (seek_Fields.l0 k x3 x7 x8 (wrap64 (x9 + 1))) else (if x3.length < 3518437208883 then (seek_Fields.l0 k (x3 ++ [(⟨(rd_T24 x7 x9).f0, (rd_T24 x7 x9).f1⟩ : S24)]) x7 x8 (wrap64 (x9 + 1))) else (none))) else (none)) else (none)) else (some x3)
def seek_Fields.f (k : Nat) (a0_0 : ByteArray) (l0_1 : List (S85)) : Option ((List (S24))) := (seek_cuts.f k a0_0 l0_1 (⟨#[9, 10, 12, 13, 32]⟩ : ByteArray)).bind fun t961 => (seek_Fields.l0 k ([] : List (S24)) t961 (t961.length : Int) 0)
theorem seek_Fields.mono_l : ∀ k, (∀ y0 y1 y2 y3, LeO (seek_Fields.l0 k y0 y1 y2 y3) (seek_Fields.l0 (k + 1) y0 y1 y2 y3))
 | 0 => fun _ _ _ _ r h => by simp [seek_Fields.l0] at h
 | k + 1 => by
  have ih0 := seek_Fields.mono_l k
  ·
   intro y0 y1 y2 y3
   unfold seek_Fields.l0
   repeat' first
   | (with_reducible exact ih0 _ _ _ _)
   | (with_reducible exact seek_cuts.mono _ _ _ _)
   | (with_reducible exact LeO.refl _)
   | (with_reducible exact LeO.none _)
   | (with_reducible refine LeO.ite ?_ ?_)
   | (with_reducible refine LeO.bind ?_ (fun _ => ?_))
   | exact ih0 _ _ _ _
   | exact seek_cuts.mono _ _ _ _
   | exact LeO.none _
   | refine LeO.ite ?_ ?_
   | refine LeO.bind ?_ (fun _ => ?_)
theorem seek_Fields.mono : ∀ a0 a1 k, LeO (seek_Fields.f k a0 a1) (seek_Fields.f (k + 1) a0 a1) := by
 intro a0 a1 k
 have ih0 := seek_Fields.mono_l k
 unfold seek_Fields.f
 repeat' first
   | (with_reducible exact ih0 _ _ _ _)
   | (with_reducible exact seek_cuts.mono _ _ _ _)
   | (with_reducible exact LeO.refl _)
   | (with_reducible exact LeO.none _)
   | (with_reducible refine LeO.ite ?_ ?_)
   | (with_reducible refine LeO.bind ?_ (fun _ => ?_))
   | exact ih0 _ _ _ _
   | exact seek_cuts.mono _ _ _ _
   | exact LeO.none _
   | refine LeO.ite ?_ ?_
   | refine LeO.bind ?_ (fun _ => ?_)
set_option maxHeartbeats 8000000 in
set_option maxRecDepth 100000 in
theorem seek_Fields.calls (k : Nat) (a0_0 : ByteArray) (A0_1 : Option Addr) (c0_1 : Nat) (l0_1 : List (S85)) (r : List (S24)) (w : World) (hr0_1 : Kd.C k85 w A0_1 l0_1.length l0_1) (hc0_1 : l0_1.length ≤ c0_1) (h : seek_Fields.f k a0_0 l0_1 = some r) :
  Calls Try.prog 65 #[.agg #[.string a0_0, .slice A0_1 l0_1.length c0_1]] w fun e w' => ∃ v0_ : Value, e = .returned (v0_) ∧ Kd.N k24 24 w' w.heap.size (fun k_ => (w.heap.size ≤ k_)) v0_ r ∧ Below w.heap.size w w' := by
 have hu24 := Try.underlying24
 have HR0_1 := Aside0.mk hr0_1
 have HC0_1 := Aside0.mk hc0_1
 clear hr0_1 hc0_1
 have HB := Aside0.mk (Below.refl w.heap.size w)
 have H : ((seek_cuts.f k a0_0 l0_1 (⟨#[9, 10, 12, 13, 32]⟩ : ByteArray)).bind fun t961 => (seek_Fields.l0 k ([] : List (S24)) t961 (t961.length : Int) 0)) = some r := h
 clear h
 replace H := Option.bind_eq_some_iff.mp H
 obtain ⟨t961, A20, H⟩ := H
 replace H : (seek_Fields.l0 k ([] : List (S24)) t961 (t961.length : Int) 0) = some r := H
 have A2 := Aside0.mk A20
 clear A20
 have H' := Aside0.mk H
 clear H
 go_enter Try.func65, Try.ntmps65
 go_wp2_with (first | ((with_reducible refine gate_dst (N := 1) rfl ?_); refine box_event ?hg (N := 1) ?hd (cs := #[.string a0_0, .slice A0_1 l0_1.length c0_1]) (t := 24) ?hr ?_; (case hd => rfl); (case hg => rfl); (case hr => first | (go_simp; done) | (go_simp; rfl)); intro gb960 hg w3 hbox hb; have n0_ := Aside0.mk (below_step (by repeat (first | (with_reducible first | exact HB.out | apply below_alloc | apply pw_below_drewN | apply below_drew1) | exact HB.out)) hb); have n1_ := Aside0.mk (hbox); have n2_ := Aside0.mk ((by rw [hg]; exact (below_size (by repeat (first | (with_reducible first | exact HB.out | apply below_alloc | apply pw_below_drewN | apply below_drew1) | exact HB.out))) : w.heap.size ≤ gb960)); have n3_ := Aside0.mk ((by rw [hg]; exact (below_size (by repeat (first | (with_reducible first | exact HB.out | apply below_alloc | apply pw_below_drewN | apply below_drew1) | exact HB.out))) : w.heap.size ≤ gb960)); clear HB; have HB := n0_; have BK960 := n1_; have GW960 := n2_; have GE960 := n3_; clear n0_ n1_ n2_ n3_; clear hb hbox hg; have hcz4_0 : w3.cell? ⟨gb960, 0, none⟩ = some (.string a0_0) := (blk_cell BK960.out 0).trans rfl; have hcz4_1 : w3.cell? ⟨gb960, 1, none⟩ = some (.slice A0_1 l0_1.length c0_1) := (blk_cell BK960.out 1).trans rfl; have hfz4_0 := blk_frozen BK960.out 0; have hfz4_1 := blk_frozen BK960.out 1) | ((with_reducible refine gate_callee (f := 108) rfl ?_); refine goesL_ (some 7) rfl rfl Try.func108 (by kernel_rfl) rfl #[.agg #[.string a0_0, .slice A0_1 l0_1.length c0_1], .string (⟨#[9, 10, 12, 13, 32]⟩ : ByteArray)] rfl (by (try simp only [List.map_toArray, List.map_cons, List.map_nil]); first | done | rfl | (simp only [List.length_drop, List.length_take]; rfl)) ?_; (with_reducible refine (seek_cuts.calls k a0_0 _ _ l0_1 (⟨#[9, 10, 12, 13, 32]⟩ : ByteArray) t961 _ ?side1 ?side2 A2.out).mono ?_); (case side1 => repeat (first | exact (Kd.C_below HR0_1.out HB.out) | (with_reducible refine Kd.C_alloc ?_ _) | (with_reducible refine Kd.C_drewN ?_ _) | (with_reducible refine Kd.C_drew ?_))); (case side2 => exact HC0_1.out); rintro e w5 ⟨v962, rfl, ho0, hb⟩; refine ⟨_, rfl, ?_⟩; have n0_ := Aside0.mk (Kd.N_lower (Kd.N_mono (ok' := fun k_ => (w.heap.size ≤ k_) ∧ k_ ≠ gb960) (Kd.S_N (Kd.S_bound ho0)) (fun k_ hk_ => ⟨(Nat.le_trans (below_size (by repeat (first | (with_reducible first | exact HB.out | apply below_alloc | apply pw_below_drewN | apply below_drew1 | refine below_set ?_ GE960.out) | exact HB.out))) hk_.2.1), (Kd.freshB (g := gb960) (o := .cells #[.string a0_0, .slice A0_1 l0_1.length c0_1] 24 (0, 0)) (by (with_reducible repeat (first | refine blk_drewN ?_ _ | refine blk_drew ?_ | refine blk_alloc ?_ _)); exact BK960.out) k_ hk_.2.1)⟩)) (below_size (by repeat (first | (with_reducible first | exact HB.out | apply below_alloc | apply pw_below_drewN | apply below_drew1 | refine below_set ?_ GE960.out) | exact HB.out)))); have n1_ := Aside0.mk (blk_below (g := gb960) (o := .cells #[.string a0_0, .slice A0_1 l0_1.length c0_1] 24 (0, 0)) (by (with_reducible repeat (first | refine blk_drewN ?_ _ | refine blk_drew ?_ | refine blk_alloc ?_ _)); exact BK960.out) hb); have n2_ := Aside0.mk (below_step (by repeat (first | (with_reducible first | exact HB.out | apply below_alloc | apply pw_below_drewN | apply below_drew1 | refine below_set ?_ GE960.out) | exact HB.out)) hb); clear BK960; clear HB; have HO963 := n0_; have BK960 := n1_; have HB := n2_; clear n0_ n1_ n2_; (try clear hb); (try clear hb2); (try clear hk); (try clear hi); (try clear ho0); obtain ⟨Ao6, co6, eo6⟩ := Kd.N_slice HO963.out; subst eo6))
 go_loopg [3, 9] k (fun kq v3 v9 w' => ∃ (x3_1 : List (S24)) (x9_1 : Int), v9 = .int .i64 x9_1 ∧ Aside0 (seek_Fields.l0 kq x3_1 t961 (t961.length : Int) x9_1 = some r) ∧ Aside0 (kq ≤ k) ∧ Aside0 (Kd.N k24 24 w' w.heap.size (fun k_ => (w.heap.size ≤ k_) ∧ some k_ ≠ ((.slice Ao6 t961.length co6) : Value).ownBlock ∧ k_ ≠ gb960) v3 x3_1) ∧ Aside0 (Kd.N k24 24 w' w.heap.size (fun k_ => (w.heap.size ≤ k_) ∧ some k_ ≠ (v3 : Value).ownBlock ∧ k_ ≠ gb960) (.slice Ao6 t961.length co6) t961) ∧ Aside0 (w'.heap[gb960]? = some (.cells #[.string a0_0, (.slice A0_1 l0_1.length c0_1)] 24 (0, 0))) ∧ Aside0 (Below w.heap.size w w'))
 case atStart => exact ⟨(([] : List (S24))), (0), (by first | rfl | (simp; done) | (simp [*]; done)), H', ⟨Nat.le_refl _⟩, ⟨by first | exact Kd.S_nil _ _ _ _ _ | exact Kd.N_nil _ _ _ _ _ | exact Kd.V_nil _ _ _ _ _ | exact Kd.Q_nil _ _ _ _ _ | exact Kd.R_nil _ _ _ _ _⟩, ⟨by (with_reducible repeat (first | apply Kd.N_alloc | apply Kd.N_drewN | apply Kd.N_drew)); exact Kd.N_mono HO963.out (fun _ hk => ⟨hk.1, ⟨(by simp [Value.ownBlock]), hk.2⟩⟩)⟩, ⟨by (with_reducible repeat (first | refine blk_drewN ?_ _ | refine blk_drew ?_ | refine blk_alloc ?_ _)); exact BK960.out⟩, ⟨by repeat (first | (with_reducible first | exact HB.out | apply below_alloc | apply pw_below_drewN | apply below_drew1 | refine below_set ?_ GE960.out) | exact HB.out)⟩⟩
 case round =>
  clear H'
  try clear c1
  try clear p2
  try clear c6
  try clear hcz4_0
  try clear hcz4_1
  try clear hfz4_0
  try clear hfz4_1
  obtain ⟨x3_1, x9_1, rfl, HA, HK1, HO_3, HO_7, BK960, HB⟩ := hrel
  cases gk with
  | zero => exact absurd HA.out (by simp [seek_Fields.l0])
  | succ k1 =>
   have H := HA.out
   clear HA
   simp only [seek_Fields.l0] at H
   by_cases c7 : x9_1 < (t961.length : Int)
   ·
    rw [if_pos c7] at H
    have c7b0 : decide (x9_1 < (t961.length : Int)) = true := decide_eq_true c7
    clear c7
    by_cases c8 : 0 ≤ x9_1
    ·
     rw [if_pos c8] at H
     have c8b0 : decide (0 ≤ x9_1) = true := decide_eq_true c8
     clear c8
     by_cases c9 : x9_1 < (t961.length : Int)
     ·
      rw [if_pos c9] at H
      have c9b0 : decide (x9_1 < (t961.length : Int)) = true := decide_eq_true c9
      clear c9
      by_cases c10 : ((rd_T24 t961 x9_1).f0).toList = ([] : List UInt8)
      ·
       rw [if_pos c10] at H
       have c10b0 : (((rd_T24 t961 x9_1).f0).toList == ([] : List UInt8)) = true := beq_iff_eq.mpr c10
       have c10b1 : (((rd_T24 t961 x9_1).f0).toList != ([] : List UInt8)) = false := bne_eq_false_iff_eq.mpr c10
       clear c10
       have H' := Aside0.mk H
       clear H
       have p964 : 0 ≤ (x9_1 : Int) := of_decide_eq_true (by first | (with_reducible assumption) | assumption)
       have q964 : x9_1 < (t961.length : Int) := of_decide_eq_true (by first | (with_reducible assumption) | assumption)
       obtain ⟨ad964, A964_1, c964_1, e964, hx964_0, hx964_1, hl964_1, hi964_1⟩ := at_T24 (Kd.N_reads' HO_7.out).2.2 x9_1 p964 q964
       cases e964
       obtain ⟨ce964, hce964, hMe964, hcc964⟩ := Kd.N_get HO_7.out z24 x9_1 p964 (by first | exact q964 | exact of_decide_eq_true (by first | (with_reducible assumption) | assumption) | (have e_ := (Kd.N_reads' HO_7.out).1; omega))
       obtain ⟨ua964_1, uc964_1, rfl, ul964_1, ge964_1⟩ := k24_openF hMe964
       have hv964_1 := hcc964 1 _ rfl
       rw [add_field _ _ 1 (by omega)] at hv964_1
       replace hv964_1 := Option.some.inj (hv964_1.symm.trans hx964_1)
       injection hv964_1 with hva_ hvn_ hvc_
       rw [hva_] at ge964_1
       rw [hvc_] at ul964_1
       have HL964_1 := Aside0.mk (show Kd.V k85 85 _ w.heap.size _ _ ((rd_T24 t961 x9_1).f1) from Kd.V_mk ul964_1 ge964_1)
       clear hva_ hvn_ hvc_ ge964_1 ul964_1
       clear hcc964 hce964
       have HR964_1 := Aside0.mk hi964_1
       have HC964_1 := Aside0.mk hl964_1
       clear hi964_1 hl964_1
       replace p964 := eq_true p964
       replace q964 := eq_true q964
       go_wp2_with (first | ((with_reducible refine gate_dst (N := 5) rfl ?_); refine box_event ?hg (N := 5) ?hd (cs := #[.string (⟨#[]⟩ : ByteArray), .slice none 0 0]) (t := 24) ?hr ?_; (case hd => rfl); (case hg => rfl); (case hr => first | (go_simp; done) | (go_simp; rfl)); intro gb965 hg w11 hbox hb; have n0_ := Aside0.mk (Kd.N_below (Kd.N_elderB (by (with_reducible repeat (first | apply Kd.N_alloc | apply Kd.N_drewN | apply Kd.N_drew)); exact HO_3.out) gb965 (Nat.le_of_eq hg.symm)) hb); have n1_ := Aside0.mk (Kd.N_below (Kd.N_elderB (by (with_reducible repeat (first | apply Kd.N_alloc | apply Kd.N_drewN | apply Kd.N_drew)); exact HO_7.out) gb965 (Nat.le_of_eq hg.symm)) hb); have n2_ := Aside0.mk (Kd.V_below (Kd.V_elderB (by (with_reducible repeat (first | apply Kd.V_alloc | apply Kd.V_drewN | apply Kd.V_drew)); exact HL964_1.out) gb965 (Nat.le_of_eq hg.symm)) hb); have n3_ := Aside0.mk (blk_below (g := gb960) (o := .cells #[.string a0_0, .slice A0_1 l0_1.length c0_1] 24 (0, 0)) (by (with_reducible repeat (first | refine blk_drewN ?_ _ | refine blk_drew ?_ | refine blk_alloc ?_ _)); exact BK960.out) hb); have n4_ := Aside0.mk (Kd.C_below (by repeat (first | (with_reducible exact HR964_1.out) | (with_reducible refine Kd.C_alloc ?_ _) | (with_reducible refine Kd.C_drewN ?_ _) | (with_reducible refine Kd.C_drew ?_) | exact HR964_1.out)) hb); have n5_ := Aside0.mk (below_step (by repeat (first | (with_reducible first | exact HB.out | apply below_alloc | apply pw_below_drewN | apply below_drew1 | refine below_set ?_ GE960.out) | exact HB.out)) hb); have n6_ := Aside0.mk (hbox); have n7_ := Aside0.mk ((by rw [hg]; exact (below_size (by repeat (first | (with_reducible first | exact HB.out | apply below_alloc | apply pw_below_drewN | apply below_drew1 | refine below_set ?_ GE960.out) | exact HB.out))) : w.heap.size ≤ gb965)); have n8_ := Aside0.mk ((by rw [hg]; exact (below_size (by repeat (first | (with_reducible first | exact HB.out | apply below_alloc | apply pw_below_drewN | apply below_drew1 | refine below_set ?_ GE960.out) | exact HB.out))) : w.heap.size ≤ gb965)); have n9_ := Aside0.mk ((by rw [hg]; exact Nat.ne_of_lt (blk_lt (g := gb960) (o := .cells #[.string a0_0, .slice A0_1 l0_1.length c0_1] 24 (0, 0)) (by (with_reducible repeat (first | refine blk_drewN ?_ _ | refine blk_drew ?_ | refine blk_alloc ?_ _)); exact BK960.out)) : gb960 ≠ gb965)); have n10_ := Aside0.mk ((by rw [hg]; exact Nat.ne_of_gt (blk_lt (g := gb960) (o := .cells #[.string a0_0, .slice A0_1 l0_1.length c0_1] 24 (0, 0)) (by (with_reducible repeat (first | refine blk_drewN ?_ _ | refine blk_drew ?_ | refine blk_alloc ?_ _)); exact BK960.out)) : gb965 ≠ gb960)); clear HO_3; clear HO_7; clear HL964_1; clear BK960; clear HR964_1; clear HB; have HO_3 := n0_; have HO_7 := n1_; have HL964_1 := n2_; have BK960 := n3_; have HR964_1 := n4_; have HB := n5_; have BK965 := n6_; have GW965 := n7_; have GE965 := n8_; have NB960_965 := n9_; have NB965_960 := n10_; clear n0_ n1_ n2_ n3_ n4_ n5_ n6_ n7_ n8_ n9_ n10_; clear hb hbox hg; have hnb12 := NB965_960.out; have hnc12 := NB960_965.out; have hcz13_0 : w11.cell? ⟨gb965, 0, none⟩ = some (.string (⟨#[]⟩ : ByteArray)) := (blk_cell BK965.out 0).trans rfl; have hcz13_1 : w11.cell? ⟨gb965, 1, none⟩ = some (.slice none 0 0) := (blk_cell BK965.out 1).trans rfl; have hfz13_0 := blk_frozen BK965.out 0; have hfz13_1 := blk_frozen BK965.out 1))
       go_roundg k1
       case measure => have := HK1.out; omega
       case rel => exact ⟨(x3_1), (wrap64 (x9_1 + 1)), (by first | rfl | (simp; done) | (simp [*]; done)), H', ⟨by have := HK1.out; omega⟩, ⟨by (with_reducible repeat (first | apply Kd.N_alloc | apply Kd.N_drewN | apply Kd.N_drew)); exact Kd.N_mono (Kd.N_far (p := ⟨gb965, 1, none⟩) (Kd.N_far (p := ⟨gb965, 0, none⟩) (Kd.N_mono HO_3.out (fun k_ hk => (⟨hk, hk.2⟩ : _ ∧ k_ ≠ gb965))) (fun _ hk => hk.2) (.string ((rd_T24 t961 x9_1).f0))) (fun _ hk => hk.2) (.slice A964_1 ((rd_T24 t961 x9_1).f1).length c964_1)) (fun _ hk => ⟨hk.1.1.1, ⟨hk.1.1.2.1, hk.1.1.2.2⟩⟩)⟩, ⟨by (with_reducible repeat (first | apply Kd.N_alloc | apply Kd.N_drewN | apply Kd.N_drew)); exact Kd.N_mono (Kd.N_far (p := ⟨gb965, 1, none⟩) (Kd.N_far (p := ⟨gb965, 0, none⟩) (Kd.N_mono HO_7.out (fun k_ hk => (⟨hk, hk.2⟩ : _ ∧ k_ ≠ gb965))) (fun _ hk => hk.2) (.string ((rd_T24 t961 x9_1).f0))) (fun _ hk => hk.2) (.slice A964_1 ((rd_T24 t961 x9_1).f1).length c964_1)) (fun _ hk => ⟨hk.1.1.1, ⟨hk.1.1.2.1, hk.1.1.2.2⟩⟩)⟩, ⟨by (with_reducible repeat (first | refine blk_drewN ?_ _ | refine blk_drew ?_ | refine blk_alloc ?_ _)); refine blk_far ?_ NB960_965.out _; (with_reducible repeat (first | refine blk_drewN ?_ _ | refine blk_drew ?_ | refine blk_alloc ?_ _)); refine blk_far ?_ NB960_965.out _; (with_reducible repeat (first | refine blk_drewN ?_ _ | refine blk_drew ?_ | refine blk_alloc ?_ _)); exact BK960.out⟩, ⟨by repeat (first | (with_reducible first | exact HB.out | apply below_alloc | apply pw_below_drewN | apply below_drew1 | refine below_set ?_ GE960.out | refine below_set ?_ GE965.out) | exact HB.out)⟩⟩
      ·
       rw [if_neg c10] at H
       have c10b0 : (((rd_T24 t961 x9_1).f0).toList == ([] : List UInt8)) = false := beq_eq_false_iff_ne.mpr c10
       have c10b1 : (((rd_T24 t961 x9_1).f0).toList != ([] : List UInt8)) = true := bne_iff_ne.mpr c10
       by_cases c14 : x3_1.length < 3518437208883
       ·
        rw [if_pos c14] at H
        have LMc14 := Aside0.mk c14
        clear c14
        obtain ⟨y966, hy966⟩ : ∃ y_ : List (S24), y_ = (x3_1 ++ [(⟨(rd_T24 t961 x9_1).f0, (rd_T24 t961 x9_1).f1⟩ : S24)]) := ⟨_, rfl⟩
        replace H : (seek_Fields.l0 k1 y966 t961 (t961.length : Int) (wrap64 (x9_1 + 1))) = some r := by first | (rw [hy966]; with_reducible exact H) | (have H2_ := (Option.bind_some _ _).symm.trans H; rw [hy966]; with_reducible exact H2_) | (have H2_ := (Option.bind_some _ _).symm.trans H; with_reducible exact H2_) | with_reducible exact H | (rw [hy966]; exact H) | exact H
        have Ny966 := Aside0.mk hy966
        clear hy966
        have H' := Aside0.mk H
        clear H
        have p964 : 0 ≤ (x9_1 : Int) := of_decide_eq_true (by first | (with_reducible assumption) | assumption)
        have q964 : x9_1 < (t961.length : Int) := of_decide_eq_true (by first | (with_reducible assumption) | assumption)
        obtain ⟨ad964, A964_1, c964_1, e964, hx964_0, hx964_1, hl964_1, hi964_1⟩ := at_T24 (Kd.N_reads' HO_7.out).2.2 x9_1 p964 q964
        cases e964
        obtain ⟨ce964, hce964, hMe964, hcc964⟩ := Kd.N_get HO_7.out z24 x9_1 p964 (by first | exact q964 | exact of_decide_eq_true (by first | (with_reducible assumption) | assumption) | (have e_ := (Kd.N_reads' HO_7.out).1; omega))
        obtain ⟨ua964_1, uc964_1, rfl, ul964_1, ge964_1⟩ := k24_openF hMe964
        have hv964_1 := hcc964 1 _ rfl
        rw [add_field _ _ 1 (by omega)] at hv964_1
        replace hv964_1 := Option.some.inj (hv964_1.symm.trans hx964_1)
        injection hv964_1 with hva_ hvn_ hvc_
        rw [hva_] at ge964_1
        rw [hvc_] at ul964_1
        have HL964_1 := Aside0.mk (show Kd.V k85 85 _ w.heap.size _ _ ((rd_T24 t961 x9_1).f1) from Kd.V_mk ul964_1 ge964_1)
        clear hva_ hvn_ hvc_ ge964_1 ul964_1
        clear hcc964 hce964
        have HR964_1 := Aside0.mk hi964_1
        have HC964_1 := Aside0.mk hl964_1
        clear hi964_1 hl964_1
        replace p964 := eq_true p964
        replace q964 := eq_true q964
        go_wp2_with (first | ((with_reducible refine gate_dst (N := 5) rfl ?_); refine box_event ?hg (N := 5) ?hd (cs := #[.string (⟨#[]⟩ : ByteArray), .slice none 0 0]) (t := 24) ?hr ?_; (case hd => rfl); (case hg => rfl); (case hr => first | (go_simp; done) | (go_simp; rfl)); intro gb965 hg w15 hbox hb; have n0_ := Aside0.mk (Kd.N_below (Kd.N_elderB (by (with_reducible repeat (first | apply Kd.N_alloc | apply Kd.N_drewN | apply Kd.N_drew)); exact HO_3.out) gb965 (Nat.le_of_eq hg.symm)) hb); have n1_ := Aside0.mk (Kd.N_below (Kd.N_elderB (by (with_reducible repeat (first | apply Kd.N_alloc | apply Kd.N_drewN | apply Kd.N_drew)); exact HO_7.out) gb965 (Nat.le_of_eq hg.symm)) hb); have n2_ := Aside0.mk (Kd.V_below (Kd.V_elderB (by (with_reducible repeat (first | apply Kd.V_alloc | apply Kd.V_drewN | apply Kd.V_drew)); exact HL964_1.out) gb965 (Nat.le_of_eq hg.symm)) hb); have n3_ := Aside0.mk (blk_below (g := gb960) (o := .cells #[.string a0_0, .slice A0_1 l0_1.length c0_1] 24 (0, 0)) (by (with_reducible repeat (first | refine blk_drewN ?_ _ | refine blk_drew ?_ | refine blk_alloc ?_ _)); exact BK960.out) hb); have n4_ := Aside0.mk (Kd.C_below (by repeat (first | (with_reducible exact HR964_1.out) | (with_reducible refine Kd.C_alloc ?_ _) | (with_reducible refine Kd.C_drewN ?_ _) | (with_reducible refine Kd.C_drew ?_) | exact HR964_1.out)) hb); have n5_ := Aside0.mk (below_step (by repeat (first | (with_reducible first | exact HB.out | apply below_alloc | apply pw_below_drewN | apply below_drew1 | refine below_set ?_ GE960.out) | exact HB.out)) hb); have n6_ := Aside0.mk (hbox); have n7_ := Aside0.mk ((by rw [hg]; exact (below_size (by repeat (first | (with_reducible first | exact HB.out | apply below_alloc | apply pw_below_drewN | apply below_drew1 | refine below_set ?_ GE960.out) | exact HB.out))) : w.heap.size ≤ gb965)); have n8_ := Aside0.mk ((by rw [hg]; exact (below_size (by repeat (first | (with_reducible first | exact HB.out | apply below_alloc | apply pw_below_drewN | apply below_drew1 | refine below_set ?_ GE960.out) | exact HB.out))) : w.heap.size ≤ gb965)); have n9_ := Aside0.mk ((by rw [hg]; exact Nat.ne_of_lt (blk_lt (g := gb960) (o := .cells #[.string a0_0, .slice A0_1 l0_1.length c0_1] 24 (0, 0)) (by (with_reducible repeat (first | refine blk_drewN ?_ _ | refine blk_drew ?_ | refine blk_alloc ?_ _)); exact BK960.out)) : gb960 ≠ gb965)); have n10_ := Aside0.mk ((by rw [hg]; exact Nat.ne_of_gt (blk_lt (g := gb960) (o := .cells #[.string a0_0, .slice A0_1 l0_1.length c0_1] 24 (0, 0)) (by (with_reducible repeat (first | refine blk_drewN ?_ _ | refine blk_drew ?_ | refine blk_alloc ?_ _)); exact BK960.out)) : gb965 ≠ gb960)); clear HO_3; clear HO_7; clear HL964_1; clear BK960; clear HR964_1; clear HB; have HO_3 := n0_; have HO_7 := n1_; have HL964_1 := n2_; have BK960 := n3_; have HR964_1 := n4_; have HB := n5_; have BK965 := n6_; have GW965 := n7_; have GE965 := n8_; have NB960_965 := n9_; have NB965_960 := n10_; clear n0_ n1_ n2_ n3_ n4_ n5_ n6_ n7_ n8_ n9_ n10_; clear hb hbox hg; have hnb16 := NB965_960.out; have hnc16 := NB960_965.out; have hcz17_0 : w15.cell? ⟨gb965, 0, none⟩ = some (.string (⟨#[]⟩ : ByteArray)) := (blk_cell BK965.out 0).trans rfl; have hcz17_1 : w15.cell? ⟨gb965, 1, none⟩ = some (.slice none 0 0) := (blk_cell BK965.out 1).trans rfl; have hfz17_0 := blk_frozen BK965.out 0; have hfz17_1 := blk_frozen BK965.out 1) | ((with_reducible refine gate_store (t := 24) (p := 5) rfl ?_); refine store_event (t := 24) (p := 5) (v := ?vo_w18) (w1 := ((w15.setCell ⟨gb965, 0, none⟩ (.string ((rd_T24 t961 x9_1).f0))).setCell ⟨gb965, 1, none⟩ (.slice A964_1 ((rd_T24 t961 x9_1).f1).length c964_1))) ?hg ?ho ?hn ?hr ?_; (case ho => rfl); (case hg => rfl); (case hn => rfl); (case hr => first | (go_simp; done) | (go_simp; rfl)); intro w18 hw; have n0_ : Aside0 (Kd.N k24 24 w18 w.heap.size (fun k_ => (w.heap.size ≤ k_) ∧ some k_ ≠ (.slice (some ad964) t961.length co6 : Value).ownBlock ∧ k_ ≠ gb960 ∧ k_ ≠ gb965) u3 x3_1) := ⟨(by rw [hw]; exact (by (with_reducible repeat (first | apply Kd.N_alloc | apply Kd.N_drewN | apply Kd.N_drew)); exact Kd.N_mono (Kd.N_far (p := ⟨gb965, 1, none⟩) (Kd.N_far (p := ⟨gb965, 0, none⟩) (Kd.N_mono HO_3.out (fun k_ hk => (⟨hk, hk.2⟩ : _ ∧ k_ ≠ gb965))) (fun _ hk => hk.2) (.string ((rd_T24 t961 x9_1).f0))) (fun _ hk => hk.2) (.slice A964_1 ((rd_T24 t961 x9_1).f1).length c964_1)) (fun _ hk => ⟨hk.1.1.1, ⟨hk.1.1.2.1, ⟨hk.1.1.2.2, hk.1.2⟩⟩⟩)))⟩; have n1_ : Aside0 (Kd.N k24 24 w18 w.heap.size (fun k_ => (w.heap.size ≤ k_) ∧ some k_ ≠ (u3 : Value).ownBlock ∧ k_ ≠ gb960 ∧ k_ ≠ gb965) (.slice (some ad964) t961.length co6) t961) := ⟨(by rw [hw]; exact (by (with_reducible repeat (first | apply Kd.N_alloc | apply Kd.N_drewN | apply Kd.N_drew)); exact Kd.N_mono (Kd.N_far (p := ⟨gb965, 1, none⟩) (Kd.N_far (p := ⟨gb965, 0, none⟩) (Kd.N_mono HO_7.out (fun k_ hk => (⟨hk, hk.2⟩ : _ ∧ k_ ≠ gb965))) (fun _ hk => hk.2) (.string ((rd_T24 t961 x9_1).f0))) (fun _ hk => hk.2) (.slice A964_1 ((rd_T24 t961 x9_1).f1).length c964_1)) (fun _ hk => ⟨hk.1.1.1, ⟨hk.1.1.2.1, ⟨hk.1.1.2.2, hk.1.2⟩⟩⟩)))⟩; have n2_ : Aside0 (Kd.V k85 85 w18 w.heap.size (fun k_ => (w.heap.size ≤ k_) ∧ some k_ ≠ (u3 : Value).ownBlock ∧ some k_ ≠ (.slice (some ad964) t961.length co6 : Value).ownBlock ∧ k_ ≠ gb960 ∧ k_ ≠ gb965) (.slice A964_1 ((rd_T24 t961 x9_1).f1).length c964_1) ((rd_T24 t961 x9_1).f1)) := ⟨(by rw [hw]; exact (by (with_reducible repeat (first | apply Kd.V_alloc | apply Kd.V_drewN | apply Kd.V_drew)); exact Kd.V_mono (Kd.V_far (p := ⟨gb965, 1, none⟩) (Kd.V_far (p := ⟨gb965, 0, none⟩) (Kd.V_mono HL964_1.out (fun k_ hk => (⟨hk, hk.2⟩ : _ ∧ k_ ≠ gb965))) (fun _ hk => hk.2) (.string ((rd_T24 t961 x9_1).f0))) (fun _ hk => hk.2) (.slice A964_1 ((rd_T24 t961 x9_1).f1).length c964_1)) (fun _ hk => ⟨hk.1.1.1.1, ⟨hk.1.1.1.2.1, ⟨hk.1.1.2, ⟨hk.1.1.1.2.2, hk.1.2⟩⟩⟩⟩)))⟩; have n3_ : Aside0 (w18.heap[gb960]? = some (.cells #[.string a0_0, .slice A0_1 l0_1.length c0_1] 24 (0, 0))) := ⟨(by rw [hw]; exact (by (with_reducible repeat (first | refine blk_drewN ?_ _ | refine blk_drew ?_ | refine blk_alloc ?_ _)); refine blk_far ?_ NB960_965.out _; (with_reducible repeat (first | refine blk_drewN ?_ _ | refine blk_drew ?_ | refine blk_alloc ?_ _)); refine blk_far ?_ NB960_965.out _; (with_reducible repeat (first | refine blk_drewN ?_ _ | refine blk_drew ?_ | refine blk_alloc ?_ _)); exact BK960.out))⟩; have n4_ : Aside0 (w18.heap[gb965]? = some (.cells #[.string ((rd_T24 t961 x9_1).f0), .slice A964_1 ((rd_T24 t961 x9_1).f1).length c964_1] 24 (0, 0))) := ⟨(by rw [hw]; exact (by (with_reducible repeat (first | refine blk_drewN ?_ _ | refine blk_drew ?_ | refine blk_alloc ?_ _)); refine blk_put (cs := #[.string ((rd_T24 t961 x9_1).f0), .slice none 0 0]) ?_ 1 _ rfl; (with_reducible repeat (first | refine blk_drewN ?_ _ | refine blk_drew ?_ | refine blk_alloc ?_ _)); refine blk_put (cs := #[.string (⟨#[]⟩ : ByteArray), .slice none 0 0]) ?_ 0 _ rfl; (with_reducible repeat (first | refine blk_drewN ?_ _ | refine blk_drew ?_ | refine blk_alloc ?_ _)); exact BK965.out))⟩; have n5_ : Aside0 (Below w.heap.size w w18) := ⟨(by rw [hw]; exact (by repeat (first | (with_reducible first | exact HB.out | apply below_alloc | apply pw_below_drewN | apply below_drew1 | refine below_set ?_ GE960.out | refine below_set ?_ GE965.out) | exact HB.out)))⟩; clear hw; clear HO_3; clear HO_7; clear HL964_1; clear BK960; clear BK965; clear HB; have HO_3 := n0_; have HO_7 := n1_; have HL964_1 := n2_; have BK960 := n3_; have BK965 := n4_; have HB := n5_; clear n0_ n1_ n2_ n3_ n4_ n5_; have hcz19_0 : w18.cell? ⟨gb965, 0, none⟩ = some (.string ((rd_T24 t961 x9_1).f0)) := (blk_cell BK965.out 0).trans rfl; have hcz19_1 : w18.cell? ⟨gb965, 1, none⟩ = some (.slice A964_1 ((rd_T24 t961 x9_1).f1).length c964_1) := (blk_cell BK965.out 1).trans rfl; have hfz19_0 := blk_frozen BK965.out 0; have hfz19_1 := blk_frozen BK965.out 1) | ((with_reducible refine gate_builtin (b := .append) (xs := #[.tmp 16, .tmp 18]) rfl ?_); at_builtin; refine Kd.N_append k24 (w0 := w) w.heap.size rfl (.tmp 16) (.tmp 18) 67 24 (.agg #[(.string ⟨#[]⟩), (.slice none 0 0)]) 40 rfl Try.underlying67 info24 rfl (by decide) (by omega) u3 x3_1 (⟨(rd_T24 t961 x9_1).f0, (rd_T24 t961 x9_1).f1⟩ : S24) [.string ((rd_T24 t961 x9_1).f0), .slice A964_1 ((rd_T24 t961 x9_1).f1).length c964_1] (fun k_ => (w.heap.size ≤ k_) ∧ some k_ ≠ (.slice (some ad964) t961.length co6 : Value).ownBlock ∧ k_ ≠ gb960 ∧ k_ ≠ gb965) (fun k_ => ((fun k_ => (w.heap.size ≤ k_) ∧ some k_ ≠ (.slice (some ad964) t961.length co6 : Value).ownBlock ∧ k_ ≠ gb960 ∧ k_ ≠ gb965)) k_ ∧ some k_ ≠ (u3 : Value).ownBlock) rfl rfl ?aP (fun _ hk => hk) ?aF ?aO ?aB ?aS ?aL ?_; (case aP => exact (k24_mkF _ _ (⟨(rd_T24 t961 x9_1).f0, (rd_T24 t961 x9_1).f1⟩ : S24) (Kd.V_reads' (Kd.V_mono (ok' := (fun k_ => ((fun k_ => (w.heap.size ≤ k_) ∧ some k_ ≠ (.slice (some ad964) t961.length co6 : Value).ownBlock ∧ k_ ≠ gb960 ∧ k_ ≠ gb965)) k_ ∧ some k_ ≠ (u3 : Value).ownBlock)) (HL964_1.out) (fun k_ hk => ⟨⟨hk.1, ⟨hk.2.2.1, ⟨hk.2.2.2.1, hk.2.2.2.2⟩⟩⟩, hk.2.1⟩))).2.1 (Kd.V_F (Kd.V_mono (ok' := (fun k_ => ((fun k_ => (w.heap.size ≤ k_) ∧ some k_ ≠ (.slice (some ad964) t961.length co6 : Value).ownBlock ∧ k_ ≠ gb960 ∧ k_ ≠ gb965)) k_ ∧ some k_ ≠ (u3 : Value).ownBlock)) (HL964_1.out) (fun k_ hk => ⟨⟨hk.1, ⟨hk.2.2.1, ⟨hk.2.2.2.1, hk.2.2.2.2⟩⟩⟩, hk.2.1⟩))))); (case aB => exact (by repeat (first | (with_reducible first | exact HB.out | apply below_alloc | apply pw_below_drewN | apply below_drew1 | refine below_set ?_ GE960.out | refine below_set ?_ GE965.out) | exact HB.out))); (case aF => exact (fun k_ hk => ⟨(Nat.le_trans (below_size (by repeat (first | (with_reducible first | exact HB.out | apply below_alloc | apply pw_below_drewN | apply below_drew1 | refine below_set ?_ GE960.out | refine below_set ?_ GE965.out) | exact HB.out))) hk), Kd.fresh' (Kd.N_lt (by (with_reducible repeat (first | apply Kd.N_alloc | apply Kd.N_drewN | apply Kd.N_drew)); exact HO_7.out)) k_ hk, Kd.freshB (g := gb960) (o := .cells #[.string a0_0, .slice A0_1 l0_1.length c0_1] 24 (0, 0)) (by (with_reducible repeat (first | refine blk_drewN ?_ _ | refine blk_drew ?_ | refine blk_alloc ?_ _)); exact BK960.out) k_ hk, Kd.freshB (g := gb965) (o := .cells #[.string ((rd_T24 t961 x9_1).f0), .slice A964_1 ((rd_T24 t961 x9_1).f1).length c964_1] 24 (0, 0)) (by (with_reducible repeat (first | refine blk_drewN ?_ _ | refine blk_drew ?_ | refine blk_alloc ?_ _)); exact BK965.out) k_ hk⟩)); (case aO => exact (by (with_reducible repeat (first | apply Kd.N_alloc | apply Kd.N_drewN | apply Kd.N_drew)); exact HO_3.out)); (case aS => exact (below_size (by repeat (first | (with_reducible first | exact HB.out | apply below_alloc | apply pw_below_drewN | apply below_drew1 | refine below_set ?_ GE960.out | refine below_set ?_ GE965.out) | exact HB.out)))); (case aL => have := LMc14.out; omega); intro v967 w20 ho hb hg hat; rw [← Ny966.out] at ho; have n0_ := Aside0.mk (Kd.N_afterv (ok := (fun k_ => (w.heap.size ≤ k_) ∧ k_ ≠ gb960 ∧ k_ ≠ gb965)) (by (with_reducible repeat (first | apply Kd.N_alloc | apply Kd.N_drewN | apply Kd.N_drew)); exact Kd.N_mono HO_7.out (fun _ hk => ⟨⟨hk.1, ⟨hk.2.2.1, hk.2.2.2⟩⟩, hk.2.1⟩)) hg hat); have n1_ := Aside0.mk (blk_grown (g := gb960) (o := .cells #[.string a0_0, .slice A0_1 l0_1.length c0_1] 24 (0, 0)) (by (with_reducible repeat (first | refine blk_drewN ?_ _ | refine blk_drew ?_ | refine blk_alloc ?_ _)); exact BK960.out) hg (Kd.N_away HO_3.out (fun _ hk => hk.2.2.1))); have n2_ := Aside0.mk (Kd.V_afterv (ok := (fun k_ => (w.heap.size ≤ k_) ∧ some k_ ≠ (.slice (some ad964) t961.length co6 : Value).ownBlock ∧ k_ ≠ gb960 ∧ k_ ≠ gb965)) (by (with_reducible repeat (first | apply Kd.V_alloc | apply Kd.V_drewN | apply Kd.V_drew)); exact Kd.V_mono HL964_1.out (fun _ hk => ⟨⟨hk.1, ⟨hk.2.2.1, ⟨hk.2.2.2.1, hk.2.2.2.2⟩⟩⟩, hk.2.1⟩)) hg hat); have n3_ := Aside0.mk (blk_grown (g := gb965) (o := .cells #[.string ((rd_T24 t961 x9_1).f0), .slice A964_1 ((rd_T24 t961 x9_1).f1).length c964_1] 24 (0, 0)) (by (with_reducible repeat (first | refine blk_drewN ?_ _ | refine blk_drew ?_ | refine blk_alloc ?_ _)); exact BK965.out) hg (Kd.N_away HO_3.out (fun _ hk => hk.2.2.2))); have n4_ := Aside0.mk (hb); have n5_ := Aside0.mk (ho); clear HO_7; clear BK960; clear HL964_1; clear BK965; clear HB; clear HO_3; have HO_7 := n0_; have BK960 := n1_; have HL964_1 := n2_; have BK965 := n3_; have HB := n4_; have HO968 := n5_; clear n0_ n1_ n2_ n3_ n4_ n5_; clear ho hb hg hat))
        go_roundg k1
        case measure => have := HK1.out; omega
        case rel => exact ⟨(y966), (wrap64 (x9_1 + 1)), (by first | rfl | (simp; done) | (simp [*]; done)), H', ⟨by have := HK1.out; omega⟩, ⟨by (with_reducible repeat (first | apply Kd.N_alloc | apply Kd.N_drewN | apply Kd.N_drew)); exact Kd.N_mono HO968.out (fun _ hk => ⟨hk.1, ⟨hk.2.1, hk.2.2.1⟩⟩)⟩, ⟨by (with_reducible repeat (first | apply Kd.N_alloc | apply Kd.N_drewN | apply Kd.N_drew)); exact Kd.N_mono HO_7.out (fun _ hk => ⟨hk.1.1, ⟨hk.2, hk.1.2.1⟩⟩)⟩, ⟨by (with_reducible repeat (first | refine blk_drewN ?_ _ | refine blk_drew ?_ | refine blk_alloc ?_ _)); exact BK960.out⟩, ⟨by repeat (first | (with_reducible first | exact HB.out | apply below_alloc | apply pw_below_drewN | apply below_drew1 | refine below_set ?_ GE960.out | refine below_set ?_ GE965.out) | exact HB.out)⟩⟩
       ·
        rw [if_neg c14] at H
        exact absurd H (by simp)
     ·
      rw [if_neg c9] at H
      exact absurd H (by simp)
    ·
     rw [if_neg c8] at H
     exact absurd H (by simp)
   ·
    rw [if_neg c7] at H
    have c7b0 : decide (x9_1 < (t961.length : Int)) = false := decide_eq_false c7
    clear c7
    obtain rfl := Option.some.inj H
    go_wp2
    go_ret
    exact ⟨_, by first | rfl | (simp [errW_none, errW_some] <;> rfl) | (simp [*, errW_none, errW_some] <;> rfl), by (with_reducible repeat (first | apply Kd.N_alloc | apply Kd.N_drewN | apply Kd.N_drew)); exact Kd.N_mono HO_3.out (fun _ hk => hk.1), by repeat (first | (with_reducible first | exact HB.out | apply below_alloc | apply pw_below_drewN | apply below_drew1 | refine below_set ?_ GE960.out) | exact HB.out)⟩

end Go.Proofs.Ytljmmhihdcnbaaa.G
