-- Written for this claim by hybrid.py's copy of the print program (a program of this session); not trusted: Lean checks it.
import Derived.Test.YtljmmhihdcnbaaaG0
import Derived.Test.YtljmmhihdcnbaaaG86
import Derived.Test.YtljmmhihdcnbaaaG89
import Derived.Test.YtljmmhihdcnbaaaG90
import Derived.Test.YtljmmhihdcnbaaaG93
namespace Go.Proofs.Ytljmmhihdcnbaaa.G
open Go.RowKit Go.Proofs.YtljmmhihdcnbaaaW.PrintWords Go.Proofs.YtljmmhihdcnbaaaW.PrintLast Go.Proofs.YtljmmhihdcnbaaaW.PrintMore
attribute [local go_sem] max2_int min2_int max_two min_two max_three min_three max_four min_four   -- for this text's walks alone
set_option linter.unusedVariables false
set_option linter.unusedSimpArgs false

/-! ### classes_Turn: function 64 -/
def classes_Turn.j0 : Nat → Bool → ByteArray → List (S85) → ByteArray → List (S85) → Option (ByteArray × (List (S85)) × Int)
 | 0, _, _, _, _, _ => none
 | k + 1, x13, x1055000, x1055001, x1056000, x1056001 => if x13 = true then ((classes_Drop.f k x1055000 x1055001 x1056000).bind fun bt1059 => (some (bt1059.1, bt1059.2, 0))) else ((classes_Add.f k x1055000 x1055001 x1056000 x1056001).bind fun bt1063 => (some (bt1063.1, bt1063.2.1, bt1063.2.2)))
def classes_Turn.f (k : Nat) (a0_0 : ByteArray) (l0_1 : List (S85)) (a1_0 : ByteArray) (l1_1 : List (S85)) : Option (ByteArray × (List (S85)) × Int) := (classes_one.f k a1_0 l1_1).bind fun t1057 => (if t1057 = true then ((classes_Has.f k a0_0 l0_1 a1_0).bind fun t1058 => (classes_Turn.j0 k t1058 a0_0 l0_1 a1_0 l1_1)) else (classes_Turn.j0 k false a0_0 l0_1 a1_0 l1_1))
theorem classes_Turn.mono_l : ∀ k, (∀ y0 y1 y2 y3 y4, LeO (classes_Turn.j0 k y0 y1 y2 y3 y4) (classes_Turn.j0 (k + 1) y0 y1 y2 y3 y4))
 | 0 => fun _ _ _ _ _ r h => by simp [classes_Turn.j0] at h
 | k + 1 => by
  have ih0 := classes_Turn.mono_l k
  ·
   intro y0 y1 y2 y3 y4
   unfold classes_Turn.j0
   repeat' first
   | (with_reducible exact ih0 _ _ _ _ _)
   | (with_reducible exact classes_Add.mono _ _ _ _ _)
   | (with_reducible exact classes_Drop.mono _ _ _ _)
   | (with_reducible exact classes_Has.mono _ _ _ _)
   | (with_reducible exact classes_one.mono _ _ _)
   | (with_reducible exact LeO.refl _)
   | (with_reducible exact LeO.none _)
   | (with_reducible refine LeO.ite ?_ ?_)
   | (with_reducible refine LeO.bind ?_ (fun _ => ?_))
   | exact ih0 _ _ _ _ _
   | exact classes_Add.mono _ _ _ _ _
   | exact classes_Drop.mono _ _ _ _
   | exact classes_Has.mono _ _ _ _
   | exact classes_one.mono _ _ _
   | exact LeO.none _
   | refine LeO.ite ?_ ?_
   | refine LeO.bind ?_ (fun _ => ?_)
theorem classes_Turn.mono : ∀ a0 a1 a2 a3 k, LeO (classes_Turn.f k a0 a1 a2 a3) (classes_Turn.f (k + 1) a0 a1 a2 a3) := by
 intro a0 a1 a2 a3 k
 have ih0 := classes_Turn.mono_l k
 unfold classes_Turn.f
 repeat' first
   | (with_reducible exact ih0 _ _ _ _ _)
   | (with_reducible exact classes_Add.mono _ _ _ _ _)
   | (with_reducible exact classes_Drop.mono _ _ _ _)
   | (with_reducible exact classes_Has.mono _ _ _ _)
   | (with_reducible exact classes_one.mono _ _ _)
   | (with_reducible exact LeO.refl _)
   | (with_reducible exact LeO.none _)
   | (with_reducible refine LeO.ite ?_ ?_)
   | (with_reducible refine LeO.bind ?_ (fun _ => ?_))
   | exact ih0 _ _ _ _ _
   | exact classes_Add.mono _ _ _ _ _
   | exact classes_Drop.mono _ _ _ _
   | exact classes_Has.mono _ _ _ _
   | exact classes_one.mono _ _ _
   | exact LeO.none _
   | refine LeO.ite ?_ ?_
   | refine LeO.bind ?_ (fun _ => ?_)
set_option maxHeartbeats 8000000 in
set_option maxRecDepth 100000 in
theorem classes_Turn.calls (k : Nat) (a0_0 : ByteArray) (A0_1 : Option Addr) (c0_1 : Nat) (l0_1 : List (S85)) (a1_0 : ByteArray) (A1_1 : Option Addr) (c1_1 : Nat) (l1_1 : List (S85)) (r1 : ByteArray) (r2 : List (S85)) (r3 : Int) (w : World) (hr0_1 : Kd.C k85 w A0_1 l0_1.length l0_1) (hc0_1 : l0_1.length ≤ c0_1) (hr1_1 : Kd.C k85 w A1_1 l1_1.length l1_1) (hc1_1 : l1_1.length ≤ c1_1) (h : classes_Turn.f k a0_0 l0_1 a1_0 l1_1 = some (r1, r2, r3)) :
  Calls Try.prog 64 #[.agg #[.string a0_0, .slice A0_1 l0_1.length c0_1], .agg #[.string a1_0, .slice A1_1 l1_1.length c1_1]] w fun e w' => ∃ v1_ : Value, e = .returned (.tuple #[.agg #[.string r1, v1_], .int .i64 r3]) ∧ Kd.R k85 85 w' w.heap.size (fun _ => True) v1_ r2 ∧ Below w.heap.size w w' := by
 have hu24 := Try.underlying24
 have HR0_1 := Aside0.mk hr0_1
 have HC0_1 := Aside0.mk hc0_1
 clear hr0_1 hc0_1
 have HR1_1 := Aside0.mk hr1_1
 have HC1_1 := Aside0.mk hc1_1
 clear hr1_1 hc1_1
 have HB := Aside0.mk (Below.refl w.heap.size w)
 have H : ((classes_one.f k a1_0 l1_1).bind fun t1057 => (if t1057 = true then ((classes_Has.f k a0_0 l0_1 a1_0).bind fun t1058 => (classes_Turn.j0 k t1058 a0_0 l0_1 a1_0 l1_1)) else (classes_Turn.j0 k false a0_0 l0_1 a1_0 l1_1))) = some (r1, r2, r3) := h
 clear h
 have HC3 := Aside0.mk H
 clear H
 go_enter Try.func64, Try.ntmps64
 go_upto_region 1 with (first | ((with_reducible refine gate_dst (N := 2) rfl ?_); refine box_event ?hg (N := 2) ?hd (cs := #[.string a0_0, .slice A0_1 l0_1.length c0_1]) (t := 24) ?hr ?_; (case hd => rfl); (case hg => rfl); (case hr => first | (go_simp; done) | (go_simp; rfl)); intro gb1054 hg w4 hbox hb; have n0_ := Aside0.mk (below_step (by repeat (first | (with_reducible first | exact HB.out | apply below_alloc | apply pw_below_drewN | apply below_drew1) | exact HB.out)) hb); have n1_ := Aside0.mk (hbox); have n2_ := Aside0.mk ((by rw [hg]; exact (below_size (by repeat (first | (with_reducible first | exact HB.out | apply below_alloc | apply pw_below_drewN | apply below_drew1) | exact HB.out))) : w.heap.size ≤ gb1054)); have n3_ := Aside0.mk ((by rw [hg]; exact (below_size (by repeat (first | (with_reducible first | exact HB.out | apply below_alloc | apply pw_below_drewN | apply below_drew1) | exact HB.out))) : w.heap.size ≤ gb1054)); clear HB; have HB := n0_; have BK1054 := n1_; have GW1054 := n2_; have GE1054 := n3_; clear n0_ n1_ n2_ n3_; clear hb hbox hg) | ((with_reducible refine gate_dst (N := 3) rfl ?_); refine box_event ?hg (N := 3) ?hd (cs := #[.string a1_0, .slice A1_1 l1_1.length c1_1]) (t := 24) ?hr ?_; (case hd => rfl); (case hg => rfl); (case hr => first | (go_simp; done) | (go_simp; rfl)); intro gb1055 hg w5 hbox hb; have n0_ := Aside0.mk (blk_below (g := gb1054) (o := .cells #[.string a0_0, .slice A0_1 l0_1.length c0_1] 24 (0, 0)) (by (with_reducible repeat (first | refine blk_drewN ?_ _ | refine blk_drew ?_ | refine blk_alloc ?_ _)); exact BK1054.out) hb); have n1_ := Aside0.mk (below_step (by repeat (first | (with_reducible first | exact HB.out | apply below_alloc | apply pw_below_drewN | apply below_drew1 | refine below_set ?_ GE1054.out) | exact HB.out)) hb); have n2_ := Aside0.mk (hbox); have n3_ := Aside0.mk ((by rw [hg]; exact (below_size (by repeat (first | (with_reducible first | exact HB.out | apply below_alloc | apply pw_below_drewN | apply below_drew1 | refine below_set ?_ GE1054.out) | exact HB.out))) : w.heap.size ≤ gb1055)); have n4_ := Aside0.mk ((by rw [hg]; exact (below_size (by repeat (first | (with_reducible first | exact HB.out | apply below_alloc | apply pw_below_drewN | apply below_drew1 | refine below_set ?_ GE1054.out) | exact HB.out))) : w.heap.size ≤ gb1055)); have n5_ := Aside0.mk ((by rw [hg]; exact Nat.ne_of_lt (blk_lt (g := gb1054) (o := .cells #[.string a0_0, .slice A0_1 l0_1.length c0_1] 24 (0, 0)) (by (with_reducible repeat (first | refine blk_drewN ?_ _ | refine blk_drew ?_ | refine blk_alloc ?_ _)); exact BK1054.out)) : gb1054 ≠ gb1055)); have n6_ := Aside0.mk ((by rw [hg]; exact Nat.ne_of_gt (blk_lt (g := gb1054) (o := .cells #[.string a0_0, .slice A0_1 l0_1.length c0_1] 24 (0, 0)) (by (with_reducible repeat (first | refine blk_drewN ?_ _ | refine blk_drew ?_ | refine blk_alloc ?_ _)); exact BK1054.out)) : gb1055 ≠ gb1054)); clear BK1054; clear HB; have BK1054 := n0_; have HB := n1_; have BK1055 := n2_; have GW1055 := n3_; have GE1055 := n4_; have NB1054_1055 := n5_; have NB1055_1054 := n6_; clear n0_ n1_ n2_ n3_ n4_ n5_ n6_; clear hb hbox hg) | ((with_reducible refine gate_dst (N := 4) rfl ?_); refine box_event ?hg (N := 4) ?hd (cs := #[.string (⟨#[]⟩ : ByteArray), .slice none 0 0]) (t := 24) ?hr ?_; (case hd => rfl); (case hg => rfl); (case hr => first | (go_simp; done) | (go_simp; rfl)); intro gb1056 hg w6 hbox hb; have n0_ := Aside0.mk (blk_below (g := gb1054) (o := .cells #[.string a0_0, .slice A0_1 l0_1.length c0_1] 24 (0, 0)) (by (with_reducible repeat (first | refine blk_drewN ?_ _ | refine blk_drew ?_ | refine blk_alloc ?_ _)); exact BK1054.out) hb); have n1_ := Aside0.mk (blk_below (g := gb1055) (o := .cells #[.string a1_0, .slice A1_1 l1_1.length c1_1] 24 (0, 0)) (by (with_reducible repeat (first | refine blk_drewN ?_ _ | refine blk_drew ?_ | refine blk_alloc ?_ _)); exact BK1055.out) hb); have n2_ := Aside0.mk (below_step (by repeat (first | (with_reducible first | exact HB.out | apply below_alloc | apply pw_below_drewN | apply below_drew1 | refine below_set ?_ GE1054.out | refine below_set ?_ GE1055.out) | exact HB.out)) hb); have n3_ := Aside0.mk (hbox); have n4_ := Aside0.mk ((by rw [hg]; exact (below_size (by repeat (first | (with_reducible first | exact HB.out | apply below_alloc | apply pw_below_drewN | apply below_drew1 | refine below_set ?_ GE1054.out | refine below_set ?_ GE1055.out) | exact HB.out))) : w.heap.size ≤ gb1056)); have n5_ := Aside0.mk ((by rw [hg]; exact (below_size (by repeat (first | (with_reducible first | exact HB.out | apply below_alloc | apply pw_below_drewN | apply below_drew1 | refine below_set ?_ GE1054.out | refine below_set ?_ GE1055.out) | exact HB.out))) : w.heap.size ≤ gb1056)); have n6_ := Aside0.mk ((by rw [hg]; exact Nat.ne_of_lt (blk_lt (g := gb1054) (o := .cells #[.string a0_0, .slice A0_1 l0_1.length c0_1] 24 (0, 0)) (by (with_reducible repeat (first | refine blk_drewN ?_ _ | refine blk_drew ?_ | refine blk_alloc ?_ _)); exact BK1054.out)) : gb1054 ≠ gb1056)); have n7_ := Aside0.mk ((by rw [hg]; exact Nat.ne_of_gt (blk_lt (g := gb1054) (o := .cells #[.string a0_0, .slice A0_1 l0_1.length c0_1] 24 (0, 0)) (by (with_reducible repeat (first | refine blk_drewN ?_ _ | refine blk_drew ?_ | refine blk_alloc ?_ _)); exact BK1054.out)) : gb1056 ≠ gb1054)); have n8_ := Aside0.mk ((by rw [hg]; exact Nat.ne_of_lt (blk_lt (g := gb1055) (o := .cells #[.string a1_0, .slice A1_1 l1_1.length c1_1] 24 (0, 0)) (by (with_reducible repeat (first | refine blk_drewN ?_ _ | refine blk_drew ?_ | refine blk_alloc ?_ _)); exact BK1055.out)) : gb1055 ≠ gb1056)); have n9_ := Aside0.mk ((by rw [hg]; exact Nat.ne_of_gt (blk_lt (g := gb1055) (o := .cells #[.string a1_0, .slice A1_1 l1_1.length c1_1] 24 (0, 0)) (by (with_reducible repeat (first | refine blk_drewN ?_ _ | refine blk_drew ?_ | refine blk_alloc ?_ _)); exact BK1055.out)) : gb1056 ≠ gb1055)); clear BK1054; clear BK1055; clear HB; have BK1054 := n0_; have BK1055 := n1_; have HB := n2_; have BK1056 := n3_; have GW1056 := n4_; have GE1056 := n5_; have NB1054_1056 := n6_; have NB1056_1054 := n7_; have NB1055_1056 := n8_; have NB1056_1055 := n9_; clear n0_ n1_ n2_ n3_ n4_ n5_ n6_ n7_ n8_ n9_; clear hb hbox hg))
 (try simp only [Act.put, List.setIfInBounds_toArray, List.set_cons_zero, List.set_cons_succ])
 go_cut [13] (fun v13 wc => ∃ (kq : Nat) (x13_2 : Bool), v13 = .bool x13_2 ∧ Aside0 (classes_Turn.j0 kq x13_2 a0_0 l0_1 a1_0 l1_1 = some (r1, r2, r3)) ∧ Aside0 (kq ≤ k) ∧ Aside0 (wc.heap[gb1054]? = some (.cells #[.string a0_0, (.slice A0_1 l0_1.length c0_1)] 24 (0, 0))) ∧ Aside0 (wc.heap[gb1055]? = some (.cells #[.string a1_0, (.slice A1_1 l1_1.length c1_1)] 24 (0, 0))) ∧ Aside0 (wc.heap[gb1056]? = some (.cells #[.string (⟨#[]⟩ : ByteArray), (.slice none 0 0)] 24 (0, 0))) ∧ Aside0 (Below w.heap.size w wc))
 case first =>
  have H := HC3.out
  clear HC3
  replace H := Option.bind_eq_some_iff.mp H
  obtain ⟨t1057, A70, H⟩ := H
  replace H : (if t1057 = true then ((classes_Has.f k a0_0 l0_1 a1_0).bind fun t1058 => (classes_Turn.j0 k t1058 a0_0 l0_1 a1_0 l1_1)) else (classes_Turn.j0 k false a0_0 l0_1 a1_0 l1_1)) = some (r1, r2, r3) := H
  have A7 := Aside0.mk A70
  clear A70
  by_cases c8 : t1057 = true
  ·
   subst c8
   have H1 : ((classes_Has.f k a0_0 l0_1 a1_0).bind fun t1058 => (classes_Turn.j0 k t1058 a0_0 l0_1 a1_0 l1_1)) = some (r1, r2, r3) := by rw [if_pos rfl] at H; exact H
   clear H
   have H := H1
   clear H1
   replace H := Option.bind_eq_some_iff.mp H
   obtain ⟨t1058, A90, H⟩ := H
   replace H : (classes_Turn.j0 k t1058 a0_0 l0_1 a1_0 l1_1) = some (r1, r2, r3) := H
   have A9 := Aside0.mk A90
   clear A90
   have H' := Aside0.mk H
   clear H
   have hnb10 := NB1055_1054.out
   have hnc10 := NB1054_1055.out
   have hnb11 := NB1055_1056.out
   have hnc11 := NB1056_1055.out
   have hcz12_0 : w6.cell? ⟨gb1055, 0, none⟩ = some (.string a1_0) := (blk_cell BK1055.out 0).trans rfl
   have hcz12_1 : w6.cell? ⟨gb1055, 1, none⟩ = some (.slice A1_1 l1_1.length c1_1) := (blk_cell BK1055.out 1).trans rfl
   have hfz12_0 := blk_frozen BK1055.out 0
   have hfz12_1 := blk_frozen BK1055.out 1
   go_wp2_with (first | ((with_reducible refine gate_callee (f := 107) rfl ?_); refine goesL_ (some 7) rfl rfl Try.func107 (by kernel_rfl) rfl #[.agg #[.string a1_0, .slice A1_1 l1_1.length c1_1]] rfl (by (try simp only [List.map_toArray, List.map_cons, List.map_nil]); first | done | rfl | (simp only [List.length_drop, List.length_take]; rfl)) ?_; (with_reducible refine (classes_one.calls k a1_0 _ _ l1_1 true _ ?side1 ?side2 A7.out).mono ?_); (case side1 => repeat (first | exact (Kd.C_below HR1_1.out HB.out) | (with_reducible refine Kd.C_alloc ?_ _) | (with_reducible refine Kd.C_drewN ?_ _) | (with_reducible refine Kd.C_drew ?_))); (case side2 => exact HC1_1.out); rintro e w13 ⟨rfl, hb⟩; refine ⟨_, rfl, ?_⟩; have n0_ := Aside0.mk (blk_below (g := gb1054) (o := .cells #[.string a0_0, .slice A0_1 l0_1.length c0_1] 24 (0, 0)) (by (with_reducible repeat (first | refine blk_drewN ?_ _ | refine blk_drew ?_ | refine blk_alloc ?_ _)); exact BK1054.out) hb); have n1_ := Aside0.mk (blk_below (g := gb1055) (o := .cells #[.string a1_0, .slice A1_1 l1_1.length c1_1] 24 (0, 0)) (by (with_reducible repeat (first | refine blk_drewN ?_ _ | refine blk_drew ?_ | refine blk_alloc ?_ _)); exact BK1055.out) hb); have n2_ := Aside0.mk (blk_below (g := gb1056) (o := .cells #[.string (⟨#[]⟩ : ByteArray), .slice none 0 0] 24 (0, 0)) (by (with_reducible repeat (first | refine blk_drewN ?_ _ | refine blk_drew ?_ | refine blk_alloc ?_ _)); exact BK1056.out) hb); have n3_ := Aside0.mk (below_step (by repeat (first | (with_reducible first | exact HB.out | apply below_alloc | apply pw_below_drewN | apply below_drew1 | refine below_set ?_ GE1054.out | refine below_set ?_ GE1055.out | refine below_set ?_ GE1056.out) | exact HB.out)) hb); clear BK1054; clear BK1055; clear BK1056; clear HB; have BK1054 := n0_; have BK1055 := n1_; have BK1056 := n2_; have HB := n3_; clear n0_ n1_ n2_ n3_; (try clear hb); (try clear hb2); (try clear hk); (try clear hi); have hnb14 := NB1054_1056.out; have hnc14 := NB1056_1054.out; have hcz15_0 : w13.cell? ⟨gb1054, 0, none⟩ = some (.string a0_0) := (blk_cell BK1054.out 0).trans rfl; have hcz15_1 : w13.cell? ⟨gb1054, 1, none⟩ = some (.slice A0_1 l0_1.length c0_1) := (blk_cell BK1054.out 1).trans rfl; have hfz15_0 := blk_frozen BK1054.out 0; have hfz15_1 := blk_frozen BK1054.out 1; have hcz16_0 : w13.cell? ⟨gb1055, 0, none⟩ = some (.string a1_0) := (blk_cell BK1055.out 0).trans rfl; have hcz16_1 : w13.cell? ⟨gb1055, 1, none⟩ = some (.slice A1_1 l1_1.length c1_1) := (blk_cell BK1055.out 1).trans rfl; have hfz16_0 := blk_frozen BK1055.out 0; have hfz16_1 := blk_frozen BK1055.out 1) | (go_at_call 67; (with_reducible refine (classes_Has.calls k a0_0 _ _ l0_1 a1_0 t1058 _ ?side1 ?side2 A9.out).mono ?_); (case side1 => repeat (first | exact (Kd.C_below HR0_1.out HB.out) | (with_reducible refine Kd.C_alloc ?_ _) | (with_reducible refine Kd.C_drewN ?_ _) | (with_reducible refine Kd.C_drew ?_))); (case side2 => exact HC0_1.out); rintro e w17 ⟨rfl, hb⟩; have n0_ := Aside0.mk (blk_below (g := gb1054) (o := .cells #[.string a0_0, .slice A0_1 l0_1.length c0_1] 24 (0, 0)) (by (with_reducible repeat (first | refine blk_drewN ?_ _ | refine blk_drew ?_ | refine blk_alloc ?_ _)); exact BK1054.out) hb); have n1_ := Aside0.mk (blk_below (g := gb1055) (o := .cells #[.string a1_0, .slice A1_1 l1_1.length c1_1] 24 (0, 0)) (by (with_reducible repeat (first | refine blk_drewN ?_ _ | refine blk_drew ?_ | refine blk_alloc ?_ _)); exact BK1055.out) hb); have n2_ := Aside0.mk (blk_below (g := gb1056) (o := .cells #[.string (⟨#[]⟩ : ByteArray), .slice none 0 0] 24 (0, 0)) (by (with_reducible repeat (first | refine blk_drewN ?_ _ | refine blk_drew ?_ | refine blk_alloc ?_ _)); exact BK1056.out) hb); have n3_ := Aside0.mk (below_step (by repeat (first | (with_reducible first | exact HB.out | apply below_alloc | apply pw_below_drewN | apply below_drew1 | refine below_set ?_ GE1054.out | refine below_set ?_ GE1055.out | refine below_set ?_ GE1056.out) | exact HB.out)) hb); clear BK1054; clear BK1055; clear BK1056; clear HB; have BK1054 := n0_; have BK1055 := n1_; have BK1056 := n2_; have HB := n3_; clear n0_ n1_ n2_ n3_; (try clear hb); (try clear hb2); (try clear hk); (try clear hi)))
   go_meet
   case rel => exact ⟨_, (t1058), (by first | rfl | (simp; done) | (simp [*]; done)), H', ⟨by first | omega | exact Nat.le_refl _⟩, ⟨by (with_reducible repeat (first | refine blk_drewN ?_ _ | refine blk_drew ?_ | refine blk_alloc ?_ _)); exact BK1054.out⟩, ⟨by (with_reducible repeat (first | refine blk_drewN ?_ _ | refine blk_drew ?_ | refine blk_alloc ?_ _)); exact BK1055.out⟩, ⟨by (with_reducible repeat (first | refine blk_drewN ?_ _ | refine blk_drew ?_ | refine blk_alloc ?_ _)); exact BK1056.out⟩, ⟨by repeat (first | (with_reducible first | exact HB.out | apply below_alloc | apply pw_below_drewN | apply below_drew1 | refine below_set ?_ GE1054.out | refine below_set ?_ GE1055.out | refine below_set ?_ GE1056.out) | exact HB.out)⟩⟩
  ·
   replace c8 := Bool.eq_false_iff.mpr c8
   subst c8
   have H1 : (classes_Turn.j0 k false a0_0 l0_1 a1_0 l1_1) = some (r1, r2, r3) := by rw [if_neg (show ¬ (false = true) by decide)] at H; exact H
   clear H
   have H := H1
   clear H1
   have H' := Aside0.mk H
   clear H
   have hnb18 := NB1055_1054.out
   have hnc18 := NB1054_1055.out
   have hnb19 := NB1055_1056.out
   have hnc19 := NB1056_1055.out
   have hcz20_0 : w6.cell? ⟨gb1055, 0, none⟩ = some (.string a1_0) := (blk_cell BK1055.out 0).trans rfl
   have hcz20_1 : w6.cell? ⟨gb1055, 1, none⟩ = some (.slice A1_1 l1_1.length c1_1) := (blk_cell BK1055.out 1).trans rfl
   have hfz20_0 := blk_frozen BK1055.out 0
   have hfz20_1 := blk_frozen BK1055.out 1
   go_wp2_with (first | ((with_reducible refine gate_callee (f := 107) rfl ?_); refine goesL_ (some 7) rfl rfl Try.func107 (by kernel_rfl) rfl #[.agg #[.string a1_0, .slice A1_1 l1_1.length c1_1]] rfl (by (try simp only [List.map_toArray, List.map_cons, List.map_nil]); first | done | rfl | (simp only [List.length_drop, List.length_take]; rfl)) ?_; (with_reducible refine (classes_one.calls k a1_0 _ _ l1_1 false _ ?side1 ?side2 A7.out).mono ?_); (case side1 => repeat (first | exact (Kd.C_below HR1_1.out HB.out) | (with_reducible refine Kd.C_alloc ?_ _) | (with_reducible refine Kd.C_drewN ?_ _) | (with_reducible refine Kd.C_drew ?_))); (case side2 => exact HC1_1.out); rintro e w21 ⟨rfl, hb⟩; refine ⟨_, rfl, ?_⟩; have n0_ := Aside0.mk (blk_below (g := gb1054) (o := .cells #[.string a0_0, .slice A0_1 l0_1.length c0_1] 24 (0, 0)) (by (with_reducible repeat (first | refine blk_drewN ?_ _ | refine blk_drew ?_ | refine blk_alloc ?_ _)); exact BK1054.out) hb); have n1_ := Aside0.mk (blk_below (g := gb1055) (o := .cells #[.string a1_0, .slice A1_1 l1_1.length c1_1] 24 (0, 0)) (by (with_reducible repeat (first | refine blk_drewN ?_ _ | refine blk_drew ?_ | refine blk_alloc ?_ _)); exact BK1055.out) hb); have n2_ := Aside0.mk (blk_below (g := gb1056) (o := .cells #[.string (⟨#[]⟩ : ByteArray), .slice none 0 0] 24 (0, 0)) (by (with_reducible repeat (first | refine blk_drewN ?_ _ | refine blk_drew ?_ | refine blk_alloc ?_ _)); exact BK1056.out) hb); have n3_ := Aside0.mk (below_step (by repeat (first | (with_reducible first | exact HB.out | apply below_alloc | apply pw_below_drewN | apply below_drew1 | refine below_set ?_ GE1054.out | refine below_set ?_ GE1055.out | refine below_set ?_ GE1056.out) | exact HB.out)) hb); clear BK1054; clear BK1055; clear BK1056; clear HB; have BK1054 := n0_; have BK1055 := n1_; have BK1056 := n2_; have HB := n3_; clear n0_ n1_ n2_ n3_; (try clear hb); (try clear hb2); (try clear hk); (try clear hi)))
   go_meet
   case rel => exact ⟨_, (false), (by first | rfl | (simp; done) | (simp [*]; done)), H', ⟨by first | omega | exact Nat.le_refl _⟩, ⟨by (with_reducible repeat (first | refine blk_drewN ?_ _ | refine blk_drew ?_ | refine blk_alloc ?_ _)); exact BK1054.out⟩, ⟨by (with_reducible repeat (first | refine blk_drewN ?_ _ | refine blk_drew ?_ | refine blk_alloc ?_ _)); exact BK1055.out⟩, ⟨by (with_reducible repeat (first | refine blk_drewN ?_ _ | refine blk_drew ?_ | refine blk_alloc ?_ _)); exact BK1056.out⟩, ⟨by repeat (first | (with_reducible first | exact HB.out | apply below_alloc | apply pw_below_drewN | apply below_drew1 | refine below_set ?_ GE1054.out | refine below_set ?_ GE1055.out | refine below_set ?_ GE1056.out) | exact HB.out)⟩⟩
 case rest =>
  clear HC3
  try clear c1
  try clear p2
  try clear c6
  try clear c8
  try clear c10
  try clear c11
  try clear c14
  try clear c18
  try clear c19
  try clear hcz12_0
  try clear hcz12_1
  try clear hcz15_0
  try clear hcz15_1
  try clear hcz16_0
  try clear hcz16_1
  try clear hcz20_0
  try clear hcz20_1
  try clear hfz12_0
  try clear hfz12_1
  try clear hfz15_0
  try clear hfz15_1
  try clear hfz16_0
  try clear hfz16_1
  try clear hfz20_0
  try clear hfz20_1
  obtain ⟨kq, x13_2, rfl, HA, HJ2, BK1054, BK1055, BK1056, HB⟩ := hcut
  cases kq with
  | zero => exact absurd HA.out (by simp [classes_Turn.j0])
  | succ kj2 =>
   have H := HA.out
   clear HA
   simp only [classes_Turn.j0] at H
   by_cases c22 : x13_2 = true
   ·
    subst c22
    have H1 : ((classes_Drop.f kj2 a0_0 l0_1 a1_0).bind fun bt1059 => (some (bt1059.1, bt1059.2, 0))) = some (r1, r2, r3) := by rw [if_pos rfl] at H; exact H
    clear H
    have H := H1
    clear H1
    replace H := Option.bind_eq_some_iff.mp H
    obtain ⟨⟨t1059, t1060⟩, A230, H⟩ := H
    replace H : (some (t1059, t1060, 0)) = some (r1, r2, r3) := H
    have A23 := Aside0.mk A230
    clear A230
    simp only [Option.some.injEq, Prod.mk.injEq] at H
    obtain ⟨rfl, rfl, rfl⟩ := H
    have hnb24 := NB1054_1055.out
    have hnc24 := NB1055_1054.out
    have hnb25 := NB1054_1056.out
    have hnc25 := NB1056_1054.out
    have hcz26_0 : wc.cell? ⟨gb1054, 0, none⟩ = some (.string a0_0) := (blk_cell BK1054.out 0).trans rfl
    have hcz26_1 : wc.cell? ⟨gb1054, 1, none⟩ = some (.slice A0_1 l0_1.length c0_1) := (blk_cell BK1054.out 1).trans rfl
    have hfz26_0 := blk_frozen BK1054.out 0
    have hfz26_1 := blk_frozen BK1054.out 1
    have hnb27 := NB1055_1056.out
    have hnc27 := NB1056_1055.out
    have hcz28_0 : wc.cell? ⟨gb1055, 0, none⟩ = some (.string a1_0) := (blk_cell BK1055.out 0).trans rfl
    have hcz28_1 : wc.cell? ⟨gb1055, 1, none⟩ = some (.slice A1_1 l1_1.length c1_1) := (blk_cell BK1055.out 1).trans rfl
    have hfz28_0 := blk_frozen BK1055.out 0
    have hfz28_1 := blk_frozen BK1055.out 1
    go_wp2_with (first | ((with_reducible refine gate_callee (f := 68) rfl ?_); refine goesL_ (some 17) rfl rfl Try.func68 (by kernel_rfl) rfl #[.agg #[.string a0_0, .slice A0_1 l0_1.length c0_1], .string a1_0] rfl (by (try simp only [List.map_toArray, List.map_cons, List.map_nil]); first | done | rfl | (simp only [List.length_drop, List.length_take]; rfl)) ?_; (with_reducible refine (classes_Drop.calls kj2 a0_0 _ _ l0_1 a1_0 t1059 t1060 _ ?side1 ?side2 A23.out).mono ?_); (case side1 => repeat (first | exact (Kd.C_below HR0_1.out HB.out) | (with_reducible refine Kd.C_alloc ?_ _) | (with_reducible refine Kd.C_drewN ?_ _) | (with_reducible refine Kd.C_drew ?_))); (case side2 => exact HC0_1.out); rintro e w29 ⟨v1061, rfl, ho0, hb⟩; refine ⟨_, rfl, ?_⟩; have n0_ := Aside0.mk (Kd.R_lower ho0 (below_size (by repeat (first | (with_reducible first | exact HB.out | apply below_alloc | apply pw_below_drewN | apply below_drew1 | refine below_set ?_ GE1054.out | refine below_set ?_ GE1055.out | refine below_set ?_ GE1056.out) | exact HB.out)))); have n1_ := Aside0.mk (blk_below (g := gb1054) (o := .cells #[.string a0_0, .slice A0_1 l0_1.length c0_1] 24 (0, 0)) (by (with_reducible repeat (first | refine blk_drewN ?_ _ | refine blk_drew ?_ | refine blk_alloc ?_ _)); exact BK1054.out) hb); have n2_ := Aside0.mk (blk_below (g := gb1055) (o := .cells #[.string a1_0, .slice A1_1 l1_1.length c1_1] 24 (0, 0)) (by (with_reducible repeat (first | refine blk_drewN ?_ _ | refine blk_drew ?_ | refine blk_alloc ?_ _)); exact BK1055.out) hb); have n3_ := Aside0.mk (blk_below (g := gb1056) (o := .cells #[.string (⟨#[]⟩ : ByteArray), .slice none 0 0] 24 (0, 0)) (by (with_reducible repeat (first | refine blk_drewN ?_ _ | refine blk_drew ?_ | refine blk_alloc ?_ _)); exact BK1056.out) hb); have n4_ := Aside0.mk (below_step (by repeat (first | (with_reducible first | exact HB.out | apply below_alloc | apply pw_below_drewN | apply below_drew1 | refine below_set ?_ GE1054.out | refine below_set ?_ GE1055.out | refine below_set ?_ GE1056.out) | exact HB.out)) hb); clear BK1054; clear BK1055; clear BK1056; clear HB; have HO1062 := n0_; have BK1054 := n1_; have BK1055 := n2_; have BK1056 := n3_; have HB := n4_; clear n0_ n1_ n2_ n3_ n4_; (try clear hb); (try clear hb2); (try clear hk); (try clear hi); (try clear ho0); have hcz30_0 : w29.cell? ⟨gb1056, 0, none⟩ = some (.string (⟨#[]⟩ : ByteArray)) := (blk_cell BK1056.out 0).trans rfl; have hcz30_1 : w29.cell? ⟨gb1056, 1, none⟩ = some (.slice none 0 0) := (blk_cell BK1056.out 1).trans rfl; have hfz30_0 := blk_frozen BK1056.out 0; have hfz30_1 := blk_frozen BK1056.out 1; obtain ⟨Ao31, co31, eo31⟩ := Kd.R_slice HO1062.out; subst eo31))
    refine bodyPost_ret (results_ct rfl _ _ gb1056 24 #[.string t1059, .slice Ao31 t1060.length co31] (0, 0) _ rfl (by (with_reducible repeat (first | refine blk_drewN ?_ _ | refine blk_drew ?_ | refine blk_alloc ?_ _)); refine blk_put (cs := #[.string t1059, .slice none 0 0]) ?_ 1 _ rfl; (with_reducible repeat (first | refine blk_drewN ?_ _ | refine blk_drew ?_ | refine blk_alloc ?_ _)); refine blk_put (cs := #[.string (⟨#[]⟩ : ByteArray), .slice none 0 0]) ?_ 0 _ rfl; (with_reducible repeat (first | refine blk_drewN ?_ _ | refine blk_drew ?_ | refine blk_alloc ?_ _)); exact BK1056.out) Try.underlying24 rfl (by kernel_rfl)) rfl ?_
    exact ⟨_, by first | rfl | (simp [errW_none, errW_some] <;> rfl) | (simp [*, errW_none, errW_some] <;> rfl), by (with_reducible repeat (first | apply Kd.R_alloc | apply Kd.R_drewN | apply Kd.R_drew)); exact Kd.R_mono (Kd.R_far (p := ⟨gb1056, 1, none⟩) (Kd.R_far (p := ⟨gb1056, 0, none⟩) (Kd.R_types HO1062.out BK1056.out (by decide)) (fun _ hk => hk.2) (.string t1059)) (fun _ hk => hk.2) (.slice Ao31 t1060.length co31)) (fun _ hk => trivial), by repeat (first | (with_reducible first | exact HB.out | apply below_alloc | apply pw_below_drewN | apply below_drew1 | refine below_set ?_ GE1054.out | refine below_set ?_ GE1055.out | refine below_set ?_ GE1056.out) | exact HB.out)⟩
   ·
    replace c22 := Bool.eq_false_iff.mpr c22
    subst c22
    have H1 : ((classes_Add.f kj2 a0_0 l0_1 a1_0 l1_1).bind fun bt1063 => (some (bt1063.1, bt1063.2.1, bt1063.2.2))) = some (r1, r2, r3) := by rw [if_neg (show ¬ (false = true) by decide)] at H; exact H
    clear H
    have H := H1
    clear H1
    replace H := Option.bind_eq_some_iff.mp H
    obtain ⟨⟨t1063, t1064, t1067⟩, A320, H⟩ := H
    replace H : (some (t1063, t1064, t1067)) = some (r1, r2, r3) := H
    have A32 := Aside0.mk A320
    clear A320
    simp only [Option.some.injEq, Prod.mk.injEq] at H
    obtain ⟨rfl, rfl, rfl⟩ := H
    have hnb33 := NB1054_1055.out
    have hnc33 := NB1055_1054.out
    have hnb34 := NB1054_1056.out
    have hnc34 := NB1056_1054.out
    have hcz35_0 : wc.cell? ⟨gb1054, 0, none⟩ = some (.string a0_0) := (blk_cell BK1054.out 0).trans rfl
    have hcz35_1 : wc.cell? ⟨gb1054, 1, none⟩ = some (.slice A0_1 l0_1.length c0_1) := (blk_cell BK1054.out 1).trans rfl
    have hfz35_0 := blk_frozen BK1054.out 0
    have hfz35_1 := blk_frozen BK1054.out 1
    have hnb36 := NB1055_1056.out
    have hnc36 := NB1056_1055.out
    have hcz37_0 : wc.cell? ⟨gb1055, 0, none⟩ = some (.string a1_0) := (blk_cell BK1055.out 0).trans rfl
    have hcz37_1 : wc.cell? ⟨gb1055, 1, none⟩ = some (.slice A1_1 l1_1.length c1_1) := (blk_cell BK1055.out 1).trans rfl
    have hfz37_0 := blk_frozen BK1055.out 0
    have hfz37_1 := blk_frozen BK1055.out 1
    go_wp2_with (first | ((with_reducible refine gate_callee (f := 66) rfl ?_); refine goesL_ (some 20) rfl rfl Try.func66 (by kernel_rfl) rfl #[.agg #[.string a0_0, .slice A0_1 l0_1.length c0_1], .agg #[.string a1_0, .slice A1_1 l1_1.length c1_1]] rfl (by (try simp only [List.map_toArray, List.map_cons, List.map_nil]); first | done | rfl | (simp only [List.length_drop, List.length_take]; rfl)) ?_; (with_reducible refine (classes_Add.calls kj2 a0_0 _ _ l0_1 a1_0 _ _ l1_1 t1063 t1064 t1067 _ ?side1 ?side2 ?side3 ?side4 A32.out).mono ?_); (case side1 => repeat (first | exact (Kd.C_below HR0_1.out HB.out) | (with_reducible refine Kd.C_alloc ?_ _) | (with_reducible refine Kd.C_drewN ?_ _) | (with_reducible refine Kd.C_drew ?_))); (case side2 => exact HC0_1.out); (case side3 => repeat (first | exact (Kd.C_below HR1_1.out HB.out) | (with_reducible refine Kd.C_alloc ?_ _) | (with_reducible refine Kd.C_drewN ?_ _) | (with_reducible refine Kd.C_drew ?_))); (case side4 => exact HC1_1.out); rintro e w38 ⟨v1065, rfl, ho0, hb⟩; refine ⟨_, rfl, ?_⟩; have n0_ := Aside0.mk (Kd.R_lower ho0 (below_size (by repeat (first | (with_reducible first | exact HB.out | apply below_alloc | apply pw_below_drewN | apply below_drew1 | refine below_set ?_ GE1054.out | refine below_set ?_ GE1055.out | refine below_set ?_ GE1056.out) | exact HB.out)))); have n1_ := Aside0.mk (blk_below (g := gb1054) (o := .cells #[.string a0_0, .slice A0_1 l0_1.length c0_1] 24 (0, 0)) (by (with_reducible repeat (first | refine blk_drewN ?_ _ | refine blk_drew ?_ | refine blk_alloc ?_ _)); exact BK1054.out) hb); have n2_ := Aside0.mk (blk_below (g := gb1055) (o := .cells #[.string a1_0, .slice A1_1 l1_1.length c1_1] 24 (0, 0)) (by (with_reducible repeat (first | refine blk_drewN ?_ _ | refine blk_drew ?_ | refine blk_alloc ?_ _)); exact BK1055.out) hb); have n3_ := Aside0.mk (blk_below (g := gb1056) (o := .cells #[.string (⟨#[]⟩ : ByteArray), .slice none 0 0] 24 (0, 0)) (by (with_reducible repeat (first | refine blk_drewN ?_ _ | refine blk_drew ?_ | refine blk_alloc ?_ _)); exact BK1056.out) hb); have n4_ := Aside0.mk (below_step (by repeat (first | (with_reducible first | exact HB.out | apply below_alloc | apply pw_below_drewN | apply below_drew1 | refine below_set ?_ GE1054.out | refine below_set ?_ GE1055.out | refine below_set ?_ GE1056.out) | exact HB.out)) hb); clear BK1054; clear BK1055; clear BK1056; clear HB; have HO1066 := n0_; have BK1054 := n1_; have BK1055 := n2_; have BK1056 := n3_; have HB := n4_; clear n0_ n1_ n2_ n3_ n4_; (try clear hb); (try clear hb2); (try clear hk); (try clear hi); (try clear ho0); have hcz39_0 : w38.cell? ⟨gb1056, 0, none⟩ = some (.string (⟨#[]⟩ : ByteArray)) := (blk_cell BK1056.out 0).trans rfl; have hcz39_1 : w38.cell? ⟨gb1056, 1, none⟩ = some (.slice none 0 0) := (blk_cell BK1056.out 1).trans rfl; have hfz39_0 := blk_frozen BK1056.out 0; have hfz39_1 := blk_frozen BK1056.out 1; obtain ⟨Ao40, co40, eo40⟩ := Kd.R_slice HO1066.out; subst eo40))
    refine bodyPost_ret (results_ct rfl _ _ gb1056 24 #[.string t1063, .slice Ao40 t1064.length co40] (0, 0) _ rfl (by (with_reducible repeat (first | refine blk_drewN ?_ _ | refine blk_drew ?_ | refine blk_alloc ?_ _)); refine blk_put (cs := #[.string t1063, .slice none 0 0]) ?_ 1 _ rfl; (with_reducible repeat (first | refine blk_drewN ?_ _ | refine blk_drew ?_ | refine blk_alloc ?_ _)); refine blk_put (cs := #[.string (⟨#[]⟩ : ByteArray), .slice none 0 0]) ?_ 0 _ rfl; (with_reducible repeat (first | refine blk_drewN ?_ _ | refine blk_drew ?_ | refine blk_alloc ?_ _)); exact BK1056.out) Try.underlying24 rfl (by kernel_rfl)) rfl ?_
    exact ⟨_, by first | rfl | (simp [errW_none, errW_some] <;> rfl) | (simp [*, errW_none, errW_some] <;> rfl), by (with_reducible repeat (first | apply Kd.R_alloc | apply Kd.R_drewN | apply Kd.R_drew)); exact Kd.R_mono (Kd.R_far (p := ⟨gb1056, 1, none⟩) (Kd.R_far (p := ⟨gb1056, 0, none⟩) (Kd.R_types HO1066.out BK1056.out (by decide)) (fun _ hk => hk.2) (.string t1063)) (fun _ hk => hk.2) (.slice Ao40 t1064.length co40)) (fun _ hk => trivial), by repeat (first | (with_reducible first | exact HB.out | apply below_alloc | apply pw_below_drewN | apply below_drew1 | refine below_set ?_ GE1054.out | refine below_set ?_ GE1055.out | refine below_set ?_ GE1056.out) | exact HB.out)⟩

end Go.Proofs.Ytljmmhihdcnbaaa.G
