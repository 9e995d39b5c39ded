-- Written for this claim by hybrid.py's copy of the print program (a program of this session); not trusted: Lean checks it.
import Derived.Test.YtljmmhihdcnbaaaG0
import Derived.Test.YtljmmhihdcnbaaaG6
import Derived.Test.YtljmmhihdcnbaaaG7
import Derived.Test.YtljmmhihdcnbaaaG8
import Derived.Test.YtljmmhihdcnbaaaG9
namespace Go.Proofs.Ytljmmhihdcnbaaa.G
open Go.RowKit Go.Proofs.YtljmmhihdcnbaaaW.PrintWords Go.Proofs.YtljmmhihdcnbaaaW.PrintLast Go.Proofs.YtljmmhihdcnbaaaW.PrintMore
attribute [local go_sem] max2_int min2_int max_two min_two max_three min_three max_four min_four   -- for this text's walks alone
set_option linter.unusedVariables false
set_option linter.unusedSimpArgs false

/-! ### fold_Swap: function 60 -/
def fold_Swap.l0 : Nat → Int → ByteArray → List (S24) → Int → Int → Int → ByteArray → List (S85) → Option (ByteArray × (List (S85)))
 | 0, _, _, _, _, _, _, _, _ => none
 | k + 1, x1, x2, x7, x8, x12, x13, x791000, x791001 => if x13 < x12 then (if 0 ≤ x13 then (if x13 < (x791000.size : Int) then (if (bt x791000 x13) = x1 then ((mark_Cut.f k x791000 x791001 x8 x13).bind fun bt803 => ((mark_At.f k x791000 x791001 x13).bind fun t807 => ((mark_Of.f x2 t807).bind fun bt808 => ((some (([(⟨bt803.1, bt803.2⟩ : S24), (⟨bt808.1, bt808.2⟩ : S24)] : List (S24)) : List (S24))).bind fun y812 => (if x7.length + y812.length < 3518437208883 then (fold_Swap.l0 k x1 x2 (x7 ++ y812) (wrap64 (x13 + 1)) x12 (wrap64 (x13 + 1)) x791000 x791001) else (none)))))) else (fold_Swap.l0 k x1 x2 x7 x8 x12 (wrap64 (x13 + 1)) x791000 x791001)) else (none)) else (none)) else ((mark_Cut.f k x791000 x791001 x8 (x791000.size : Int)).bind fun bt792 => (if x7.length < 3518437208883 then ((mark_Cat.f k (x7 ++ [(⟨bt792.1, bt792.2⟩ : S24)])).bind fun bt799 => (some (bt799.1, bt799.2))) else (none)))
def fold_Swap.f (k : Nat) (a0_0 : ByteArray) (l0_1 : List (S85)) (a1 : Int) (a2 : ByteArray) : Option (ByteArray × (List (S85))) := fold_Swap.l0 k a1 a2 ([] : List (S24)) 0 (a0_0.size : Int) 0 a0_0 l0_1
theorem fold_Swap.mono_l : ∀ k, (∀ y0 y1 y2 y3 y4 y5 y6 y7, LeO (fold_Swap.l0 k y0 y1 y2 y3 y4 y5 y6 y7) (fold_Swap.l0 (k + 1) y0 y1 y2 y3 y4 y5 y6 y7))
 | 0 => fun _ _ _ _ _ _ _ _ r h => by simp [fold_Swap.l0] at h
 | k + 1 => by
  have ih0 := fold_Swap.mono_l k
  ·
   intro y0 y1 y2 y3 y4 y5 y6 y7
   unfold fold_Swap.l0
   repeat' first
   | (with_reducible exact ih0 _ _ _ _ _ _ _ _)
   | (with_reducible exact mark_At.mono _ _ _ _)
   | (with_reducible exact mark_Cat.mono _ _)
   | (with_reducible exact mark_Cut.mono _ _ _ _ _)
   | (with_reducible exact LeO.refl _)
   | (with_reducible exact LeO.none _)
   | (with_reducible refine LeO.ite ?_ ?_)
   | (with_reducible refine LeO.bind ?_ (fun _ => ?_))
   | exact ih0 _ _ _ _ _ _ _ _
   | exact mark_At.mono _ _ _ _
   | exact mark_Cat.mono _ _
   | exact mark_Cut.mono _ _ _ _ _
   | exact LeO.none _
   | refine LeO.ite ?_ ?_
   | refine LeO.bind ?_ (fun _ => ?_)
theorem fold_Swap.mono : ∀ a0 a1 a2 a3 k, LeO (fold_Swap.f k a0 a1 a2 a3) (fold_Swap.f (k + 1) a0 a1 a2 a3) := by
 intro a0 a1 a2 a3 k
 have ih0 := fold_Swap.mono_l k
 unfold fold_Swap.f
 repeat' first
   | (with_reducible exact ih0 _ _ _ _ _ _ _ _)
   | (with_reducible exact mark_At.mono _ _ _ _)
   | (with_reducible exact mark_Cat.mono _ _)
   | (with_reducible exact mark_Cut.mono _ _ _ _ _)
   | (with_reducible exact LeO.refl _)
   | (with_reducible exact LeO.none _)
   | (with_reducible refine LeO.ite ?_ ?_)
   | (with_reducible refine LeO.bind ?_ (fun _ => ?_))
   | exact ih0 _ _ _ _ _ _ _ _
   | exact mark_At.mono _ _ _ _
   | exact mark_Cat.mono _ _
   | exact mark_Cut.mono _ _ _ _ _
   | exact LeO.none _
   | refine LeO.ite ?_ ?_
   | refine LeO.bind ?_ (fun _ => ?_)
def fold_Swap.T7 : Bool × List (List Nat × List Nat) := (true, [([], []), ([], []), ([], []), ([], []), ([1, 2, 3], [1, 2, 3]), ([], []), ([], []), ([], []), ([6, 7, 4], [6, 7]), ([5, 8, 8], [5, 8]), ([4, 9], [4, 9]), ([0, 10, 9], [0, 10]), ([11, 11, 0, 1, 2, 3, 4, 5, 6, 7, 8, 9, 10, 11], [0, 11])])
def fold_Swap.B7 : List Nat := [0, 0, 0, 0, 14, 0, 0, 0, 222, 510, 1022, 2047, 4095]
theorem fold_Swap.tab7 : rtab .any (opsOf Try.f60 7) = fold_Swap.T7 := by kernel_rfl
theorem fold_Swap.bits7 : waitsOk fold_Swap.T7.2 fold_Swap.B7 = true := by kernel_rfl
set_option maxHeartbeats 8000000 in
set_option maxRecDepth 100000 in
theorem fold_Swap.calls (k : Nat) (a0_0 : ByteArray) (A0_1 : Option Addr) (c0_1 : Nat) (l0_1 : List (S85)) (a1 : Int) (a2 : ByteArray) (r1 : ByteArray) (r2 : List (S85)) (w : World) (hr0_1 : Kd.C k85 w A0_1 l0_1.length l0_1) (hc0_1 : l0_1.length ≤ c0_1) (h : fold_Swap.f k a0_0 l0_1 a1 a2 = some (r1, r2)) :
  Calls Try.prog 60 #[.agg #[.string a0_0, .slice A0_1 l0_1.length c0_1], .int .u8 a1, .string a2] w fun e w' => ∃ v1_ : Value, e = .returned (.agg #[.string r1, v1_]) ∧ Kd.R k85 85 w' w.heap.size (fun _ => True) v1_ r2 ∧ Below w.heap.size w w' := by
 have hu24 := Try.underlying24
 have HR0_1 := Aside0.mk hr0_1
 have HC0_1 := Aside0.mk hc0_1
 clear hr0_1 hc0_1
 have HB := Aside0.mk (Below.refl w.heap.size w)
 have H : (fold_Swap.l0 k a1 a2 ([] : List (S24)) 0 (a0_0.size : Int) 0 a0_0 l0_1) = some (r1, r2) := h
 clear h
 have H' := Aside0.mk H
 clear H
 go_enter Try.func60, Try.ntmps60
 go_wp2_with (first | ((with_reducible refine gate_dst (N := 3) rfl ?_); refine box_event ?hg (N := 3) ?hd (cs := #[.string a0_0, .slice A0_1 l0_1.length c0_1]) (t := 24) ?hr ?_; (case hd => rfl); (case hg => rfl); (case hr => first | (go_simp; done) | (go_simp; rfl)); intro gb790 hg w4 hbox hb; have n0_ := Aside0.mk (below_step (by repeat (first | (with_reducible first | exact HB.out | apply below_alloc | apply pw_below_drewN | apply below_drew1) | exact HB.out)) hb); have n1_ := Aside0.mk (hbox); have n2_ := Aside0.mk ((by rw [hg]; exact (below_size (by repeat (first | (with_reducible first | exact HB.out | apply below_alloc | apply pw_below_drewN | apply below_drew1) | exact HB.out))) : w.heap.size ≤ gb790)); have n3_ := Aside0.mk ((by rw [hg]; exact (below_size (by repeat (first | (with_reducible first | exact HB.out | apply below_alloc | apply pw_below_drewN | apply below_drew1) | exact HB.out))) : w.heap.size ≤ gb790)); clear HB; have HB := n0_; have BK790 := n1_; have GW790 := n2_; have GE790 := n3_; clear n0_ n1_ n2_ n3_; clear hb hbox hg) | ((with_reducible refine gate_dst (N := 6) rfl ?_); refine box_event ?hg (N := 6) ?hd (cs := #[.string (⟨#[]⟩ : ByteArray), .slice none 0 0]) (t := 24) ?hr ?_; (case hd => rfl); (case hg => rfl); (case hr => first | (go_simp; done) | (go_simp; rfl)); intro gb791 hg w5 hbox hb; have n0_ := Aside0.mk (blk_below (g := gb790) (o := .cells #[.string a0_0, .slice A0_1 l0_1.length c0_1] 24 (0, 0)) (by (with_reducible repeat (first | refine blk_drewN ?_ _ | refine blk_drew ?_ | refine blk_alloc ?_ _)); exact BK790.out) hb); have n1_ := Aside0.mk (below_step (by repeat (first | (with_reducible first | exact HB.out | apply below_alloc | apply pw_below_drewN | apply below_drew1 | refine below_set ?_ GE790.out) | exact HB.out)) hb); have n2_ := Aside0.mk (hbox); have n3_ := Aside0.mk ((by rw [hg]; exact (below_size (by repeat (first | (with_reducible first | exact HB.out | apply below_alloc | apply pw_below_drewN | apply below_drew1 | refine below_set ?_ GE790.out) | exact HB.out))) : w.heap.size ≤ gb791)); have n4_ := Aside0.mk ((by rw [hg]; exact (below_size (by repeat (first | (with_reducible first | exact HB.out | apply below_alloc | apply pw_below_drewN | apply below_drew1 | refine below_set ?_ GE790.out) | exact HB.out))) : w.heap.size ≤ gb791)); have n5_ := Aside0.mk ((by rw [hg]; exact Nat.ne_of_lt (blk_lt (g := gb790) (o := .cells #[.string a0_0, .slice A0_1 l0_1.length c0_1] 24 (0, 0)) (by (with_reducible repeat (first | refine blk_drewN ?_ _ | refine blk_drew ?_ | refine blk_alloc ?_ _)); exact BK790.out)) : gb790 ≠ gb791)); have n6_ := Aside0.mk ((by rw [hg]; exact Nat.ne_of_gt (blk_lt (g := gb790) (o := .cells #[.string a0_0, .slice A0_1 l0_1.length c0_1] 24 (0, 0)) (by (with_reducible repeat (first | refine blk_drewN ?_ _ | refine blk_drew ?_ | refine blk_alloc ?_ _)); exact BK790.out)) : gb791 ≠ gb790)); clear BK790; clear HB; have BK790 := n0_; have HB := n1_; have BK791 := n2_; have GW791 := n3_; have GE791 := n4_; have NB790_791 := n5_; have NB791_790 := n6_; clear n0_ n1_ n2_ n3_ n4_ n5_ n6_; clear hb hbox hg; have hnb6 := NB790_791.out; have hnc6 := NB791_790.out; have hcz7_0 : w5.cell? ⟨gb790, 0, none⟩ = some (.string a0_0) := (blk_cell BK790.out 0).trans rfl; have hcz7_1 : w5.cell? ⟨gb790, 1, none⟩ = some (.slice A0_1 l0_1.length c0_1) := (blk_cell BK790.out 1).trans rfl; have hfz7_0 := blk_frozen BK790.out 0; have hfz7_1 := blk_frozen BK790.out 1))
 go_loopg [7, 8, 13] k (fun kq v7 v8 v13 w' => ∃ (x7_1 : List (S24)) (x8_1 : Int) (x13_1 : Int), v8 = .int .i64 x8_1 ∧ v13 = .int .i64 x13_1 ∧ Aside0 (fold_Swap.l0 kq a1 a2 x7_1 x8_1 (a0_0.size : Int) x13_1 a0_0 l0_1 = some (r1, r2)) ∧ Aside0 (kq ≤ k) ∧ Aside0 (Kd.N k24 24 w' w.heap.size (fun k_ => k_ ≠ gb790 ∧ k_ ≠ gb791) v7 x7_1) ∧ Aside0 (w'.heap[gb790]? = some (.cells #[.string a0_0, (.slice A0_1 l0_1.length c0_1)] 24 (0, 0))) ∧ Aside0 (w'.heap[gb791]? = some (.cells #[.string (⟨#[]⟩ : ByteArray), (.slice none 0 0)] 24 (0, 0))) ∧ Aside0 (Below w.heap.size w w'))
 case atStart => exact ⟨(([] : List (S24))), (0), (0), (by first | rfl | (simp; done) | (simp [*]; done)), (by first | rfl | (simp; done) | (simp [*]; done)), H', ⟨Nat.le_refl _⟩, ⟨by first | exact Kd.S_nil _ _ _ _ _ | exact Kd.N_nil _ _ _ _ _ | exact Kd.V_nil _ _ _ _ _ | exact Kd.Q_nil _ _ _ _ _ | exact Kd.R_nil _ _ _ _ _⟩, ⟨by (with_reducible repeat (first | refine blk_drewN ?_ _ | refine blk_drew ?_ | refine blk_alloc ?_ _)); exact BK790.out⟩, ⟨by (with_reducible repeat (first | refine blk_drewN ?_ _ | refine blk_drew ?_ | refine blk_alloc ?_ _)); exact BK791.out⟩, ⟨by repeat (first | (with_reducible first | exact HB.out | apply below_alloc | apply pw_below_drewN | apply below_drew1 | refine below_set ?_ GE790.out | refine below_set ?_ GE791.out) | exact HB.out)⟩⟩
 case round =>
  clear H'
  try clear p2
  try clear c6
  try clear hcz7_0
  try clear hcz7_1
  try clear hfz7_0
  try clear hfz7_1
  obtain ⟨x7_1, x8_1, x13_1, rfl, rfl, HA, HK1, HO_7, BK790, BK791, HB⟩ := hrel
  cases gk with
  | zero => exact absurd HA.out (by simp [fold_Swap.l0])
  | succ k1 =>
   have H := HA.out
   clear HA
   simp only [fold_Swap.l0] at H
   by_cases c8 : x13_1 < (a0_0.size : Int)
   ·
    rw [if_pos c8] at H
    have c8b0 : decide (x13_1 < (a0_0.size : Int)) = true := decide_eq_true c8
    clear c8
    by_cases c9 : 0 ≤ x13_1
    ·
     rw [if_pos c9] at H
     have c9b0 : decide (0 ≤ x13_1) = true := decide_eq_true c9
     clear c9
     by_cases c10 : x13_1 < (a0_0.size : Int)
     ·
      rw [if_pos c10] at H
      have c10b0 : decide (x13_1 < (a0_0.size : Int)) = true := decide_eq_true c10
      clear c10
      by_cases c12 : (bt a0_0 x13_1) = a1
      ·
       rw [if_pos c12] at H
       have c12b0 : ((bt a0_0 x13_1) == a1) = true := beq_iff_eq.mpr c12
       have c12b1 : ((bt a0_0 x13_1) != a1) = false := bne_eq_false_iff_eq.mpr c12
       clear c12
       replace H := Option.bind_eq_some_iff.mp H
       obtain ⟨⟨t803, t804⟩, A130, H⟩ := H
       replace H : ((mark_At.f k1 a0_0 l0_1 x13_1).bind fun t807 => ((mark_Of.f a2 t807).bind fun bt808 => ((some (([(⟨t803, t804⟩ : S24), (⟨bt808.1, bt808.2⟩ : S24)] : List (S24)) : List (S24))).bind fun y812 => (if x7_1.length + y812.length < 3518437208883 then (fold_Swap.l0 k1 a1 a2 (x7_1 ++ y812) (wrap64 (x13_1 + 1)) (a0_0.size : Int) (wrap64 (x13_1 + 1)) a0_0 l0_1) else (none))))) = some (r1, r2) := H
       have A13 := Aside0.mk A130
       clear A130
       replace H := Option.bind_eq_some_iff.mp H
       obtain ⟨t807, A140, H⟩ := H
       replace H : ((mark_Of.f a2 t807).bind fun bt808 => ((some (([(⟨t803, t804⟩ : S24), (⟨bt808.1, bt808.2⟩ : S24)] : List (S24)) : List (S24))).bind fun y812 => (if x7_1.length + y812.length < 3518437208883 then (fold_Swap.l0 k1 a1 a2 (x7_1 ++ y812) (wrap64 (x13_1 + 1)) (a0_0.size : Int) (wrap64 (x13_1 + 1)) a0_0 l0_1) else (none)))) = some (r1, r2) := H
       have A14 := Aside0.mk A140
       clear A140
       replace H := Option.bind_eq_some_iff.mp H
       obtain ⟨⟨t808, t809⟩, A150, H⟩ := H
       replace H : ((some (([(⟨t803, t804⟩ : S24), (⟨t808, t809⟩ : S24)] : List (S24)) : List (S24))).bind fun y812 => (if x7_1.length + y812.length < 3518437208883 then (fold_Swap.l0 k1 a1 a2 (x7_1 ++ y812) (wrap64 (x13_1 + 1)) (a0_0.size : Int) (wrap64 (x13_1 + 1)) a0_0 l0_1) else (none))) = some (r1, r2) := H
       have A15 := Aside0.mk A150
       clear A150
       obtain ⟨y812, hy812⟩ : ∃ y_ : List (S24), y_ = (([(⟨t803, t804⟩ : S24), (⟨t808, t809⟩ : S24)] : List (S24))) := ⟨_, rfl⟩
       replace H : (if x7_1.length + y812.length < 3518437208883 then (fold_Swap.l0 k1 a1 a2 (x7_1 ++ y812) (wrap64 (x13_1 + 1)) (a0_0.size : Int) (wrap64 (x13_1 + 1)) a0_0 l0_1) else (none)) = some (r1, r2) := by first | (rw [hy812]; with_reducible exact H) | (have H2_ := (Option.bind_some _ _).symm.trans H; rw [hy812]; with_reducible exact H2_) | (have H2_ := (Option.bind_some _ _).symm.trans H; with_reducible exact H2_) | with_reducible exact H | (rw [hy812]; exact H) | exact H
       have Ny812 := Aside0.mk hy812
       clear hy812
       by_cases c16 : x7_1.length + y812.length < 3518437208883
       ·
        rw [if_pos c16] at H
        have LMc16 := Aside0.mk c16
        clear c16
        obtain ⟨y815, hy815⟩ : ∃ y_ : List (S24), y_ = (x7_1 ++ y812) := ⟨_, rfl⟩
        replace H : (fold_Swap.l0 k1 a1 a2 y815 (wrap64 (x13_1 + 1)) (a0_0.size : Int) (wrap64 (x13_1 + 1)) a0_0 l0_1) = some (r1, r2) := by first | (rw [hy815]; with_reducible exact H) | (have H2_ := (Option.bind_some _ _).symm.trans H; rw [hy815]; with_reducible exact H2_) | (have H2_ := (Option.bind_some _ _).symm.trans H; with_reducible exact H2_) | with_reducible exact H | (rw [hy815]; exact H) | exact H
        have Ny815 := Aside0.mk hy815
        clear hy815
        have H' := Aside0.mk H
        clear H
        have hnb17 := NB790_791.out
        have hnc17 := NB791_790.out
        have hcz18_0 : wr.cell? ⟨gb790, 0, none⟩ = some (.string a0_0) := (blk_cell BK790.out 0).trans rfl
        have hcz18_1 : wr.cell? ⟨gb790, 1, none⟩ = some (.slice A0_1 l0_1.length c0_1) := (blk_cell BK790.out 1).trans rfl
        have hfz18_0 := blk_frozen BK790.out 0
        have hfz18_1 := blk_frozen BK790.out 1
        have p11 : 0 ≤ (x13_1 : Int) := of_decide_eq_true (by first | (with_reducible assumption) | assumption)
        have q11 : x13_1 < (a0_0.size : Int) := of_decide_eq_true (by first | (with_reducible assumption) | assumption)
        have hx11 := bt_at a0_0 x13_1
        replace p11 := eq_true p11
        replace q11 := eq_true q11
        try go_wp2
        have n0_ := Aside0.mk (Kd.N_drew HO_7.out)
        have n1_ := Aside0.mk (blk_drew BK790.out)
        have n2_ := Aside0.mk (blk_drew BK791.out)
        have n3_ := Aside0.mk (below_drew1 HB.out)
        clear HO_7
        clear BK790
        clear BK791
        clear HB
        have HO_7 := n0_
        have BK790 := n1_
        have BK791 := n2_
        have HB := n3_
        clear n0_ n1_ n2_ n3_
        refine start_ (n := 13) (S := fun w' => w'.cell? ⟨gb790, 0, none⟩ = some (.string a0_0) ∧ w'.cell? ⟨gb790, 1, none⟩ = some (.slice A0_1 l0_1.length c0_1)) (ds := []) #[false, false, false, false, false, false, false, false, false, false, false, false, false] (by kernel_rfl) rfl rfl ⟨(blk_cell BK790.out 0).trans rfl, (blk_cell BK790.out 1).trans rfl⟩ (fun hHeld => ?_); refine with_tabW fold_Swap.tab7 fold_Swap.bits7 (fun HT_ HW_ => ?_)
        generalize wr.drew = w19 at HO_7 BK790 BK791 HB hHeld ⊢
        refine pure_ (i := 0) (N := some 22) (v := ?_) (a' := ?_) #[true, false, false, false, false, false, false, false, false, false, false, false, false] rfl rfl (any_of HT_.out (by kernel_rfl)) (fun _ _ _ h => h) (Or.inl ⟨by rfl, ?_⟩) ?_ ?_
        rotate_left
        ·
         intro w'
         go_simp
         with_reducible rfl
        rotate_left
        ·
         simp only [Act.put, List.setIfInBounds_toArray, List.set_cons_zero, List.set_cons_succ, i64_w, i32_w]
         rfl
        refine pure_ (i := 2) (N := some 24) (v := ?_) (a' := ?_) #[true, false, true, false, false, false, false, false, false, false, false, false, false] rfl rfl (any_of HT_.out (by kernel_rfl)) (fun _ _ _ h => h) (Or.inl ⟨by rfl, ?_⟩) ?_ ?_
        rotate_left
        ·
         intro w'
         go_simp
         with_reducible rfl
        rotate_left
        ·
         simp only [Act.put, List.setIfInBounds_toArray, List.set_cons_zero, List.set_cons_succ, i64_w, i32_w]
         rfl
        refine pure_ (i := 3) (N := some 25) (v := ?_) (a' := ?_) #[true, false, true, true, false, false, false, false, false, false, false, false, false] rfl rfl (any_of HT_.out (by kernel_rfl)) (fun _ _ _ h => h) (Or.inl ⟨by rfl, ?_⟩) ?_ ?_
        rotate_left
        ·
         intro w'
         go_simp
         with_reducible rfl
        rotate_left
        ·
         simp only [Act.put, List.setIfInBounds_toArray, List.set_cons_zero, List.set_cons_succ, i64_w, i32_w]
         rfl
        refine pure_ (i := 5) (N := some 27) (v := ?_) (a' := ?_) #[true, false, true, true, false, true, false, false, false, false, false, false, false] rfl rfl (any_of HT_.out (by kernel_rfl)) (fun _ _ _ h => h) (Or.inl ⟨by rfl, ?_⟩) ?_ ?_
        rotate_left
        ·
         intro w'
         go_simp
         with_reducible rfl
        rotate_left
        ·
         simp only [Act.put, List.setIfInBounds_toArray, List.set_cons_zero, List.set_cons_succ, i64_w, i32_w]
         rfl
        refine pure_ (i := 7) (N := some 29) (v := ?_) (a' := ?_) #[true, false, true, true, false, true, false, true, false, false, false, false, false] rfl rfl (any_of HT_.out (by kernel_rfl)) (fun _ _ _ h => h) (Or.inl ⟨by rfl, ?_⟩) ?_ ?_
        rotate_left
        ·
         intro w'
         go_simp
         with_reducible rfl
        rotate_left
        ·
         simp only [Act.put, List.setIfInBounds_toArray, List.set_cons_zero, List.set_cons_succ, i64_w, i32_w]
         rfl
        refine take_ (i := 1) (N := some 23) (v := ?_) (a' := ?_) #[true, true, true, true, false, true, false, true, false, false, false, false, false] rfl rfl (take_ofW HT_.out HW_.out (by kernel_rfl)) (fun _ _ _ h => h) (Or.inl ⟨by rfl, ?_⟩) hHeld ?_ ?_
        rotate_left
        ·
         rintro w' ⟨s0, s1⟩
         go_simp
         with_reducible rfl
        rotate_left
        ·
         simp only [Act.put, List.setIfInBounds_toArray, List.set_cons_zero, List.set_cons_succ, i64_w, i32_w]
         rfl
        refine take_ (i := 6) (N := some 28) (v := ?_) (a' := ?_) #[true, true, true, true, false, true, true, true, false, false, false, false, false] rfl rfl (take_ofW HT_.out HW_.out (by kernel_rfl)) (fun _ _ _ h => h) (Or.inl ⟨by rfl, ?_⟩) hHeld ?_ ?_
        rotate_left
        ·
         rintro w' ⟨s0, s1⟩
         go_simp
         with_reducible rfl
        rotate_left
        ·
         simp only [Act.put, List.setIfInBounds_toArray, List.set_cons_zero, List.set_cons_succ, i64_w, i32_w]
         rfl
        refine one_ (i := 4) (N := some 26) #[true, true, true, true, true, true, true, true, false, false, false, false, false] rfl rfl (one_of HT_.out (by kernel_rfl)) (by decide) (fun K hK => ?_)
        refine goes_ Try.func73 (by kernel_rfl) rfl #[.agg #[.string a0_0, .slice A0_1 l0_1.length c0_1], .int .i64 x8_1, .int .i64 x13_1] (by rfl) rfl rfl (by (try simp only [List.map_toArray, List.map_cons, List.map_nil]); first | done | rfl | (simp only [List.length_drop, List.length_take]; rfl)) ?_
        with_reducible refine (mark_Cut.calls k1 a0_0 _ _ l0_1 x8_1 x13_1 t803 t804 _ ?side1 ?side2 A13.out).mono ?_
        (case side1 => repeat (first | exact (Kd.C_below HR0_1.out HB.out) | (with_reducible refine Kd.C_alloc ?_ _) | (with_reducible refine Kd.C_drewN ?_ _) | (with_reducible refine Kd.C_drew ?_)))
        (case side2 => exact HC0_1.out)
        rintro e w20 ⟨v805, rfl, ho0, hb⟩
        refine ⟨_, rfl, ?_⟩
        have n0_ := Aside0.mk (Kd.N_elder' (by (with_reducible repeat (first | apply Kd.N_alloc | apply Kd.N_drewN | apply Kd.N_drew)); exact HO_7.out) (Kd.R_base ho0) hb)
        have n1_ := Aside0.mk (Kd.R_lower ho0 (below_size (by repeat (first | (with_reducible first | exact HB.out | apply below_alloc | apply pw_below_drewN | apply below_drew1 | refine below_set ?_ GE790.out | refine below_set ?_ GE791.out) | exact HB.out))))
        have n2_ := Aside0.mk (blk_below (g := gb790) (o := .cells #[.string a0_0, .slice A0_1 l0_1.length c0_1] 24 (0, 0)) (by (with_reducible repeat (first | refine blk_drewN ?_ _ | refine blk_drew ?_ | refine blk_alloc ?_ _)); exact BK790.out) hb)
        have n3_ := Aside0.mk (blk_below (g := gb791) (o := .cells #[.string (⟨#[]⟩ : ByteArray), .slice none 0 0] 24 (0, 0)) (by (with_reducible repeat (first | refine blk_drewN ?_ _ | refine blk_drew ?_ | refine blk_alloc ?_ _)); exact BK791.out) hb)
        have n4_ := Aside0.mk (below_step (by repeat (first | (with_reducible first | exact HB.out | apply below_alloc | apply pw_below_drewN | apply below_drew1 | refine below_set ?_ GE790.out | refine below_set ?_ GE791.out) | exact HB.out)) hb)
        clear HO_7
        clear BK790
        clear BK791
        clear HB
        have HO_7 := n0_
        have HO806 := n1_
        have BK790 := n2_
        have BK791 := n3_
        have HB := n4_
        clear n0_ n1_ n2_ n3_ n4_
        (try clear hb)
        (try clear hb2)
        (try clear hk)
        (try clear hi)
        (try clear ho0)
        refine hK.out _ _ ⟨(blk_cell BK790.out 0).trans rfl, (blk_cell BK790.out 1).trans rfl⟩ (fun hHeld => ?_)
        clear hK K
        refine norm_ (a' := ?_) ?_ ?_
        rotate_left
        ·
         show Act.put _ (some 26) _ = _
         simp only [Act.put, List.setIfInBounds_toArray, List.set_cons_zero, List.set_cons_succ, i64_w, i32_w]
         rfl
        refine one_ (i := 8) (N := some 30) #[true, true, true, true, true, true, true, true, true, false, false, false, false] rfl rfl (one_of HT_.out (by kernel_rfl)) (by decide) (fun K hK => ?_)
        refine goes_ Try.func89 (by kernel_rfl) rfl #[.agg #[.string a0_0, .slice A0_1 l0_1.length c0_1], .int .i64 x13_1] (by rfl) rfl rfl (by (try simp only [List.map_toArray, List.map_cons, List.map_nil]); first | done | rfl | (simp only [List.length_drop, List.length_take]; rfl)) ?_
        with_reducible refine (mark_At.calls k1 a0_0 _ _ l0_1 x13_1 t807 _ ?side1 ?side2 A14.out).mono ?_
        (case side1 => repeat (first | exact (Kd.C_below HR0_1.out HB.out) | (with_reducible refine Kd.C_alloc ?_ _) | (with_reducible refine Kd.C_drewN ?_ _) | (with_reducible refine Kd.C_drew ?_)))
        (case side2 => exact HC0_1.out)
        rintro e w21 ⟨rfl, hb⟩
        refine ⟨_, rfl, ?_⟩
        have n0_ := Aside0.mk (Kd.N_below (by (with_reducible repeat (first | apply Kd.N_alloc | apply Kd.N_drewN | apply Kd.N_drew)); exact HO_7.out) hb)
        have n1_ := Aside0.mk (Kd.R_below (by (with_reducible repeat (first | apply Kd.R_alloc | apply Kd.R_drewN | apply Kd.R_drew)); exact HO806.out) hb)
        have n2_ := Aside0.mk (blk_below (g := gb790) (o := .cells #[.string a0_0, .slice A0_1 l0_1.length c0_1] 24 (0, 0)) (by (with_reducible repeat (first | refine blk_drewN ?_ _ | refine blk_drew ?_ | refine blk_alloc ?_ _)); exact BK790.out) hb)
        have n3_ := Aside0.mk (blk_below (g := gb791) (o := .cells #[.string (⟨#[]⟩ : ByteArray), .slice none 0 0] 24 (0, 0)) (by (with_reducible repeat (first | refine blk_drewN ?_ _ | refine blk_drew ?_ | refine blk_alloc ?_ _)); exact BK791.out) hb)
        have n4_ := Aside0.mk (below_step (by repeat (first | (with_reducible first | exact HB.out | apply below_alloc | apply pw_below_drewN | apply below_drew1 | refine below_set ?_ GE790.out | refine below_set ?_ GE791.out) | exact HB.out)) hb)
        clear HO_7
        clear HO806
        clear BK790
        clear BK791
        clear HB
        have HO_7 := n0_
        have HO806 := n1_
        have BK790 := n2_
        have BK791 := n3_
        have HB := n4_
        clear n0_ n1_ n2_ n3_ n4_
        (try clear hb)
        (try clear hb2)
        (try clear hk)
        (try clear hi)
        refine hK.out _ _ ⟨(blk_cell BK790.out 0).trans rfl, (blk_cell BK790.out 1).trans rfl⟩ (fun hHeld => ?_)
        clear hK K
        refine norm_ (a' := ?_) ?_ ?_
        rotate_left
        ·
         show Act.put _ (some 30) _ = _
         simp only [Act.put, List.setIfInBounds_toArray, List.set_cons_zero, List.set_cons_succ, i64_w, i32_w]
         rfl
        refine one_ (i := 9) (N := some 31) #[true, true, true, true, true, true, true, true, true, true, false, false, false] rfl rfl (one_of HT_.out (by kernel_rfl)) (by decide) (fun K hK => ?_)
        refine goes_ Try.func63 (by kernel_rfl) rfl #[.string a2, .int .i64 t807] (by rfl) rfl rfl (by (try simp only [List.map_toArray, List.map_cons, List.map_nil]); first | done | rfl | (simp only [List.length_drop, List.length_take]; rfl)) ?_
        with_reducible refine (mark_Of.calls a2 t807 t808 t809 _ A15.out).mono ?_
        rintro e w22 ⟨v810, rfl, ho0, hb⟩
        refine ⟨_, rfl, ?_⟩
        have n0_ := Aside0.mk (Kd.N_elder' (by (with_reducible repeat (first | apply Kd.N_alloc | apply Kd.N_drewN | apply Kd.N_drew)); exact HO_7.out) (Kd.R_base ho0) hb)
        have n1_ := Aside0.mk (Kd.R_elder' (by (with_reducible repeat (first | apply Kd.R_alloc | apply Kd.R_drewN | apply Kd.R_drew)); exact HO806.out) (Kd.R_base ho0) hb)
        have n2_ := Aside0.mk (Kd.R_lower (Kd.R_new' ho0 (Kd.R_lt (by (with_reducible repeat (first | apply Kd.R_alloc | apply Kd.R_drewN | apply Kd.R_drew)); exact HO806.out))) (below_size (by repeat (first | (with_reducible first | exact HB.out | apply below_alloc | apply pw_below_drewN | apply below_drew1 | refine below_set ?_ GE790.out | refine below_set ?_ GE791.out) | exact HB.out))))
        have n3_ := Aside0.mk (blk_below (g := gb790) (o := .cells #[.string a0_0, .slice A0_1 l0_1.length c0_1] 24 (0, 0)) (by (with_reducible repeat (first | refine blk_drewN ?_ _ | refine blk_drew ?_ | refine blk_alloc ?_ _)); exact BK790.out) hb)
        have n4_ := Aside0.mk (blk_below (g := gb791) (o := .cells #[.string (⟨#[]⟩ : ByteArray), .slice none 0 0] 24 (0, 0)) (by (with_reducible repeat (first | refine blk_drewN ?_ _ | refine blk_drew ?_ | refine blk_alloc ?_ _)); exact BK791.out) hb)
        have n5_ := Aside0.mk (below_step (by repeat (first | (with_reducible first | exact HB.out | apply below_alloc | apply pw_below_drewN | apply below_drew1 | refine below_set ?_ GE790.out | refine below_set ?_ GE791.out) | exact HB.out)) hb)
        clear HO_7
        clear HO806
        clear BK790
        clear BK791
        clear HB
        have HO_7 := n0_
        have HO806 := n1_
        have HO811 := n2_
        have BK790 := n3_
        have BK791 := n4_
        have HB := n5_
        clear n0_ n1_ n2_ n3_ n4_ n5_
        (try clear hb)
        (try clear hb2)
        (try clear hk)
        (try clear hi)
        (try clear ho0)
        obtain ⟨Ao23, co23, eo23⟩ := Kd.R_slice HO806.out
        (first | subst eo23 | (injection eo23 with f1_ f2_ f3_; have f4_ := f1_.symm; have f5_ := f3_.symm; clear f1_ f2_ f3_; subst f4_; subst f5_))
        obtain ⟨Ao24, co24, eo24⟩ := Kd.R_slice HO811.out
        (first | subst eo24 | (injection eo24 with f1_ f2_ f3_; have f4_ := f1_.symm; have f5_ := f3_.symm; clear f1_ f2_ f3_; subst f4_; subst f5_))
        refine hK.out _ _ ⟨(blk_cell BK790.out 0).trans rfl, (blk_cell BK790.out 1).trans rfl⟩ (fun hHeld => ?_)
        clear hK K
        refine norm_ (a' := ?_) ?_ ?_
        rotate_left
        ·
         show Act.put _ (some 31) _ = _
         simp only [Act.put, List.setIfInBounds_toArray, List.set_cons_zero, List.set_cons_succ, i64_w, i32_w]
         rfl
        refine one_ (i := 10) (N := some 32) #[true, true, true, true, true, true, true, true, true, true, true, false, false] rfl rfl (one_of HT_.out (by kernel_rfl)) (by decide) (fun K hK => ?_)
        refine Kd.N_lit_step k24 _ 24 ?hg (N' := 32) ?hd (xs := ([(⟨t803, t804⟩ : S24), (⟨t808, t809⟩ : S24)] : List (S24))) (inner := [.string t803, .slice Ao23 t804.length co23, .string t808, .slice Ao24 t809.length co24]) (ok := (fun k_ => some k_ ≠ (u7 : Value).ownBlock ∧ k_ ≠ gb790 ∧ k_ ≠ gb791)) (okp := (fun k_ => some k_ ≠ (u7 : Value).ownBlock ∧ k_ ≠ gb790 ∧ k_ ≠ gb791)) ?hr ?hp (fun _ hk => hk) ((show ∀ k_, w22.heap.size ≤ k_ → (fun k_ => some k_ ≠ (u7 : Value).ownBlock ∧ k_ ≠ gb790 ∧ k_ ≠ gb791) k_ from fun k_ hk => ⟨Kd.fresh' (Kd.N_lt (by (with_reducible repeat (first | apply Kd.N_alloc | apply Kd.N_drewN | apply Kd.N_drew)); exact HO_7.out)) k_ hk, Kd.freshB (g := gb790) (o := .cells #[.string a0_0, .slice A0_1 l0_1.length c0_1] 24 (0, 0)) (by (with_reducible repeat (first | refine blk_drewN ?_ _ | refine blk_drew ?_ | refine blk_alloc ?_ _)); exact BK790.out) k_ hk, Kd.freshB (g := gb791) (o := .cells #[.string (⟨#[]⟩ : ByteArray), .slice none 0 0] 24 (0, 0)) (by (with_reducible repeat (first | refine blk_drewN ?_ _ | refine blk_drew ?_ | refine blk_alloc ?_ _)); exact BK791.out) k_ hk⟩) _ (Nat.le_refl _)) (Below.refl _ _) (Nat.le_refl _) (by simp) ?_; (case hd => rfl); (case hg => rfl); (case hr => first | (go_simp; done) | (go_simp; rfl)); (case hp => exact (Reps.c2 (show Kd.FK k24 _ _ (⟨t803, t804⟩ : S24) [.string t803, .slice Ao23 t804.length co23] from (k24_mkF _ _ (⟨t803, t804⟩ : S24) (Kd.R_reads' (Kd.R_mono (ok' := (fun k_ => some k_ ≠ (u7 : Value).ownBlock ∧ k_ ≠ gb790 ∧ k_ ≠ gb791)) (Kd.R_types (Kd.R_types (Kd.R_apart' (HO806.out) (Kd.N_typed HO_7.out) (by decide)) BK790.out (by decide)) BK791.out (by decide)) (fun k_ hk => ⟨hk.1.1.2, ⟨hk.1.2, hk.2⟩⟩))).2.1 (Kd.R_F (Kd.R_mono (ok' := (fun k_ => some k_ ≠ (u7 : Value).ownBlock ∧ k_ ≠ gb790 ∧ k_ ≠ gb791)) (Kd.R_types (Kd.R_types (Kd.R_apart' (HO806.out) (Kd.N_typed HO_7.out) (by decide)) BK790.out (by decide)) BK791.out (by decide)) (fun k_ hk => ⟨hk.1.1.2, ⟨hk.1.2, hk.2⟩⟩))))) (Reps.c2 (show Kd.FK k24 _ _ (⟨t808, t809⟩ : S24) [.string t808, .slice Ao24 t809.length co24] from (k24_mkF _ _ (⟨t808, t809⟩ : S24) (Kd.R_reads' (Kd.R_mono (ok' := (fun k_ => some k_ ≠ (u7 : Value).ownBlock ∧ k_ ≠ gb790 ∧ k_ ≠ gb791)) (Kd.R_types (Kd.R_types (Kd.R_apart' (HO811.out) (Kd.N_typed HO_7.out) (by decide)) BK790.out (by decide)) BK791.out (by decide)) (fun k_ hk => ⟨hk.1.1.2, ⟨hk.1.2, hk.2⟩⟩))).2.1 (Kd.R_F (Kd.R_mono (ok' := (fun k_ => some k_ ≠ (u7 : Value).ownBlock ∧ k_ ≠ gb790 ∧ k_ ≠ gb791)) (Kd.R_types (Kd.R_types (Kd.R_apart' (HO811.out) (Kd.N_typed HO_7.out) (by decide)) BK790.out (by decide)) BK791.out (by decide)) (fun k_ hk => ⟨hk.1.1.2, ⟨hk.1.2, hk.2⟩⟩))))) (Reps.none _ _))))
        intro v813 w25 ho26 hb hg_ hnew_
        clear hg_ hnew_
        (first | rw [← Ny812.out] at ho26 | (simp only [Int.reduceToNat] at ho26; rw [← Ny812.out] at ho26))
        have n0_ := Aside0.mk (Kd.N_elder' (by (with_reducible repeat (first | apply Kd.N_alloc | apply Kd.N_drewN | apply Kd.N_drew)); exact HO_7.out) (Kd.N_base ho26) hb)
        have n1_ := Aside0.mk (Kd.N_lower ho26 (below_size (by repeat (first | (with_reducible first | exact HB.out | apply below_alloc | apply pw_below_drewN | apply below_drew1 | refine below_set ?_ GE790.out | refine below_set ?_ GE791.out) | exact HB.out))))
        have n2_ := Aside0.mk (blk_below (g := gb790) (o := .cells #[.string a0_0, .slice A0_1 l0_1.length c0_1] 24 (0, 0)) (by (with_reducible repeat (first | refine blk_drewN ?_ _ | refine blk_drew ?_ | refine blk_alloc ?_ _)); exact BK790.out) hb)
        have n3_ := Aside0.mk (blk_below (g := gb791) (o := .cells #[.string (⟨#[]⟩ : ByteArray), .slice none 0 0] 24 (0, 0)) (by (with_reducible repeat (first | refine blk_drewN ?_ _ | refine blk_drew ?_ | refine blk_alloc ?_ _)); exact BK791.out) hb)
        have n4_ := Aside0.mk (below_step (by repeat (first | (with_reducible first | exact HB.out | apply below_alloc | apply pw_below_drewN | apply below_drew1 | refine below_set ?_ GE790.out | refine below_set ?_ GE791.out) | exact HB.out)) hb)
        clear HO_7
        clear BK790
        clear BK791
        clear HB
        clear HO806
        clear HO811
        have HO_7 := n0_
        have HO814 := n1_
        have BK790 := n2_
        have BK791 := n3_
        have HB := n4_
        clear n0_ n1_ n2_ n3_ n4_
        clear hb ho26
        obtain ⟨Ao28, co28, eo28⟩ := Kd.N_slice HO814.out
        (first | subst eo28 | (injection eo28 with f1_ f2_ f3_; have f4_ := f1_.symm; have f5_ := f3_.symm; clear f1_ f2_ f3_; subst f4_; subst f5_))
        refine hK.out _ _ ⟨(blk_cell BK790.out 0).trans rfl, (blk_cell BK790.out 1).trans rfl⟩ (fun hHeld => ?_)
        clear hK K
        refine norm_ (a' := ?_) ?_ ?_
        rotate_left
        ·
         show Act.put _ (some 32) _ = _
         simp only [Act.put, List.setIfInBounds_toArray, List.set_cons_zero, List.set_cons_succ, i64_w, i32_w]
         rfl
        refine one_ (i := 11) (N := some 33) #[true, true, true, true, true, true, true, true, true, true, true, true, false] rfl rfl (one_of HT_.out (by kernel_rfl)) (by decide) (fun K hK => ?_)
        refine Kd.N_append_rows_step k24 (w0 := w) w.heap.size (by rfl) (.tmp 22) (.tmp 32) 67 24 (.agg #[(.string ⟨#[]⟩), (.slice none 0 0)]) 40 rfl Try.underlying67 info24 rfl (by decide) (by omega) u7 x7_1 y812 _ _ _ (fun k_ => k_ ≠ gb790 ∧ k_ ≠ gb791) (fun k_ => ((fun k_ => k_ ≠ gb790 ∧ k_ ≠ gb791)) k_ ∧ some k_ ≠ (u7 : Value).ownBlock) rfl rfl ?aO ?aR (fun _ hk => hk) ?aF ?aB ?aS ?aL ?_
        (case aR => exact (by skip; exact Kd.N_F (Kd.N_mono (ok' := (fun k_ => ((fun k_ => k_ ≠ gb790 ∧ k_ ≠ gb791)) k_ ∧ some k_ ≠ (u7 : Value).ownBlock)) (HO814.out) (fun k_ hk => ⟨⟨hk.2.1, hk.2.2⟩, hk.1⟩))))
        (case aB => exact (by repeat (first | (with_reducible first | exact HB.out | apply below_alloc | apply pw_below_drewN | apply below_drew1 | refine below_set ?_ GE790.out | refine below_set ?_ GE791.out) | exact HB.out)))
        (case aF => exact (fun k_ hk => ⟨Kd.freshB (g := gb790) (o := .cells #[.string a0_0, .slice A0_1 l0_1.length c0_1] 24 (0, 0)) (by (with_reducible repeat (first | refine blk_drewN ?_ _ | refine blk_drew ?_ | refine blk_alloc ?_ _)); exact BK790.out) k_ hk, Kd.freshB (g := gb791) (o := .cells #[.string (⟨#[]⟩ : ByteArray), .slice none 0 0] 24 (0, 0)) (by (with_reducible repeat (first | refine blk_drewN ?_ _ | refine blk_drew ?_ | refine blk_alloc ?_ _)); exact BK791.out) k_ hk⟩))
        (case aO => exact (by (with_reducible repeat (first | apply Kd.N_alloc | apply Kd.N_drewN | apply Kd.N_drew)); exact Kd.N_mono HO_7.out (fun _ hk => ⟨hk.1.1.1.1, hk.1.1.1.2⟩)))
        (case aS => exact (below_size (by repeat (first | (with_reducible first | exact HB.out | apply below_alloc | apply pw_below_drewN | apply below_drew1 | refine below_set ?_ GE790.out | refine below_set ?_ GE791.out) | exact HB.out))))
        (case aL => have := LMc16.out; omega)
        intro v816 w27 ho hb hg hat
        rw [← Ny815.out] at ho
        have n0_ := Aside0.mk (blk_grown (g := gb790) (o := .cells #[.string a0_0, .slice A0_1 l0_1.length c0_1] 24 (0, 0)) (by (with_reducible repeat (first | refine blk_drewN ?_ _ | refine blk_drew ?_ | refine blk_alloc ?_ _)); exact BK790.out) hg (Kd.N_away HO_7.out (fun _ hk => hk.1.1.1.1)))
        have n1_ := Aside0.mk (blk_grown (g := gb791) (o := .cells #[.string (⟨#[]⟩ : ByteArray), .slice none 0 0] 24 (0, 0)) (by (with_reducible repeat (first | refine blk_drewN ?_ _ | refine blk_drew ?_ | refine blk_alloc ?_ _)); exact BK791.out) hg (Kd.N_away HO_7.out (fun _ hk => hk.1.1.1.2)))
        have n2_ := Aside0.mk (Kd.N_afterv (ok := (fun k_ => k_ ≠ gb790 ∧ k_ ≠ gb791)) (by (with_reducible repeat (first | apply Kd.N_alloc | apply Kd.N_drewN | apply Kd.N_drew)); exact Kd.N_mono HO814.out (fun _ hk => ⟨⟨hk.2.1, hk.2.2⟩, hk.1⟩)) hg hat)
        have n3_ := Aside0.mk (hb)
        have n4_ := Aside0.mk (ho)
        clear BK790
        clear BK791
        clear HO814
        clear HB
        clear HO_7
        have BK790 := n0_
        have BK791 := n1_
        have HO814 := n2_
        have HB := n3_
        have HO817 := n4_
        clear n0_ n1_ n2_ n3_ n4_
        clear ho hb hg hat
        refine hK.out _ _ ⟨(blk_cell BK790.out 0).trans rfl, (blk_cell BK790.out 1).trans rfl⟩ (fun hHeld => ?_)
        clear hK K
        refine norm_ (a' := ?_) ?_ ?_
        rotate_left
        ·
         show Act.put _ (some 33) _ = _
         simp only [Act.put, List.setIfInBounds_toArray, List.set_cons_zero, List.set_cons_succ, i64_w, i32_w]
         rfl
        refine pure_ (i := 12) (N := some 7) (v := ?_) (a' := ?_) #[true, true, true, true, true, true, true, true, true, true, true, true, true] rfl rfl (any_of HT_.out (by kernel_rfl)) (fun _ _ _ h => h) (Or.inl ⟨by rfl, ?_⟩) ?_ ?_
        rotate_left
        ·
         intro w'
         go_simp
         with_reducible rfl
        rotate_left
        ·
         simp only [Act.put, List.setIfInBounds_toArray, List.set_cons_zero, List.set_cons_succ, i64_w, i32_w]
         rfl
        refine done_ (done_of HT_.out (by kernel_rfl)) ?_
        try go_wp2
        go_roundg k1
        case measure => have := HK1.out; omega
        case rel => exact ⟨(y815), (wrap64 (x13_1 + 1)), (wrap64 (x13_1 + 1)), (by first | rfl | (simp; done) | (simp [*]; done)), (by first | rfl | (simp; done) | (simp [*]; done)), H', ⟨by have := HK1.out; omega⟩, ⟨by (with_reducible repeat (first | apply Kd.N_alloc | apply Kd.N_drewN | apply Kd.N_drew)); exact HO817.out⟩, ⟨by (with_reducible repeat (first | refine blk_drewN ?_ _ | refine blk_drew ?_ | refine blk_alloc ?_ _)); exact BK790.out⟩, ⟨by (with_reducible repeat (first | refine blk_drewN ?_ _ | refine blk_drew ?_ | refine blk_alloc ?_ _)); exact BK791.out⟩, ⟨by repeat (first | (with_reducible first | exact HB.out | apply below_alloc | apply pw_below_drewN | apply below_drew1 | refine below_set ?_ GE790.out | refine below_set ?_ GE791.out) | exact HB.out)⟩⟩
       ·
        rw [if_neg c16] at H
        exact absurd H (by simp)
      ·
       rw [if_neg c12] at H
       have c12b0 : ((bt a0_0 x13_1) == a1) = false := beq_eq_false_iff_ne.mpr c12
       have c12b1 : ((bt a0_0 x13_1) != a1) = true := bne_iff_ne.mpr c12
       have H' := Aside0.mk H
       clear H
       have hnb29 := NB790_791.out
       have hnc29 := NB791_790.out
       have hcz30_0 : wr.cell? ⟨gb790, 0, none⟩ = some (.string a0_0) := (blk_cell BK790.out 0).trans rfl
       have hcz30_1 : wr.cell? ⟨gb790, 1, none⟩ = some (.slice A0_1 l0_1.length c0_1) := (blk_cell BK790.out 1).trans rfl
       have hfz30_0 := blk_frozen BK790.out 0
       have hfz30_1 := blk_frozen BK790.out 1
       have p11 : 0 ≤ (x13_1 : Int) := of_decide_eq_true (by first | (with_reducible assumption) | assumption)
       have q11 : x13_1 < (a0_0.size : Int) := of_decide_eq_true (by first | (with_reducible assumption) | assumption)
       have hx11 := bt_at a0_0 x13_1
       replace p11 := eq_true p11
       replace q11 := eq_true q11
       go_wp2
       go_roundg k1
       case measure => have := HK1.out; omega
       case rel => exact ⟨(x7_1), (x8_1), (wrap64 (x13_1 + 1)), (by first | rfl | (simp; done) | (simp [*]; done)), (by first | rfl | (simp; done) | (simp [*]; done)), H', ⟨by have := HK1.out; omega⟩, ⟨by (with_reducible repeat (first | apply Kd.N_alloc | apply Kd.N_drewN | apply Kd.N_drew)); exact HO_7.out⟩, ⟨by (with_reducible repeat (first | refine blk_drewN ?_ _ | refine blk_drew ?_ | refine blk_alloc ?_ _)); exact BK790.out⟩, ⟨by (with_reducible repeat (first | refine blk_drewN ?_ _ | refine blk_drew ?_ | refine blk_alloc ?_ _)); exact BK791.out⟩, ⟨by repeat (first | (with_reducible first | exact HB.out | apply below_alloc | apply pw_below_drewN | apply below_drew1 | refine below_set ?_ GE790.out | refine below_set ?_ GE791.out) | exact HB.out)⟩⟩
     ·
      rw [if_neg c10] at H
      exact absurd H (by simp)
    ·
     rw [if_neg c9] at H
     exact absurd H (by simp)
   ·
    rw [if_neg c8] at H
    have c8b0 : decide (x13_1 < (a0_0.size : Int)) = false := decide_eq_false c8
    clear c8
    replace H := Option.bind_eq_some_iff.mp H
    obtain ⟨⟨t792, t793⟩, A310, H⟩ := H
    replace H : (if x7_1.length < 3518437208883 then ((mark_Cat.f k1 (x7_1 ++ [(⟨t792, t793⟩ : S24)])).bind fun bt799 => (some (bt799.1, bt799.2))) else (none)) = some (r1, r2) := H
    have A31 := Aside0.mk A310
    clear A310
    by_cases c32 : x7_1.length < 3518437208883
    ·
     rw [if_pos c32] at H
     have LMc32 := Aside0.mk c32
     clear c32
     obtain ⟨y796, hy796⟩ : ∃ y_ : List (S24), y_ = (x7_1 ++ [(⟨t792, t793⟩ : S24)]) := ⟨_, rfl⟩
     replace H : ((mark_Cat.f k1 y796).bind fun bt799 => (some (bt799.1, bt799.2))) = some (r1, r2) := by first | (rw [hy796]; with_reducible exact H) | (have H2_ := (Option.bind_some _ _).symm.trans H; rw [hy796]; with_reducible exact H2_) | (have H2_ := (Option.bind_some _ _).symm.trans H; with_reducible exact H2_) | with_reducible exact H | (rw [hy796]; exact H) | exact H
     have Ny796 := Aside0.mk hy796
     clear hy796
     replace H := Option.bind_eq_some_iff.mp H
     obtain ⟨⟨t799, t800⟩, A330, H⟩ := H
     replace H : (some (t799, t800)) = some (r1, r2) := H
     have A33 := Aside0.mk A330
     clear A330
     simp only [Option.some.injEq, Prod.mk.injEq] at H
     obtain ⟨rfl, rfl⟩ := H
     have hnb34 := NB790_791.out
     have hnc34 := NB791_790.out
     have hcz35_0 : wr.cell? ⟨gb790, 0, none⟩ = some (.string a0_0) := (blk_cell BK790.out 0).trans rfl
     have hcz35_1 : wr.cell? ⟨gb790, 1, none⟩ = some (.slice A0_1 l0_1.length c0_1) := (blk_cell BK790.out 1).trans rfl
     have hfz35_0 := blk_frozen BK790.out 0
     have hfz35_1 := blk_frozen BK790.out 1
     go_wp2_with (first | ((with_reducible refine gate_callee (f := 73) rfl ?_); refine goesL_ (some 43) rfl rfl Try.func73 (by kernel_rfl) rfl #[.agg #[.string a0_0, .slice A0_1 l0_1.length c0_1], .int .i64 x8_1, .int .i64 (a0_0.size : Int)] rfl (by (try simp only [List.map_toArray, List.map_cons, List.map_nil]); first | done | rfl | (simp only [List.length_drop, List.length_take]; rfl)) ?_; (with_reducible refine (mark_Cut.calls k1 a0_0 _ _ l0_1 x8_1 (a0_0.size : Int) t792 t793 _ ?side1 ?side2 A31.out).mono ?_); (case side1 => repeat (first | exact (Kd.C_below HR0_1.out HB.out) | (with_reducible refine Kd.C_alloc ?_ _) | (with_reducible refine Kd.C_drewN ?_ _) | (with_reducible refine Kd.C_drew ?_))); (case side2 => exact HC0_1.out); rintro e w36 ⟨v794, rfl, ho0, hb⟩; refine ⟨_, rfl, ?_⟩; have n0_ := Aside0.mk (Kd.N_elder' (by (with_reducible repeat (first | apply Kd.N_alloc | apply Kd.N_drewN | apply Kd.N_drew)); exact HO_7.out) (Kd.R_base ho0) hb); have n1_ := Aside0.mk (Kd.R_lower ho0 (below_size (by repeat (first | (with_reducible first | exact HB.out | apply below_alloc | apply pw_below_drewN | apply below_drew1 | refine below_set ?_ GE790.out | refine below_set ?_ GE791.out) | exact HB.out)))); have n2_ := Aside0.mk (blk_below (g := gb790) (o := .cells #[.string a0_0, .slice A0_1 l0_1.length c0_1] 24 (0, 0)) (by (with_reducible repeat (first | refine blk_drewN ?_ _ | refine blk_drew ?_ | refine blk_alloc ?_ _)); exact BK790.out) hb); have n3_ := Aside0.mk (blk_below (g := gb791) (o := .cells #[.string (⟨#[]⟩ : ByteArray), .slice none 0 0] 24 (0, 0)) (by (with_reducible repeat (first | refine blk_drewN ?_ _ | refine blk_drew ?_ | refine blk_alloc ?_ _)); exact BK791.out) hb); have n4_ := Aside0.mk (below_step (by repeat (first | (with_reducible first | exact HB.out | apply below_alloc | apply pw_below_drewN | apply below_drew1 | refine below_set ?_ GE790.out | refine below_set ?_ GE791.out) | exact HB.out)) hb); clear HO_7; clear BK790; clear BK791; clear HB; have HO_7 := n0_; have HO795 := n1_; have BK790 := n2_; have BK791 := n3_; have HB := n4_; clear n0_ n1_ n2_ n3_ n4_; (try clear hb); (try clear hb2); (try clear hk); (try clear hi); (try clear ho0); obtain ⟨Ao38, co38, eo38⟩ := Kd.R_slice HO795.out; subst eo38) | ((with_reducible refine gate_builtin (b := .append) (xs := #[.tmp 37, .tmp 44]) rfl ?_); at_builtin; refine Kd.N_append k24 (w0 := w) w.heap.size rfl (.tmp 37) (.tmp 44) 67 24 (.agg #[(.string ⟨#[]⟩), (.slice none 0 0)]) 40 rfl Try.underlying67 info24 rfl (by decide) (by omega) u7 x7_1 (⟨t792, t793⟩ : S24) [.string t792, .slice Ao38 t793.length co38] (fun k_ => k_ ≠ gb790 ∧ k_ ≠ gb791) (fun k_ => ((fun k_ => k_ ≠ gb790 ∧ k_ ≠ gb791)) k_ ∧ some k_ ≠ (u7 : Value).ownBlock) rfl rfl ?aP (fun _ hk => hk) ?aF ?aO ?aB ?aS ?aL ?_; (case aP => exact (k24_mkF _ _ (⟨t792, t793⟩ : S24) (Kd.R_reads' (Kd.R_mono (ok' := (fun k_ => ((fun k_ => k_ ≠ gb790 ∧ k_ ≠ gb791)) k_ ∧ some k_ ≠ (u7 : Value).ownBlock)) (Kd.R_types (Kd.R_types (Kd.R_apart' (HO795.out) (Kd.N_typed HO_7.out) (by decide)) BK790.out (by decide)) BK791.out (by decide)) (fun k_ hk => ⟨⟨hk.1.2, hk.2⟩, hk.1.1.2⟩))).2.1 (Kd.R_F (Kd.R_mono (ok' := (fun k_ => ((fun k_ => k_ ≠ gb790 ∧ k_ ≠ gb791)) k_ ∧ some k_ ≠ (u7 : Value).ownBlock)) (Kd.R_types (Kd.R_types (Kd.R_apart' (HO795.out) (Kd.N_typed HO_7.out) (by decide)) BK790.out (by decide)) BK791.out (by decide)) (fun k_ hk => ⟨⟨hk.1.2, hk.2⟩, hk.1.1.2⟩))))); (case aB => exact (by repeat (first | (with_reducible first | exact HB.out | apply below_alloc | apply pw_below_drewN | apply below_drew1 | refine below_set ?_ GE790.out | refine below_set ?_ GE791.out) | exact HB.out))); (case aF => exact (fun k_ hk => ⟨Kd.freshB (g := gb790) (o := .cells #[.string a0_0, .slice A0_1 l0_1.length c0_1] 24 (0, 0)) (by (with_reducible repeat (first | refine blk_drewN ?_ _ | refine blk_drew ?_ | refine blk_alloc ?_ _)); exact BK790.out) k_ hk, Kd.freshB (g := gb791) (o := .cells #[.string (⟨#[]⟩ : ByteArray), .slice none 0 0] 24 (0, 0)) (by (with_reducible repeat (first | refine blk_drewN ?_ _ | refine blk_drew ?_ | refine blk_alloc ?_ _)); exact BK791.out) k_ hk⟩)); (case aO => exact (by (with_reducible repeat (first | apply Kd.N_alloc | apply Kd.N_drewN | apply Kd.N_drew)); exact Kd.N_mono HO_7.out (fun _ hk => ⟨hk.1.1, hk.1.2⟩))); (case aS => exact (below_size (by repeat (first | (with_reducible first | exact HB.out | apply below_alloc | apply pw_below_drewN | apply below_drew1 | refine below_set ?_ GE790.out | refine below_set ?_ GE791.out) | exact HB.out)))); (case aL => have := LMc32.out; omega); intro v797 w37 ho hb hg hat; rw [← Ny796.out] at ho; have n0_ := Aside0.mk (blk_grown (g := gb790) (o := .cells #[.string a0_0, .slice A0_1 l0_1.length c0_1] 24 (0, 0)) (by (with_reducible repeat (first | refine blk_drewN ?_ _ | refine blk_drew ?_ | refine blk_alloc ?_ _)); exact BK790.out) hg (Kd.N_away HO_7.out (fun _ hk => hk.1.1))); have n1_ := Aside0.mk (blk_grown (g := gb791) (o := .cells #[.string (⟨#[]⟩ : ByteArray), .slice none 0 0] 24 (0, 0)) (by (with_reducible repeat (first | refine blk_drewN ?_ _ | refine blk_drew ?_ | refine blk_alloc ?_ _)); exact BK791.out) hg (Kd.N_away HO_7.out (fun _ hk => hk.1.2))); have n2_ := Aside0.mk (hb); have n3_ := Aside0.mk (ho); clear BK790; clear BK791; clear HB; clear HO_7; clear HO795; have BK790 := n0_; have BK791 := n1_; have HB := n2_; have HO798 := n3_; clear n0_ n1_ n2_ n3_; clear ho hb hg hat; obtain ⟨Ao39, co39, eo39⟩ := Kd.N_slice HO798.out; subst eo39) | ((with_reducible refine gate_callee (f := 47) rfl ?_); refine goesL_ (some 46) rfl rfl Try.func47 (by kernel_rfl) rfl #[.slice Ao39 y796.length co39] rfl (by (try simp only [List.map_toArray, List.map_cons, List.map_nil]); first | done | rfl | (simp only [List.length_drop, List.length_take]; rfl)) ?_; (with_reducible refine (mark_Cat.calls k1 _ _ y796 t799 t800 _ ?side1 ?side2 A33.out).mono ?_); (case side1 => repeat (first | exact (Kd.N_reads' HO798.out).2.2 | (with_reducible refine Kd.C_alloc ?_ _) | (with_reducible refine Kd.C_drewN ?_ _) | (with_reducible refine Kd.C_drew ?_))); (case side2 => exact (Kd.N_reads' HO798.out).2.1); rintro e w40 ⟨v801, rfl, ho0, hb⟩; refine ⟨_, rfl, ?_⟩; have n0_ := Aside0.mk (Kd.N_elder' (by (with_reducible repeat (first | apply Kd.N_alloc | apply Kd.N_drewN | apply Kd.N_drew)); exact HO798.out) (Kd.R_base ho0) hb); have n1_ := Aside0.mk (Kd.R_lower ho0 (below_size (by repeat (first | (with_reducible first | exact HB.out | apply below_alloc | apply pw_below_drewN | apply below_drew1 | refine below_set ?_ GE790.out | refine below_set ?_ GE791.out) | exact HB.out)))); have n2_ := Aside0.mk (blk_below (g := gb790) (o := .cells #[.string a0_0, .slice A0_1 l0_1.length c0_1] 24 (0, 0)) (by (with_reducible repeat (first | refine blk_drewN ?_ _ | refine blk_drew ?_ | refine blk_alloc ?_ _)); exact BK790.out) hb); have n3_ := Aside0.mk (blk_below (g := gb791) (o := .cells #[.string (⟨#[]⟩ : ByteArray), .slice none 0 0] 24 (0, 0)) (by (with_reducible repeat (first | refine blk_drewN ?_ _ | refine blk_drew ?_ | refine blk_alloc ?_ _)); exact BK791.out) hb); have n4_ := Aside0.mk (below_step (by repeat (first | (with_reducible first | exact HB.out | apply below_alloc | apply pw_below_drewN | apply below_drew1 | refine below_set ?_ GE790.out | refine below_set ?_ GE791.out) | exact HB.out)) hb); clear HO798; clear BK790; clear BK791; clear HB; have HO798 := n0_; have HO802 := n1_; have BK790 := n2_; have BK791 := n3_; have HB := n4_; clear n0_ n1_ n2_ n3_ n4_; (try clear hb); (try clear hb2); (try clear hk); (try clear hi); (try clear ho0); have hcz41_0 : w40.cell? ⟨gb791, 0, none⟩ = some (.string (⟨#[]⟩ : ByteArray)) := (blk_cell BK791.out 0).trans rfl; have hcz41_1 : w40.cell? ⟨gb791, 1, none⟩ = some (.slice none 0 0) := (blk_cell BK791.out 1).trans rfl; have hfz41_0 := blk_frozen BK791.out 0; have hfz41_1 := blk_frozen BK791.out 1; obtain ⟨Ao42, co42, eo42⟩ := Kd.R_slice HO802.out; subst eo42))
     refine bodyPost_ret (results_cell_row rfl _ _ gb791 24 #[.string t799, .slice Ao42 t800.length co42] (0, 0) _ rfl (by (with_reducible repeat (first | refine blk_drewN ?_ _ | refine blk_drew ?_ | refine blk_alloc ?_ _)); refine blk_put (cs := #[.string t799, .slice none 0 0]) ?_ 1 _ rfl; (with_reducible repeat (first | refine blk_drewN ?_ _ | refine blk_drew ?_ | refine blk_alloc ?_ _)); refine blk_put (cs := #[.string (⟨#[]⟩ : ByteArray), .slice none 0 0]) ?_ 0 _ rfl; (with_reducible repeat (first | refine blk_drewN ?_ _ | refine blk_drew ?_ | refine blk_alloc ?_ _)); exact BK791.out) Try.underlying24 rfl (by kernel_rfl)) rfl ?_
     exact ⟨_, by first | rfl | (simp [errW_none, errW_some] <;> rfl) | (simp [*, errW_none, errW_some] <;> rfl), by (with_reducible repeat (first | apply Kd.R_alloc | apply Kd.R_drewN | apply Kd.R_drew)); exact Kd.R_mono (Kd.R_far (p := ⟨gb791, 1, none⟩) (Kd.R_far (p := ⟨gb791, 0, none⟩) (Kd.R_types HO802.out BK791.out (by decide)) (fun _ hk => hk.2) (.string t799)) (fun _ hk => hk.2) (.slice Ao42 t800.length co42)) (fun _ hk => trivial), by repeat (first | (with_reducible first | exact HB.out | apply below_alloc | apply pw_below_drewN | apply below_drew1 | refine below_set ?_ GE790.out | refine below_set ?_ GE791.out) | exact HB.out)⟩
    ·
     rw [if_neg c32] at H
     exact absurd H (by simp)

end Go.Proofs.Ytljmmhihdcnbaaa.G
