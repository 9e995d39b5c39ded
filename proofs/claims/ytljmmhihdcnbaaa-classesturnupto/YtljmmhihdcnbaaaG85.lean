-- Written for this claim by hybrid.py's copy of the print program (a program of this session); not trusted: Lean checks it.
import Derived.Test.YtljmmhihdcnbaaaG0
import Derived.Test.YtljmmhihdcnbaaaG82
import Derived.Test.YtljmmhihdcnbaaaG84
namespace Go.Proofs.Ytljmmhihdcnbaaa.G
open Go.RowKit Go.Proofs.YtljmmhihdcnbaaaW.PrintWords Go.Proofs.YtljmmhihdcnbaaaW.PrintLast Go.Proofs.YtljmmhihdcnbaaaW.PrintMore
attribute [local go_sem] max2_int min2_int max_two min_two max_three min_three max_four min_four   -- for this text's walks alone
set_option linter.unusedVariables false
set_option linter.unusedSimpArgs false

/-! ### classes_Words: function 69 -/
def classes_Words.l0 : Nat → List (S24) → List (S24) → Int → Int → Option ((List (S24)))
 | 0, _, _, _, _ => none
 | k + 1, x3, x7, x8, x9 => if x9 < x8 then (if 0 ≤ x9 then (if x9 < (x7.length : Int) then ((classes_place.f x3 ((rd_T24 x7 x9).f0)).bind fun t975 => (if t975 < 0 then (if x3.length < 3518437208883 then (classes_Words.l0 k (x3 ++ [(⟨(rd_T24 x7 x9).f0, (rd_T24 x7 x9).f1⟩ : S24)]) x7 x8 (wrap64 (x9 + 1))) else (none)) else (classes_Words.l0 k x3 x7 x8 (wrap64 (x9 + 1))))) else (none)) else (none)) else (some x3)
def classes_Words.f (k : Nat) (a0_0 : ByteArray) (l0_1 : List (S85)) : Option ((List (S24))) := (seek_Fields.f k a0_0 l0_1).bind fun t970 => (classes_Words.l0 k ([] : List (S24)) t970 (t970.length : Int) 0)
theorem classes_Words.mono_l : ∀ k, (∀ y0 y1 y2 y3, LeO (classes_Words.l0 k y0 y1 y2 y3) (classes_Words.l0 (k + 1) y0 y1 y2 y3))
 | 0 => fun _ _ _ _ r h => by simp [classes_Words.l0] at h
 | k + 1 => by
  have ih0 := classes_Words.mono_l k
  ·
   intro y0 y1 y2 y3
   unfold classes_Words.l0
   repeat' first
   | (with_reducible exact ih0 _ _ _ _)
   | (with_reducible exact seek_Fields.mono _ _ _)
   | (with_reducible exact LeO.refl _)
   | (with_reducible exact LeO.none _)
   | (with_reducible refine LeO.ite ?_ ?_)
   | (with_reducible refine LeO.bind ?_ (fun _ => ?_))
   | exact ih0 _ _ _ _
   | exact seek_Fields.mono _ _ _
   | exact LeO.none _
   | refine LeO.ite ?_ ?_
   | refine LeO.bind ?_ (fun _ => ?_)
theorem classes_Words.mono : ∀ a0 a1 k, LeO (classes_Words.f k a0 a1) (classes_Words.f (k + 1) a0 a1) := by
 intro a0 a1 k
 have ih0 := classes_Words.mono_l k
 unfold classes_Words.f
 repeat' first
   | (with_reducible exact ih0 _ _ _ _)
   | (with_reducible exact seek_Fields.mono _ _ _)
   | (with_reducible exact LeO.refl _)
   | (with_reducible exact LeO.none _)
   | (with_reducible refine LeO.ite ?_ ?_)
   | (with_reducible refine LeO.bind ?_ (fun _ => ?_))
   | exact ih0 _ _ _ _
   | exact seek_Fields.mono _ _ _
   | exact LeO.none _
   | refine LeO.ite ?_ ?_
   | refine LeO.bind ?_ (fun _ => ?_)
set_option maxHeartbeats 8000000 in
set_option maxRecDepth 100000 in
theorem classes_Words.calls (k : Nat) (a0_0 : ByteArray) (A0_1 : Option Addr) (c0_1 : Nat) (l0_1 : List (S85)) (r : List (S24)) (w : World) (hr0_1 : Kd.C k85 w A0_1 l0_1.length l0_1) (hc0_1 : l0_1.length ≤ c0_1) (h : classes_Words.f k a0_0 l0_1 = some r) :
  Calls Try.prog 69 #[.agg #[.string a0_0, .slice A0_1 l0_1.length c0_1]] w fun e w' => ∃ v0_ : Value, e = .returned (v0_) ∧ Kd.N k24 24 w' w.heap.size (fun k_ => (w.heap.size ≤ k_)) v0_ r ∧ Below w.heap.size w w' := by
 have hu24 := Try.underlying24
 have HR0_1 := Aside0.mk hr0_1
 have HC0_1 := Aside0.mk hc0_1
 clear hr0_1 hc0_1
 have HB := Aside0.mk (Below.refl w.heap.size w)
 have H : ((seek_Fields.f k a0_0 l0_1).bind fun t970 => (classes_Words.l0 k ([] : List (S24)) t970 (t970.length : Int) 0)) = some r := h
 clear h
 replace H := Option.bind_eq_some_iff.mp H
 obtain ⟨t970, A20, H⟩ := H
 replace H : (classes_Words.l0 k ([] : List (S24)) t970 (t970.length : Int) 0) = some r := H
 have A2 := Aside0.mk A20
 clear A20
 have H' := Aside0.mk H
 clear H
 go_enter Try.func69, Try.ntmps69
 go_wp2_with (first | ((with_reducible refine gate_dst (N := 1) rfl ?_); refine box_event ?hg (N := 1) ?hd (cs := #[.string a0_0, .slice A0_1 l0_1.length c0_1]) (t := 24) ?hr ?_; (case hd => rfl); (case hg => rfl); (case hr => first | (go_simp; done) | (go_simp; rfl)); intro gb969 hg w3 hbox hb; have n0_ := Aside0.mk (below_step (by repeat (first | (with_reducible first | exact HB.out | apply below_alloc | apply pw_below_drewN | apply below_drew1) | exact HB.out)) hb); have n1_ := Aside0.mk (hbox); have n2_ := Aside0.mk ((by rw [hg]; exact (below_size (by repeat (first | (with_reducible first | exact HB.out | apply below_alloc | apply pw_below_drewN | apply below_drew1) | exact HB.out))) : w.heap.size ≤ gb969)); have n3_ := Aside0.mk ((by rw [hg]; exact (below_size (by repeat (first | (with_reducible first | exact HB.out | apply below_alloc | apply pw_below_drewN | apply below_drew1) | exact HB.out))) : w.heap.size ≤ gb969)); clear HB; have HB := n0_; have BK969 := n1_; have GW969 := n2_; have GE969 := n3_; clear n0_ n1_ n2_ n3_; clear hb hbox hg; have hcz4_0 : w3.cell? ⟨gb969, 0, none⟩ = some (.string a0_0) := (blk_cell BK969.out 0).trans rfl; have hcz4_1 : w3.cell? ⟨gb969, 1, none⟩ = some (.slice A0_1 l0_1.length c0_1) := (blk_cell BK969.out 1).trans rfl; have hfz4_0 := blk_frozen BK969.out 0; have hfz4_1 := blk_frozen BK969.out 1) | ((with_reducible refine gate_callee (f := 65) rfl ?_); refine goesL_ (some 7) rfl rfl Try.func65 (by kernel_rfl) rfl #[.agg #[.string a0_0, .slice A0_1 l0_1.length c0_1]] rfl (by (try simp only [List.map_toArray, List.map_cons, List.map_nil]); first | done | rfl | (simp only [List.length_drop, List.length_take]; rfl)) ?_; (with_reducible refine (seek_Fields.calls k a0_0 _ _ l0_1 t970 _ ?side1 ?side2 A2.out).mono ?_); (case side1 => repeat (first | exact (Kd.C_below HR0_1.out HB.out) | (with_reducible refine Kd.C_alloc ?_ _) | (with_reducible refine Kd.C_drewN ?_ _) | (with_reducible refine Kd.C_drew ?_))); (case side2 => exact HC0_1.out); rintro e w5 ⟨v971, rfl, ho0, hb⟩; refine ⟨_, rfl, ?_⟩; have n0_ := Aside0.mk (Kd.N_lower (Kd.N_mono (ok' := fun k_ => (w.heap.size ≤ k_) ∧ k_ ≠ gb969) ho0 (fun k_ hk_ => ⟨(Nat.le_trans (below_size (by repeat (first | (with_reducible first | exact HB.out | apply below_alloc | apply pw_below_drewN | apply below_drew1 | refine below_set ?_ GE969.out) | exact HB.out))) hk_), (Kd.freshB (g := gb969) (o := .cells #[.string a0_0, .slice A0_1 l0_1.length c0_1] 24 (0, 0)) (by (with_reducible repeat (first | refine blk_drewN ?_ _ | refine blk_drew ?_ | refine blk_alloc ?_ _)); exact BK969.out) k_ hk_)⟩)) (below_size (by repeat (first | (with_reducible first | exact HB.out | apply below_alloc | apply pw_below_drewN | apply below_drew1 | refine below_set ?_ GE969.out) | exact HB.out)))); have n1_ := Aside0.mk (blk_below (g := gb969) (o := .cells #[.string a0_0, .slice A0_1 l0_1.length c0_1] 24 (0, 0)) (by (with_reducible repeat (first | refine blk_drewN ?_ _ | refine blk_drew ?_ | refine blk_alloc ?_ _)); exact BK969.out) hb); have n2_ := Aside0.mk (below_step (by repeat (first | (with_reducible first | exact HB.out | apply below_alloc | apply pw_below_drewN | apply below_drew1 | refine below_set ?_ GE969.out) | exact HB.out)) hb); clear BK969; clear HB; have HO972 := n0_; have BK969 := n1_; have HB := n2_; clear n0_ n1_ n2_; (try clear hb); (try clear hb2); (try clear hk); (try clear hi); (try clear ho0); obtain ⟨Ao6, co6, eo6⟩ := Kd.N_slice HO972.out; subst eo6))
 go_loopg [3, 9] k (fun kq v3 v9 w' => ∃ (x3_1 : List (S24)) (x9_1 : Int), v9 = .int .i64 x9_1 ∧ Aside0 (classes_Words.l0 kq x3_1 t970 (t970.length : Int) x9_1 = some r) ∧ Aside0 (kq ≤ k) ∧ Aside0 (Kd.N k24 24 w' w.heap.size (fun k_ => (w.heap.size ≤ k_) ∧ some k_ ≠ ((.slice Ao6 t970.length co6) : Value).ownBlock ∧ k_ ≠ gb969) v3 x3_1) ∧ Aside0 (Kd.N k24 24 w' w.heap.size (fun k_ => (w.heap.size ≤ k_) ∧ some k_ ≠ (v3 : Value).ownBlock ∧ k_ ≠ gb969) (.slice Ao6 t970.length co6) t970) ∧ Aside0 (w'.heap[gb969]? = some (.cells #[.string a0_0, (.slice A0_1 l0_1.length c0_1)] 24 (0, 0))) ∧ Aside0 (Below w.heap.size w w'))
 case atStart => exact ⟨(([] : List (S24))), (0), (by first | rfl | (simp; done) | (simp [*]; done)), H', ⟨Nat.le_refl _⟩, ⟨by first | exact Kd.S_nil _ _ _ _ _ | exact Kd.N_nil _ _ _ _ _ | exact Kd.V_nil _ _ _ _ _ | exact Kd.Q_nil _ _ _ _ _ | exact Kd.R_nil _ _ _ _ _⟩, ⟨by (with_reducible repeat (first | apply Kd.N_alloc | apply Kd.N_drewN | apply Kd.N_drew)); exact Kd.N_mono HO972.out (fun _ hk => ⟨hk.1, ⟨(by simp [Value.ownBlock]), hk.2⟩⟩)⟩, ⟨by (with_reducible repeat (first | refine blk_drewN ?_ _ | refine blk_drew ?_ | refine blk_alloc ?_ _)); exact BK969.out⟩, ⟨by repeat (first | (with_reducible first | exact HB.out | apply below_alloc | apply pw_below_drewN | apply below_drew1 | refine below_set ?_ GE969.out) | exact HB.out)⟩⟩
 case round =>
  clear H'
  try clear p2
  try clear c6
  try clear hcz4_0
  try clear hcz4_1
  try clear hfz4_0
  try clear hfz4_1
  obtain ⟨x3_1, x9_1, rfl, HA, HK1, HO_3, HO_7, BK969, HB⟩ := hrel
  cases gk with
  | zero => exact absurd HA.out (by simp [classes_Words.l0])
  | succ k1 =>
   have H := HA.out
   clear HA
   simp only [classes_Words.l0] at H
   by_cases c7 : x9_1 < (t970.length : Int)
   ·
    rw [if_pos c7] at H
    have c7b0 : decide (x9_1 < (t970.length : Int)) = true := decide_eq_true c7
    clear c7
    by_cases c8 : 0 ≤ x9_1
    ·
     rw [if_pos c8] at H
     have c8b0 : decide (0 ≤ x9_1) = true := decide_eq_true c8
     clear c8
     by_cases c9 : x9_1 < (t970.length : Int)
     ·
      rw [if_pos c9] at H
      have c9b0 : decide (x9_1 < (t970.length : Int)) = true := decide_eq_true c9
      clear c9
      replace H := Option.bind_eq_some_iff.mp H
      obtain ⟨t975, A100, H⟩ := H
      replace H : (if t975 < 0 then (if x3_1.length < 3518437208883 then (classes_Words.l0 k1 (x3_1 ++ [(⟨(rd_T24 t970 x9_1).f0, (rd_T24 t970 x9_1).f1⟩ : S24)]) t970 (t970.length : Int) (wrap64 (x9_1 + 1))) else (none)) else (classes_Words.l0 k1 x3_1 t970 (t970.length : Int) (wrap64 (x9_1 + 1)))) = some r := H
      have A10 := Aside0.mk A100
      clear A100
      by_cases c11 : t975 < 0
      ·
       rw [if_pos c11] at H
       have c11b0 : decide (t975 < 0) = true := decide_eq_true c11
       clear c11
       by_cases c12 : x3_1.length < 3518437208883
       ·
        rw [if_pos c12] at H
        have LMc12 := Aside0.mk c12
        clear c12
        obtain ⟨y976, hy976⟩ : ∃ y_ : List (S24), y_ = (x3_1 ++ [(⟨(rd_T24 t970 x9_1).f0, (rd_T24 t970 x9_1).f1⟩ : S24)]) := ⟨_, rfl⟩
        replace H : (classes_Words.l0 k1 y976 t970 (t970.length : Int) (wrap64 (x9_1 + 1))) = some r := by first | (rw [hy976]; with_reducible exact H) | (have H2_ := (Option.bind_some _ _).symm.trans H; rw [hy976]; with_reducible exact H2_) | (have H2_ := (Option.bind_some _ _).symm.trans H; with_reducible exact H2_) | with_reducible exact H | (rw [hy976]; exact H) | exact H
        have Ny976 := Aside0.mk hy976
        clear hy976
        have H' := Aside0.mk H
        clear H
        have p973 : 0 ≤ (x9_1 : Int) := of_decide_eq_true (by first | (with_reducible assumption) | assumption)
        have q973 : x9_1 < (t970.length : Int) := of_decide_eq_true (by first | (with_reducible assumption) | assumption)
        obtain ⟨ad973, A973_1, c973_1, e973, hx973_0, hx973_1, hl973_1, hi973_1⟩ := at_T24 (Kd.N_reads' HO_7.out).2.2 x9_1 p973 q973
        cases e973
        obtain ⟨ce973, hce973, hMe973, hcc973⟩ := Kd.N_get HO_7.out z24 x9_1 p973 (by first | exact q973 | exact of_decide_eq_true (by first | (with_reducible assumption) | assumption) | (have e_ := (Kd.N_reads' HO_7.out).1; omega))
        obtain ⟨ua973_1, uc973_1, rfl, ul973_1, ge973_1⟩ := k24_openF hMe973
        have hv973_1 := hcc973 1 _ rfl
        rw [add_field _ _ 1 (by omega)] at hv973_1
        replace hv973_1 := Option.some.inj (hv973_1.symm.trans hx973_1)
        injection hv973_1 with hva_ hvn_ hvc_
        rw [hva_] at ge973_1
        rw [hvc_] at ul973_1
        have HL973_1 := Aside0.mk (show Kd.V k85 85 _ w.heap.size _ _ ((rd_T24 t970 x9_1).f1) from Kd.V_mk ul973_1 ge973_1)
        clear hva_ hvn_ hvc_ ge973_1 ul973_1
        clear hcc973 hce973
        have HR973_1 := Aside0.mk hi973_1
        have HC973_1 := Aside0.mk hl973_1
        clear hi973_1 hl973_1
        replace p973 := eq_true p973
        replace q973 := eq_true q973
        go_wp2_with (first | ((with_reducible refine gate_dst (N := 5) rfl ?_); refine box_event ?hg (N := 5) ?hd (cs := #[.string (⟨#[]⟩ : ByteArray), .slice none 0 0]) (t := 24) ?hr ?_; (case hd => rfl); (case hg => rfl); (case hr => first | (go_simp; done) | (go_simp; rfl)); intro gb974 hg w13 hbox hb; have n0_ := Aside0.mk (Kd.N_below (Kd.N_elderB (by (with_reducible repeat (first | apply Kd.N_alloc | apply Kd.N_drewN | apply Kd.N_drew)); exact HO_3.out) gb974 (Nat.le_of_eq hg.symm)) hb); have n1_ := Aside0.mk (Kd.N_below (Kd.N_elderB (by (with_reducible repeat (first | apply Kd.N_alloc | apply Kd.N_drewN | apply Kd.N_drew)); exact HO_7.out) gb974 (Nat.le_of_eq hg.symm)) hb); have n2_ := Aside0.mk (Kd.V_below (Kd.V_elderB (by (with_reducible repeat (first | apply Kd.V_alloc | apply Kd.V_drewN | apply Kd.V_drew)); exact HL973_1.out) gb974 (Nat.le_of_eq hg.symm)) hb); have n3_ := Aside0.mk (blk_below (g := gb969) (o := .cells #[.string a0_0, .slice A0_1 l0_1.length c0_1] 24 (0, 0)) (by (with_reducible repeat (first | refine blk_drewN ?_ _ | refine blk_drew ?_ | refine blk_alloc ?_ _)); exact BK969.out) hb); have n4_ := Aside0.mk (Kd.C_below (by repeat (first | (with_reducible exact HR973_1.out) | (with_reducible refine Kd.C_alloc ?_ _) | (with_reducible refine Kd.C_drewN ?_ _) | (with_reducible refine Kd.C_drew ?_) | exact HR973_1.out)) hb); have n5_ := Aside0.mk (below_step (by repeat (first | (with_reducible first | exact HB.out | apply below_alloc | apply pw_below_drewN | apply below_drew1 | refine below_set ?_ GE969.out) | exact HB.out)) hb); have n6_ := Aside0.mk (hbox); have n7_ := Aside0.mk ((by rw [hg]; exact (below_size (by repeat (first | (with_reducible first | exact HB.out | apply below_alloc | apply pw_below_drewN | apply below_drew1 | refine below_set ?_ GE969.out) | exact HB.out))) : w.heap.size ≤ gb974)); have n8_ := Aside0.mk ((by rw [hg]; exact (below_size (by repeat (first | (with_reducible first | exact HB.out | apply below_alloc | apply pw_below_drewN | apply below_drew1 | refine below_set ?_ GE969.out) | exact HB.out))) : w.heap.size ≤ gb974)); have n9_ := Aside0.mk ((by rw [hg]; exact Nat.ne_of_lt (blk_lt (g := gb969) (o := .cells #[.string a0_0, .slice A0_1 l0_1.length c0_1] 24 (0, 0)) (by (with_reducible repeat (first | refine blk_drewN ?_ _ | refine blk_drew ?_ | refine blk_alloc ?_ _)); exact BK969.out)) : gb969 ≠ gb974)); have n10_ := Aside0.mk ((by rw [hg]; exact Nat.ne_of_gt (blk_lt (g := gb969) (o := .cells #[.string a0_0, .slice A0_1 l0_1.length c0_1] 24 (0, 0)) (by (with_reducible repeat (first | refine blk_drewN ?_ _ | refine blk_drew ?_ | refine blk_alloc ?_ _)); exact BK969.out)) : gb974 ≠ gb969)); clear HO_3; clear HO_7; clear HL973_1; clear BK969; clear HR973_1; clear HB; have HO_3 := n0_; have HO_7 := n1_; have HL973_1 := n2_; have BK969 := n3_; have HR973_1 := n4_; have HB := n5_; have BK974 := n6_; have GW974 := n7_; have GE974 := n8_; have NB969_974 := n9_; have NB974_969 := n10_; clear n0_ n1_ n2_ n3_ n4_ n5_ n6_ n7_ n8_ n9_ n10_; clear hb hbox hg; have hnb14 := NB974_969.out; have hnc14 := NB969_974.out; have hcz15_0 : w13.cell? ⟨gb974, 0, none⟩ = some (.string (⟨#[]⟩ : ByteArray)) := (blk_cell BK974.out 0).trans rfl; have hcz15_1 : w13.cell? ⟨gb974, 1, none⟩ = some (.slice none 0 0) := (blk_cell BK974.out 1).trans rfl; have hfz15_0 := blk_frozen BK974.out 0; have hfz15_1 := blk_frozen BK974.out 1; obtain ⟨Ao16, co16, eo16⟩ := Kd.N_slice HO_3.out; subst eo16) | ((with_reducible refine gate_callee (f := 109) rfl ?_); refine goesL_ (some 16) rfl rfl Try.func109 (by kernel_rfl) rfl #[.slice Ao16 x3_1.length co16, .string ((rd_T24 t970 x9_1).f0)] rfl (by (try simp only [List.map_toArray, List.map_cons, List.map_nil]); first | done | rfl | (simp only [List.length_drop, List.length_take]; rfl)) ?_; (with_reducible refine (classes_place.calls _ _ x3_1 ((rd_T24 t970 x9_1).f0) t975 _ ?side1 ?side2 A10.out).mono ?_); (case side1 => refine (Kd.N_reads' (e := 24) (base := w.heap.size) (ok := fun k_ => (((w.heap.size ≤ k_) ∧ (some k_ ≠ (.slice (some ad973) t970.length co6 : Value).ownBlock ∧ k_ ≠ gb969)) ∧ k_ ≠ gb974)) (n := x3_1.length) (c := co16) ?_).2.2; exact (by (with_reducible repeat (first | apply Kd.N_alloc | apply Kd.N_drewN | apply Kd.N_drew)); exact (Kd.N_mono (Kd.N_far (p := ⟨gb974, 1, none⟩) (Kd.N_far (p := ⟨gb974, 0, none⟩) (Kd.N_mono HO_3.out (fun k_ hk => (⟨hk, hk.2⟩ : _ ∧ k_ ≠ gb974))) (fun _ hk => hk.2) (.string ((rd_T24 t970 x9_1).f0))) (fun _ hk => hk.2) (.slice A973_1 ((rd_T24 t970 x9_1).f1).length c973_1)) (fun _ h_ => h_.1)))); (case side2 => exact (Kd.N_reads' HO_3.out).2.1); rintro e w17 ⟨rfl, hb⟩; refine ⟨_, rfl, ?_⟩; have n0_ := Aside0.mk (Kd.N_below (by (with_reducible repeat (first | apply Kd.N_alloc | apply Kd.N_drewN | apply Kd.N_drew)); exact (Kd.N_mono (Kd.N_far (p := ⟨gb974, 1, none⟩) (Kd.N_far (p := ⟨gb974, 0, none⟩) (Kd.N_mono HO_3.out (fun k_ hk => (⟨hk, hk.2⟩ : _ ∧ k_ ≠ gb974))) (fun _ hk => hk.2) (.string ((rd_T24 t970 x9_1).f0))) (fun _ hk => hk.2) (.slice A973_1 ((rd_T24 t970 x9_1).f1).length c973_1)) (fun _ h_ => h_.1))) hb); have n1_ := Aside0.mk (Kd.N_below (by (with_reducible repeat (first | apply Kd.N_alloc | apply Kd.N_drewN | apply Kd.N_drew)); exact (Kd.N_mono (Kd.N_far (p := ⟨gb974, 1, none⟩) (Kd.N_far (p := ⟨gb974, 0, none⟩) (Kd.N_mono HO_7.out (fun k_ hk => (⟨hk, hk.2⟩ : _ ∧ k_ ≠ gb974))) (fun _ hk => hk.2) (.string ((rd_T24 t970 x9_1).f0))) (fun _ hk => hk.2) (.slice A973_1 ((rd_T24 t970 x9_1).f1).length c973_1)) (fun _ h_ => h_.1))) hb); have n2_ := Aside0.mk (Kd.V_below (by (with_reducible repeat (first | apply Kd.V_alloc | apply Kd.V_drewN | apply Kd.V_drew)); exact (Kd.V_mono (Kd.V_far (p := ⟨gb974, 1, none⟩) (Kd.V_far (p := ⟨gb974, 0, none⟩) (Kd.V_mono HL973_1.out (fun k_ hk => (⟨hk, hk.2⟩ : _ ∧ k_ ≠ gb974))) (fun _ hk => hk.2) (.string ((rd_T24 t970 x9_1).f0))) (fun _ hk => hk.2) (.slice A973_1 ((rd_T24 t970 x9_1).f1).length c973_1)) (fun _ h_ => h_.1))) hb); have n3_ := Aside0.mk (blk_below (g := gb969) (o := .cells #[.string a0_0, .slice A0_1 l0_1.length c0_1] 24 (0, 0)) (by (with_reducible repeat (first | refine blk_drewN ?_ _ | refine blk_drew ?_ | refine blk_alloc ?_ _)); refine blk_far ?_ NB969_974.out _; (with_reducible repeat (first | refine blk_drewN ?_ _ | refine blk_drew ?_ | refine blk_alloc ?_ _)); refine blk_far ?_ NB969_974.out _; (with_reducible repeat (first | refine blk_drewN ?_ _ | refine blk_drew ?_ | refine blk_alloc ?_ _)); exact BK969.out) hb); have n4_ := Aside0.mk (Kd.C_below ((Kd.V_reads' (by (with_reducible repeat (first | apply Kd.V_alloc | apply Kd.V_drewN | apply Kd.V_drew)); exact (Kd.V_mono (Kd.V_far (p := ⟨gb974, 1, none⟩) (Kd.V_far (p := ⟨gb974, 0, none⟩) (Kd.V_mono HL973_1.out (fun k_ hk => (⟨hk, hk.2⟩ : _ ∧ k_ ≠ gb974))) (fun _ hk => hk.2) (.string ((rd_T24 t970 x9_1).f0))) (fun _ hk => hk.2) (.slice A973_1 ((rd_T24 t970 x9_1).f1).length c973_1)) (fun _ h_ => h_.1)))).2.2) hb); have n5_ := Aside0.mk (blk_below (g := gb974) (o := .cells #[.string ((rd_T24 t970 x9_1).f0), .slice A973_1 ((rd_T24 t970 x9_1).f1).length c973_1] 24 (0, 0)) (by (with_reducible repeat (first | refine blk_drewN ?_ _ | refine blk_drew ?_ | refine blk_alloc ?_ _)); refine blk_put (cs := #[.string ((rd_T24 t970 x9_1).f0), .slice none 0 0]) ?_ 1 _ rfl; (with_reducible repeat (first | refine blk_drewN ?_ _ | refine blk_drew ?_ | refine blk_alloc ?_ _)); refine blk_put (cs := #[.string (⟨#[]⟩ : ByteArray), .slice none 0 0]) ?_ 0 _ rfl; (with_reducible repeat (first | refine blk_drewN ?_ _ | refine blk_drew ?_ | refine blk_alloc ?_ _)); exact BK974.out) hb); have n6_ := Aside0.mk (below_step (by repeat (first | (with_reducible first | exact HB.out | apply below_alloc | apply pw_below_drewN | apply below_drew1 | refine below_set ?_ GE969.out | refine below_set ?_ GE974.out) | exact HB.out)) hb); clear HO_3; clear HO_7; clear HL973_1; clear BK969; clear HR973_1; clear BK974; clear HB; have HO_3 := n0_; have HO_7 := n1_; have HL973_1 := n2_; have BK969 := n3_; have HR973_1 := n4_; have BK974 := n5_; have HB := n6_; clear n0_ n1_ n2_ n3_ n4_ n5_ n6_; (try clear hb); (try clear hb2); (try clear hk); (try clear hi); have hcz18_0 : w17.cell? ⟨gb974, 0, none⟩ = some (.string ((rd_T24 t970 x9_1).f0)) := (blk_cell BK974.out 0).trans rfl; have hcz18_1 : w17.cell? ⟨gb974, 1, none⟩ = some (.slice A973_1 ((rd_T24 t970 x9_1).f1).length c973_1) := (blk_cell BK974.out 1).trans rfl; have hfz18_0 := blk_frozen BK974.out 0; have hfz18_1 := blk_frozen BK974.out 1) | ((with_reducible refine gate_builtin (b := .append) (xs := #[.tmp 18, .tmp 20]) rfl ?_); at_builtin; refine Kd.N_append k24 (w0 := w) w.heap.size rfl (.tmp 18) (.tmp 20) 67 24 (.agg #[(.string ⟨#[]⟩), (.slice none 0 0)]) 40 rfl Try.underlying67 info24 rfl (by decide) (by omega) (.slice Ao16 x3_1.length co16) x3_1 (⟨(rd_T24 t970 x9_1).f0, (rd_T24 t970 x9_1).f1⟩ : S24) [.string ((rd_T24 t970 x9_1).f0), .slice A973_1 ((rd_T24 t970 x9_1).f1).length c973_1] (fun k_ => (w.heap.size ≤ k_) ∧ some k_ ≠ (.slice (some ad973) t970.length co6 : Value).ownBlock ∧ k_ ≠ gb969 ∧ k_ ≠ gb974) (fun k_ => ((fun k_ => (w.heap.size ≤ k_) ∧ some k_ ≠ (.slice (some ad973) t970.length co6 : Value).ownBlock ∧ k_ ≠ gb969 ∧ k_ ≠ gb974)) k_ ∧ some k_ ≠ (.slice Ao16 x3_1.length co16 : Value).ownBlock) rfl rfl ?aP (fun _ hk => hk) ?aF ?aO ?aB ?aS ?aL ?_; (case aP => exact (k24_mkF _ _ (⟨(rd_T24 t970 x9_1).f0, (rd_T24 t970 x9_1).f1⟩ : S24) (Kd.V_reads' (Kd.V_mono (ok' := (fun k_ => ((fun k_ => (w.heap.size ≤ k_) ∧ some k_ ≠ (.slice (some ad973) t970.length co6 : Value).ownBlock ∧ k_ ≠ gb969 ∧ k_ ≠ gb974)) k_ ∧ some k_ ≠ (.slice Ao16 x3_1.length co16 : Value).ownBlock)) (HL973_1.out) (fun k_ hk => ⟨⟨hk.1.1.1, ⟨hk.1.2, ⟨hk.1.1.2.2, hk.2⟩⟩⟩, hk.1.1.2.1⟩))).2.1 (Kd.V_F (Kd.V_mono (ok' := (fun k_ => ((fun k_ => (w.heap.size ≤ k_) ∧ some k_ ≠ (.slice (some ad973) t970.length co6 : Value).ownBlock ∧ k_ ≠ gb969 ∧ k_ ≠ gb974)) k_ ∧ some k_ ≠ (.slice Ao16 x3_1.length co16 : Value).ownBlock)) (HL973_1.out) (fun k_ hk => ⟨⟨hk.1.1.1, ⟨hk.1.2, ⟨hk.1.1.2.2, hk.2⟩⟩⟩, hk.1.1.2.1⟩))))); (case aB => exact (by repeat (first | (with_reducible first | exact HB.out | apply below_alloc | apply pw_below_drewN | apply below_drew1 | refine below_set ?_ GE969.out | refine below_set ?_ GE974.out) | exact HB.out))); (case aF => exact (fun k_ hk => ⟨(Nat.le_trans (below_size (by repeat (first | (with_reducible first | exact HB.out | apply below_alloc | apply pw_below_drewN | apply below_drew1 | refine below_set ?_ GE969.out | refine below_set ?_ GE974.out) | exact HB.out))) hk), Kd.fresh' (Kd.N_lt (by (with_reducible repeat (first | apply Kd.N_alloc | apply Kd.N_drewN | apply Kd.N_drew)); exact HO_7.out)) k_ hk, Kd.freshB (g := gb969) (o := .cells #[.string a0_0, .slice A0_1 l0_1.length c0_1] 24 (0, 0)) (by (with_reducible repeat (first | refine blk_drewN ?_ _ | refine blk_drew ?_ | refine blk_alloc ?_ _)); exact BK969.out) k_ hk, Kd.freshB (g := gb974) (o := .cells #[.string ((rd_T24 t970 x9_1).f0), .slice A973_1 ((rd_T24 t970 x9_1).f1).length c973_1] 24 (0, 0)) (by (with_reducible repeat (first | refine blk_drewN ?_ _ | refine blk_drew ?_ | refine blk_alloc ?_ _)); exact BK974.out) k_ hk⟩)); (case aO => exact (by (with_reducible repeat (first | apply Kd.N_alloc | apply Kd.N_drewN | apply Kd.N_drew)); exact Kd.N_mono HO_3.out (fun _ hk => ⟨hk.1.1, ⟨hk.1.2.1, ⟨hk.1.2.2, hk.2⟩⟩⟩))); (case aS => exact (below_size (by repeat (first | (with_reducible first | exact HB.out | apply below_alloc | apply pw_below_drewN | apply below_drew1 | refine below_set ?_ GE969.out | refine below_set ?_ GE974.out) | exact HB.out)))); (case aL => have := LMc12.out; omega); intro v977 w19 ho hb hg hat; rw [← Ny976.out] at ho; have n0_ := Aside0.mk (Kd.N_afterv (ok := (fun k_ => (w.heap.size ≤ k_) ∧ k_ ≠ gb969 ∧ k_ ≠ gb974)) (by (with_reducible repeat (first | apply Kd.N_alloc | apply Kd.N_drewN | apply Kd.N_drew)); exact Kd.N_mono HO_7.out (fun _ hk => ⟨⟨hk.1.1, ⟨hk.1.2.2, hk.2⟩⟩, hk.1.2.1⟩)) hg hat); have n1_ := Aside0.mk (blk_grown (g := gb969) (o := .cells #[.string a0_0, .slice A0_1 l0_1.length c0_1] 24 (0, 0)) (by (with_reducible repeat (first | refine blk_drewN ?_ _ | refine blk_drew ?_ | refine blk_alloc ?_ _)); exact BK969.out) hg (Kd.N_away HO_3.out (fun _ hk => hk.1.2.2))); have n2_ := Aside0.mk (Kd.V_afterv (ok := (fun k_ => (w.heap.size ≤ k_) ∧ some k_ ≠ (.slice (some ad973) t970.length co6 : Value).ownBlock ∧ k_ ≠ gb969 ∧ k_ ≠ gb974)) (by (with_reducible repeat (first | apply Kd.V_alloc | apply Kd.V_drewN | apply Kd.V_drew)); exact Kd.V_mono HL973_1.out (fun _ hk => ⟨⟨hk.1.1.1, ⟨hk.1.2, ⟨hk.1.1.2.2, hk.2⟩⟩⟩, hk.1.1.2.1⟩)) hg hat); have n3_ := Aside0.mk (blk_grown (g := gb974) (o := .cells #[.string ((rd_T24 t970 x9_1).f0), .slice A973_1 ((rd_T24 t970 x9_1).f1).length c973_1] 24 (0, 0)) (by (with_reducible repeat (first | refine blk_drewN ?_ _ | refine blk_drew ?_ | refine blk_alloc ?_ _)); exact BK974.out) hg (Kd.N_away HO_3.out (fun _ hk => hk.2))); have n4_ := Aside0.mk (hb); have n5_ := Aside0.mk (ho); clear HO_7; clear BK969; clear HL973_1; clear BK974; clear HB; clear HO_3; have HO_7 := n0_; have BK969 := n1_; have HL973_1 := n2_; have BK974 := n3_; have HB := n4_; have HO978 := n5_; clear n0_ n1_ n2_ n3_ n4_ n5_; clear ho hb hg hat))
        go_roundg k1
        case measure => have := HK1.out; omega
        case rel => exact ⟨(y976), (wrap64 (x9_1 + 1)), (by first | rfl | (simp; done) | (simp [*]; done)), H', ⟨by have := HK1.out; omega⟩, ⟨by (with_reducible repeat (first | apply Kd.N_alloc | apply Kd.N_drewN | apply Kd.N_drew)); exact Kd.N_mono HO978.out (fun _ hk => ⟨hk.1, ⟨hk.2.1, hk.2.2.1⟩⟩)⟩, ⟨by (with_reducible repeat (first | apply Kd.N_alloc | apply Kd.N_drewN | apply Kd.N_drew)); exact Kd.N_mono HO_7.out (fun _ hk => ⟨hk.1.1, ⟨hk.2, hk.1.2.1⟩⟩)⟩, ⟨by (with_reducible repeat (first | refine blk_drewN ?_ _ | refine blk_drew ?_ | refine blk_alloc ?_ _)); exact BK969.out⟩, ⟨by repeat (first | (with_reducible first | exact HB.out | apply below_alloc | apply pw_below_drewN | apply below_drew1 | refine below_set ?_ GE969.out | refine below_set ?_ GE974.out) | exact HB.out)⟩⟩
       ·
        rw [if_neg c12] at H
        exact absurd H (by simp)
      ·
       rw [if_neg c11] at H
       have c11b0 : decide (t975 < 0) = false := decide_eq_false c11
       clear c11
       have H' := Aside0.mk H
       clear H
       have p973 : 0 ≤ (x9_1 : Int) := of_decide_eq_true (by first | (with_reducible assumption) | assumption)
       have q973 : x9_1 < (t970.length : Int) := of_decide_eq_true (by first | (with_reducible assumption) | assumption)
       obtain ⟨ad973, A973_1, c973_1, e973, hx973_0, hx973_1, hl973_1, hi973_1⟩ := at_T24 (Kd.N_reads' HO_7.out).2.2 x9_1 p973 q973
       cases e973
       obtain ⟨ce973, hce973, hMe973, hcc973⟩ := Kd.N_get HO_7.out z24 x9_1 p973 (by first | exact q973 | exact of_decide_eq_true (by first | (with_reducible assumption) | assumption) | (have e_ := (Kd.N_reads' HO_7.out).1; omega))
       obtain ⟨ua973_1, uc973_1, rfl, ul973_1, ge973_1⟩ := k24_openF hMe973
       have hv973_1 := hcc973 1 _ rfl
       rw [add_field _ _ 1 (by omega)] at hv973_1
       replace hv973_1 := Option.some.inj (hv973_1.symm.trans hx973_1)
       injection hv973_1 with hva_ hvn_ hvc_
       rw [hva_] at ge973_1
       rw [hvc_] at ul973_1
       have HL973_1 := Aside0.mk (show Kd.V k85 85 _ w.heap.size _ _ ((rd_T24 t970 x9_1).f1) from Kd.V_mk ul973_1 ge973_1)
       clear hva_ hvn_ hvc_ ge973_1 ul973_1
       clear hcc973 hce973
       have HR973_1 := Aside0.mk hi973_1
       have HC973_1 := Aside0.mk hl973_1
       clear hi973_1 hl973_1
       replace p973 := eq_true p973
       replace q973 := eq_true q973
       go_wp2_with (first | ((with_reducible refine gate_dst (N := 5) rfl ?_); refine box_event ?hg (N := 5) ?hd (cs := #[.string (⟨#[]⟩ : ByteArray), .slice none 0 0]) (t := 24) ?hr ?_; (case hd => rfl); (case hg => rfl); (case hr => first | (go_simp; done) | (go_simp; rfl)); intro gb974 hg w20 hbox hb; have n0_ := Aside0.mk (Kd.N_below (Kd.N_elderB (by (with_reducible repeat (first | apply Kd.N_alloc | apply Kd.N_drewN | apply Kd.N_drew)); exact HO_3.out) gb974 (Nat.le_of_eq hg.symm)) hb); have n1_ := Aside0.mk (Kd.N_below (Kd.N_elderB (by (with_reducible repeat (first | apply Kd.N_alloc | apply Kd.N_drewN | apply Kd.N_drew)); exact HO_7.out) gb974 (Nat.le_of_eq hg.symm)) hb); have n2_ := Aside0.mk (Kd.V_below (Kd.V_elderB (by (with_reducible repeat (first | apply Kd.V_alloc | apply Kd.V_drewN | apply Kd.V_drew)); exact HL973_1.out) gb974 (Nat.le_of_eq hg.symm)) hb); have n3_ := Aside0.mk (blk_below (g := gb969) (o := .cells #[.string a0_0, .slice A0_1 l0_1.length c0_1] 24 (0, 0)) (by (with_reducible repeat (first | refine blk_drewN ?_ _ | refine blk_drew ?_ | refine blk_alloc ?_ _)); exact BK969.out) hb); have n4_ := Aside0.mk (Kd.C_below (by repeat (first | (with_reducible exact HR973_1.out) | (with_reducible refine Kd.C_alloc ?_ _) | (with_reducible refine Kd.C_drewN ?_ _) | (with_reducible refine Kd.C_drew ?_) | exact HR973_1.out)) hb); have n5_ := Aside0.mk (below_step (by repeat (first | (with_reducible first | exact HB.out | apply below_alloc | apply pw_below_drewN | apply below_drew1 | refine below_set ?_ GE969.out) | exact HB.out)) hb); have n6_ := Aside0.mk (hbox); have n7_ := Aside0.mk ((by rw [hg]; exact (below_size (by repeat (first | (with_reducible first | exact HB.out | apply below_alloc | apply pw_below_drewN | apply below_drew1 | refine below_set ?_ GE969.out) | exact HB.out))) : w.heap.size ≤ gb974)); have n8_ := Aside0.mk ((by rw [hg]; exact (below_size (by repeat (first | (with_reducible first | exact HB.out | apply below_alloc | apply pw_below_drewN | apply below_drew1 | refine below_set ?_ GE969.out) | exact HB.out))) : w.heap.size ≤ gb974)); have n9_ := Aside0.mk ((by rw [hg]; exact Nat.ne_of_lt (blk_lt (g := gb969) (o := .cells #[.string a0_0, .slice A0_1 l0_1.length c0_1] 24 (0, 0)) (by (with_reducible repeat (first | refine blk_drewN ?_ _ | refine blk_drew ?_ | refine blk_alloc ?_ _)); exact BK969.out)) : gb969 ≠ gb974)); have n10_ := Aside0.mk ((by rw [hg]; exact Nat.ne_of_gt (blk_lt (g := gb969) (o := .cells #[.string a0_0, .slice A0_1 l0_1.length c0_1] 24 (0, 0)) (by (with_reducible repeat (first | refine blk_drewN ?_ _ | refine blk_drew ?_ | refine blk_alloc ?_ _)); exact BK969.out)) : gb974 ≠ gb969)); clear HO_3; clear HO_7; clear HL973_1; clear BK969; clear HR973_1; clear HB; have HO_3 := n0_; have HO_7 := n1_; have HL973_1 := n2_; have BK969 := n3_; have HR973_1 := n4_; have HB := n5_; have BK974 := n6_; have GW974 := n7_; have GE974 := n8_; have NB969_974 := n9_; have NB974_969 := n10_; clear n0_ n1_ n2_ n3_ n4_ n5_ n6_ n7_ n8_ n9_ n10_; clear hb hbox hg; have hnb21 := NB974_969.out; have hnc21 := NB969_974.out; have hcz22_0 : w20.cell? ⟨gb974, 0, none⟩ = some (.string (⟨#[]⟩ : ByteArray)) := (blk_cell BK974.out 0).trans rfl; have hcz22_1 : w20.cell? ⟨gb974, 1, none⟩ = some (.slice none 0 0) := (blk_cell BK974.out 1).trans rfl; have hfz22_0 := blk_frozen BK974.out 0; have hfz22_1 := blk_frozen BK974.out 1; obtain ⟨Ao23, co23, eo23⟩ := Kd.N_slice HO_3.out; subst eo23) | ((with_reducible refine gate_callee (f := 109) rfl ?_); refine goesL_ (some 16) rfl rfl Try.func109 (by kernel_rfl) rfl #[.slice Ao23 x3_1.length co23, .string ((rd_T24 t970 x9_1).f0)] rfl (by (try simp only [List.map_toArray, List.map_cons, List.map_nil]); first | done | rfl | (simp only [List.length_drop, List.length_take]; rfl)) ?_; (with_reducible refine (classes_place.calls _ _ x3_1 ((rd_T24 t970 x9_1).f0) t975 _ ?side1 ?side2 A10.out).mono ?_); (case side1 => refine (Kd.N_reads' (e := 24) (base := w.heap.size) (ok := fun k_ => (((w.heap.size ≤ k_) ∧ (some k_ ≠ (.slice (some ad973) t970.length co6 : Value).ownBlock ∧ k_ ≠ gb969)) ∧ k_ ≠ gb974)) (n := x3_1.length) (c := co23) ?_).2.2; exact (by (with_reducible repeat (first | apply Kd.N_alloc | apply Kd.N_drewN | apply Kd.N_drew)); exact (Kd.N_mono (Kd.N_far (p := ⟨gb974, 1, none⟩) (Kd.N_far (p := ⟨gb974, 0, none⟩) (Kd.N_mono HO_3.out (fun k_ hk => (⟨hk, hk.2⟩ : _ ∧ k_ ≠ gb974))) (fun _ hk => hk.2) (.string ((rd_T24 t970 x9_1).f0))) (fun _ hk => hk.2) (.slice A973_1 ((rd_T24 t970 x9_1).f1).length c973_1)) (fun _ h_ => h_.1)))); (case side2 => exact (Kd.N_reads' HO_3.out).2.1); rintro e w24 ⟨rfl, hb⟩; refine ⟨_, rfl, ?_⟩; have n0_ := Aside0.mk (Kd.N_below (by (with_reducible repeat (first | apply Kd.N_alloc | apply Kd.N_drewN | apply Kd.N_drew)); exact (Kd.N_mono (Kd.N_far (p := ⟨gb974, 1, none⟩) (Kd.N_far (p := ⟨gb974, 0, none⟩) (Kd.N_mono HO_3.out (fun k_ hk => (⟨hk, hk.2⟩ : _ ∧ k_ ≠ gb974))) (fun _ hk => hk.2) (.string ((rd_T24 t970 x9_1).f0))) (fun _ hk => hk.2) (.slice A973_1 ((rd_T24 t970 x9_1).f1).length c973_1)) (fun _ h_ => h_.1))) hb); have n1_ := Aside0.mk (Kd.N_below (by (with_reducible repeat (first | apply Kd.N_alloc | apply Kd.N_drewN | apply Kd.N_drew)); exact (Kd.N_mono (Kd.N_far (p := ⟨gb974, 1, none⟩) (Kd.N_far (p := ⟨gb974, 0, none⟩) (Kd.N_mono HO_7.out (fun k_ hk => (⟨hk, hk.2⟩ : _ ∧ k_ ≠ gb974))) (fun _ hk => hk.2) (.string ((rd_T24 t970 x9_1).f0))) (fun _ hk => hk.2) (.slice A973_1 ((rd_T24 t970 x9_1).f1).length c973_1)) (fun _ h_ => h_.1))) hb); have n2_ := Aside0.mk (Kd.V_below (by (with_reducible repeat (first | apply Kd.V_alloc | apply Kd.V_drewN | apply Kd.V_drew)); exact (Kd.V_mono (Kd.V_far (p := ⟨gb974, 1, none⟩) (Kd.V_far (p := ⟨gb974, 0, none⟩) (Kd.V_mono HL973_1.out (fun k_ hk => (⟨hk, hk.2⟩ : _ ∧ k_ ≠ gb974))) (fun _ hk => hk.2) (.string ((rd_T24 t970 x9_1).f0))) (fun _ hk => hk.2) (.slice A973_1 ((rd_T24 t970 x9_1).f1).length c973_1)) (fun _ h_ => h_.1))) hb); have n3_ := Aside0.mk (blk_below (g := gb969) (o := .cells #[.string a0_0, .slice A0_1 l0_1.length c0_1] 24 (0, 0)) (by (with_reducible repeat (first | refine blk_drewN ?_ _ | refine blk_drew ?_ | refine blk_alloc ?_ _)); refine blk_far ?_ NB969_974.out _; (with_reducible repeat (first | refine blk_drewN ?_ _ | refine blk_drew ?_ | refine blk_alloc ?_ _)); refine blk_far ?_ NB969_974.out _; (with_reducible repeat (first | refine blk_drewN ?_ _ | refine blk_drew ?_ | refine blk_alloc ?_ _)); exact BK969.out) hb); have n4_ := Aside0.mk (Kd.C_below ((Kd.V_reads' (by (with_reducible repeat (first | apply Kd.V_alloc | apply Kd.V_drewN | apply Kd.V_drew)); exact (Kd.V_mono (Kd.V_far (p := ⟨gb974, 1, none⟩) (Kd.V_far (p := ⟨gb974, 0, none⟩) (Kd.V_mono HL973_1.out (fun k_ hk => (⟨hk, hk.2⟩ : _ ∧ k_ ≠ gb974))) (fun _ hk => hk.2) (.string ((rd_T24 t970 x9_1).f0))) (fun _ hk => hk.2) (.slice A973_1 ((rd_T24 t970 x9_1).f1).length c973_1)) (fun _ h_ => h_.1)))).2.2) hb); have n5_ := Aside0.mk (blk_below (g := gb974) (o := .cells #[.string ((rd_T24 t970 x9_1).f0), .slice A973_1 ((rd_T24 t970 x9_1).f1).length c973_1] 24 (0, 0)) (by (with_reducible repeat (first | refine blk_drewN ?_ _ | refine blk_drew ?_ | refine blk_alloc ?_ _)); refine blk_put (cs := #[.string ((rd_T24 t970 x9_1).f0), .slice none 0 0]) ?_ 1 _ rfl; (with_reducible repeat (first | refine blk_drewN ?_ _ | refine blk_drew ?_ | refine blk_alloc ?_ _)); refine blk_put (cs := #[.string (⟨#[]⟩ : ByteArray), .slice none 0 0]) ?_ 0 _ rfl; (with_reducible repeat (first | refine blk_drewN ?_ _ | refine blk_drew ?_ | refine blk_alloc ?_ _)); exact BK974.out) hb); have n6_ := Aside0.mk (below_step (by repeat (first | (with_reducible first | exact HB.out | apply below_alloc | apply pw_below_drewN | apply below_drew1 | refine below_set ?_ GE969.out | refine below_set ?_ GE974.out) | exact HB.out)) hb); clear HO_3; clear HO_7; clear HL973_1; clear BK969; clear HR973_1; clear BK974; clear HB; have HO_3 := n0_; have HO_7 := n1_; have HL973_1 := n2_; have BK969 := n3_; have HR973_1 := n4_; have BK974 := n5_; have HB := n6_; clear n0_ n1_ n2_ n3_ n4_ n5_ n6_; (try clear hb); (try clear hb2); (try clear hk); (try clear hi)))
       go_roundg k1
       case measure => have := HK1.out; omega
       case rel => exact ⟨(x3_1), (wrap64 (x9_1 + 1)), (by first | rfl | (simp; done) | (simp [*]; done)), H', ⟨by have := HK1.out; omega⟩, ⟨by (with_reducible repeat (first | apply Kd.N_alloc | apply Kd.N_drewN | apply Kd.N_drew)); exact Kd.N_mono HO_3.out (fun _ hk => ⟨hk.1.1, ⟨hk.1.2.1, hk.1.2.2⟩⟩)⟩, ⟨by (with_reducible repeat (first | apply Kd.N_alloc | apply Kd.N_drewN | apply Kd.N_drew)); exact Kd.N_mono HO_7.out (fun _ hk => ⟨hk.1.1, ⟨hk.1.2.1, hk.1.2.2⟩⟩)⟩, ⟨by (with_reducible repeat (first | refine blk_drewN ?_ _ | refine blk_drew ?_ | refine blk_alloc ?_ _)); exact BK969.out⟩, ⟨by repeat (first | (with_reducible first | exact HB.out | apply below_alloc | apply pw_below_drewN | apply below_drew1 | refine below_set ?_ GE969.out | refine below_set ?_ GE974.out) | exact HB.out)⟩⟩
     ·
      rw [if_neg c9] at H
      exact absurd H (by simp)
    ·
     rw [if_neg c8] at H
     exact absurd H (by simp)
   ·
    rw [if_neg c7] at H
    have c7b0 : decide (x9_1 < (t970.length : Int)) = false := decide_eq_false c7
    clear c7
    obtain rfl := Option.some.inj H
    go_wp2
    go_ret
    exact ⟨_, by first | rfl | (simp [errW_none, errW_some] <;> rfl) | (simp [*, errW_none, errW_some] <;> rfl), by (with_reducible repeat (first | apply Kd.N_alloc | apply Kd.N_drewN | apply Kd.N_drew)); exact Kd.N_mono HO_3.out (fun _ hk => hk.1), by repeat (first | (with_reducible first | exact HB.out | apply below_alloc | apply pw_below_drewN | apply below_drew1 | refine below_set ?_ GE969.out) | exact HB.out)⟩

end Go.Proofs.Ytljmmhihdcnbaaa.G
