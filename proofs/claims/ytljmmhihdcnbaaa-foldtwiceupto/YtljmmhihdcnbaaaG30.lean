-- Written for this claim by hybrid.py's copy of the print program (a program of this session); not trusted: Lean checks it.
import Derived.Test.YtljmmhihdcnbaaaG0
import Derived.Test.YtljmmhihdcnbaaaG29
namespace Go.Proofs.Ytljmmhihdcnbaaa.G
open Go.RowKit Go.Proofs.YtljmmhihdcnbaaaW.PrintWords Go.Proofs.YtljmmhihdcnbaaaW.PrintLast Go.Proofs.YtljmmhihdcnbaaaW.PrintMore
attribute [local go_sem] max2_int min2_int max_two min_two max_three min_three max_four min_four   -- for this text's walks alone
set_option linter.unusedVariables false
set_option linter.unusedSimpArgs false

/-! ### glazierref01_Trim: function 56 -/
mutual
def glazierref01_Trim.j1 : Nat → List (S29) → ByteArray → Option ((List (S29)))
 | 0, _, _ => none
 | k + 1, x0, x1 => glazierref01_Trim.l1 k x0 x1
def glazierref01_Trim.l1 : Nat → List (S29) → ByteArray → Option ((List (S29)))
 | 0, _, _ => none
 | k + 1, x0, x1 => if (x0.length : Int) > 0 then (if 0 ≤ (wrap64 ((x0.length : Int) - 1)) then (if (wrap64 ((x0.length : Int) - 1)) < (x0.length : Int) then ((glazierref01_In.f k ((rd_T29 x0 (wrap64 ((x0.length : Int) - 1))).f0) x1).bind fun t341 => (if t341 = true then (if (wrap64 ((x0.length : Int) - 1)) ≤ (x0.length : Int) then (glazierref01_Trim.l1 k (x0.take ((wrap64 ((x0.length : Int) - 1)) : Int).toNat) x1) else (none)) else (some x0))) else (none)) else (none)) else (some x0)
def glazierref01_Trim.l0 : Nat → List (S29) → ByteArray → Option ((List (S29)))
 | 0, _, _ => none
 | k + 1, x0, x1 => if (x0.length : Int) > 0 then (if 0 < (x0.length : Int) then ((glazierref01_In.f k ((rd_T29 x0 0).f0) x1).bind fun t334 => (if t334 = true then (if 1 ≤ (x0.length : Int) then (glazierref01_Trim.l0 k (x0.drop 1) x1) else (none)) else (glazierref01_Trim.j1 k x0 x1))) else (none)) else (glazierref01_Trim.j1 k x0 x1)
end
def glazierref01_Trim.f (k : Nat) (l0 : List (S29)) (a1 : ByteArray) : Option ((List (S29))) := glazierref01_Trim.l0 k l0 a1
theorem glazierref01_Trim.mono_l : ∀ k, (∀ y0 y1, LeO (glazierref01_Trim.j1 k y0 y1) (glazierref01_Trim.j1 (k + 1) y0 y1)) ∧ (∀ y0 y1, LeO (glazierref01_Trim.l1 k y0 y1) (glazierref01_Trim.l1 (k + 1) y0 y1)) ∧ (∀ y0 y1, LeO (glazierref01_Trim.l0 k y0 y1) (glazierref01_Trim.l0 (k + 1) y0 y1))
 | 0 => ⟨fun _ _ r h => by simp [glazierref01_Trim.j1] at h, fun _ _ r h => by simp [glazierref01_Trim.l1] at h, fun _ _ r h => by simp [glazierref01_Trim.l0] at h⟩
 | k + 1 => by
  obtain ⟨ih0, ih1, ih2⟩ := glazierref01_Trim.mono_l k
  refine ⟨?_, ?_, ?_⟩
  ·
   intro y0 y1
   unfold glazierref01_Trim.j1
   repeat' first
   | (with_reducible exact ih0 _ _)
   | (with_reducible exact ih1 _ _)
   | (with_reducible exact ih2 _ _)
   | (with_reducible exact glazierref01_In.mono _ _ _)
   | (with_reducible exact LeO.refl _)
   | (with_reducible exact LeO.none _)
   | (with_reducible refine LeO.ite ?_ ?_)
   | (with_reducible refine LeO.bind ?_ (fun _ => ?_))
   | exact ih0 _ _
   | exact ih1 _ _
   | exact ih2 _ _
   | exact glazierref01_In.mono _ _ _
   | exact LeO.none _
   | refine LeO.ite ?_ ?_
   | refine LeO.bind ?_ (fun _ => ?_)
  ·
   intro y0 y1
   unfold glazierref01_Trim.l1
   repeat' first
   | (with_reducible exact ih0 _ _)
   | (with_reducible exact ih1 _ _)
   | (with_reducible exact ih2 _ _)
   | (with_reducible exact glazierref01_In.mono _ _ _)
   | (with_reducible exact LeO.refl _)
   | (with_reducible exact LeO.none _)
   | (with_reducible refine LeO.ite ?_ ?_)
   | (with_reducible refine LeO.bind ?_ (fun _ => ?_))
   | exact ih0 _ _
   | exact ih1 _ _
   | exact ih2 _ _
   | exact glazierref01_In.mono _ _ _
   | exact LeO.none _
   | refine LeO.ite ?_ ?_
   | refine LeO.bind ?_ (fun _ => ?_)
  ·
   intro y0 y1
   unfold glazierref01_Trim.l0
   repeat' first
   | (with_reducible exact ih0 _ _)
   | (with_reducible exact ih1 _ _)
   | (with_reducible exact ih2 _ _)
   | (with_reducible exact glazierref01_In.mono _ _ _)
   | (with_reducible exact LeO.refl _)
   | (with_reducible exact LeO.none _)
   | (with_reducible refine LeO.ite ?_ ?_)
   | (with_reducible refine LeO.bind ?_ (fun _ => ?_))
   | exact ih0 _ _
   | exact ih1 _ _
   | exact ih2 _ _
   | exact glazierref01_In.mono _ _ _
   | exact LeO.none _
   | refine LeO.ite ?_ ?_
   | refine LeO.bind ?_ (fun _ => ?_)
theorem glazierref01_Trim.mono : ∀ a0 a1 k, LeO (glazierref01_Trim.f k a0 a1) (glazierref01_Trim.f (k + 1) a0 a1) := by
 intro a0 a1 k
 obtain ⟨ih0, ih1, ih2⟩ := glazierref01_Trim.mono_l k
 unfold glazierref01_Trim.f
 repeat' first
   | (with_reducible exact ih0 _ _)
   | (with_reducible exact ih1 _ _)
   | (with_reducible exact ih2 _ _)
   | (with_reducible exact glazierref01_In.mono _ _ _)
   | (with_reducible exact LeO.refl _)
   | (with_reducible exact LeO.none _)
   | (with_reducible refine LeO.ite ?_ ?_)
   | (with_reducible refine LeO.bind ?_ (fun _ => ?_))
   | exact ih0 _ _
   | exact ih1 _ _
   | exact ih2 _ _
   | exact glazierref01_In.mono _ _ _
   | exact LeO.none _
   | refine LeO.ite ?_ ?_
   | refine LeO.bind ?_ (fun _ => ?_)
set_option maxHeartbeats 8000000 in
set_option maxRecDepth 100000 in
theorem glazierref01_Trim.calls (k : Nat) (P0_ : Nat → Prop) (A0 : Option Addr) (c0 : Nat) (l0 : List (S29)) (a1 : ByteArray) (r : List (S29)) (w : World) (hs0 : Kd.V k29 29 w w.heap.size (fun k_ => P0_ k_) (.slice A0 l0.length c0) l0) (h : glazierref01_Trim.f k l0 a1 = some r) :
  Calls Try.prog 56 #[.slice A0 l0.length c0, .string a1] w fun e w' => ∃ v0_ : Value, e = .returned (v0_) ∧ Kd.V k29 29 w' w.heap.size (fun k_ => (P0_ k_ ∨ w.heap.size ≤ k_)) v0_ r ∧ Below w.heap.size w w' := by
 have HO0 := Aside0.mk (show Kd.V k29 29 w w.heap.size (fun k_ => (P0_ k_ ∨ w.heap.size ≤ k_)) (.slice A0 l0.length c0) l0 from Kd.V_mono hs0 (fun k_ hk => .inl hk))
 have HB := Aside0.mk (Below.refl w.heap.size w)
 have H : (glazierref01_Trim.l0 k l0 a1) = some r := h
 clear h
 have HC3 := Aside0.mk H
 clear H
 go_enter Try.func56, Try.ntmps56
 go_upto_block 0 with (fail)
 go_cut [0] (fun v0 wc => ∃ (kq : Nat) (x0_2 : List (S29)), Aside0 (glazierref01_Trim.j1 kq x0_2 a1 = some r) ∧ Aside0 (kq ≤ k) ∧ Aside0 (Kd.V k29 29 wc w.heap.size (fun k_ => (P0_ k_ ∨ w.heap.size ≤ k_)) v0 x0_2) ∧ Aside0 (Below w.heap.size w wc))
 case first =>
  have H := HC3.out
  clear HC3
  have H' := Aside0.mk H
  clear H
  go_wp2
  go_loopg [0] k (fun kq v0 w' => ∃ (x0_1 : List (S29)), Aside0 (glazierref01_Trim.l0 kq x0_1 a1 = some r) ∧ Aside0 (kq ≤ k) ∧ Aside0 (Kd.V k29 29 w' w.heap.size (fun k_ => (P0_ k_ ∨ w.heap.size ≤ k_)) v0 x0_1) ∧ Aside0 (Below w.heap.size w w'))
  case atStart => exact ⟨(l0), H', ⟨Nat.le_refl _⟩, ⟨by (with_reducible repeat (first | apply Kd.V_alloc | apply Kd.V_drewN | apply Kd.V_drew)); exact HO0.out⟩, ⟨by repeat (first | (with_reducible first | exact HB.out | apply below_alloc | apply pw_below_drewN | apply below_drew1) | exact HB.out)⟩⟩
  case round =>
   clear H'
   try clear p2
   obtain ⟨x0_1, HA, HK1, HO_0, HB⟩ := hrel
   cases gk with
   | zero => exact absurd HA.out (by simp [glazierref01_Trim.l0])
   | succ k1 =>
    have H := HA.out
    clear HA
    simp only [glazierref01_Trim.l0] at H
    by_cases c4 : (x0_1.length : Int) > 0
    ·
     rw [if_pos c4] at H
     have c4b0 : decide (0 < (x0_1.length : Int)) = true := decide_eq_true c4
     have c4b1 : decide (0 < x0_1.length) = true := decide_eq_true (by omega)
     clear c4
     (first | rw [c4b0] | (simp only [i64_w, i32_w]; rw [c4b0]) | skip)
     by_cases c5 : 0 < (x0_1.length : Int)
     ·
      rw [if_pos c5] at H
      have c5b0 : decide (0 < (x0_1.length : Int)) = true := decide_eq_true c5
      have c5b1 : decide (0 < x0_1.length) = true := decide_eq_true (by omega)
      clear c5
      replace H := Option.bind_eq_some_iff.mp H
      obtain ⟨t334, A60, H⟩ := H
      replace H : (if t334 = true then (if 1 ≤ (x0_1.length : Int) then (glazierref01_Trim.l0 k1 (x0_1.drop 1) a1) else (none)) else (glazierref01_Trim.j1 k1 x0_1 a1)) = some r := H
      have A6 := Aside0.mk A60
      clear A60
      by_cases c7 : t334 = true
      ·
       subst c7
       have H1 : (if 1 ≤ (x0_1.length : Int) then (glazierref01_Trim.l0 k1 (x0_1.drop 1) a1) else (none)) = some r := by rw [if_pos rfl] at H; exact H
       clear H
       have H := H1
       clear H1
       by_cases c8 : 1 ≤ (x0_1.length : Int)
       ·
        rw [if_pos c8] at H
        have c8b0 := eq_true c8
        have c8b1 : decide (1 ≤ (x0_1.length : Int)) = true := decide_eq_true c8
        clear c8
        obtain ⟨y335, hy335⟩ : ∃ y_ : List (S29), y_ = (x0_1.drop 1) := ⟨_, rfl⟩
        replace H : (glazierref01_Trim.l0 k1 y335 a1) = some r := by first | (rw [hy335]; with_reducible exact H) | (have H2_ := (Option.bind_some _ _).symm.trans H; rw [hy335]; with_reducible exact H2_) | (have H2_ := (Option.bind_some _ _).symm.trans H; with_reducible exact H2_) | with_reducible exact H | (rw [hy335]; exact H) | exact H
        have Ny335 := Aside0.mk hy335
        clear hy335
        have H' := Aside0.mk H
        clear H
        obtain ⟨Ao9, co9, eo9⟩ := Kd.V_slice HO_0.out
        subst eo9
        have p333 : 0 ≤ (0 : Int) := (by omega)
        have q333 : 0 < (x0_1.length : Int) := of_decide_eq_true (by first | (with_reducible assumption) | assumption)
        obtain ⟨ad333, e333, hx333_0, hx333_1⟩ := at_T29 (Kd.V_reads' HO_0.out).2.2 0 p333 q333
        cases e333
        have qi333 : (0 < x0_1.length) = True := eq_true (by omega)
        (try rw [show ((0 : Int)).toNat = 0 from rfl] at hx333_0)
        (try rw [show 0 * 2 = 0 from rfl] at hx333_0)
        (try rw [Addr.add_zero'] at hx333_0)
        (try rw [show ((0 : Int)).toNat = 0 from rfl] at hx333_1)
        (try rw [show 0 * 2 = 0 from rfl] at hx333_1)
        (try rw [Addr.add_zero'] at hx333_1)
        replace p333 := eq_true p333
        replace q333 := eq_true q333
        go_wp2_with (first | (go_at_call 79; (with_reducible refine (glazierref01_In.calls k1 ((rd_T29 x0_1 0).f0) a1 true _ A6.out).mono ?_); rintro e w' ⟨rfl, ⟨nd, rfl⟩⟩; have q10 : (1 : Int) ≤ ((x0_1.length : Int) : Int) := of_decide_eq_true (by first | (with_reducible assumption) | assumption); obtain ⟨i010, hi010, _, hsz10, _⟩ := info_parts info29; have hroom10 : x0_1.length ≤ co9 := (Kd.V_reads' HO_0.out).2.1; have hC10 : Kd.F k29 _ _ (some ad333) x0_1.length x0_1 := (Kd.V_at (base := w.heap.size) HO_0.out).2.2; have hcut10 := cut_from (P := Try.prog) 26 29 .i64 Try.underlying26 hi010 2 hsz10 (some ad333) x0_1.length co9 1 (by omega) q10; have hr10 := Kd.F_cut (m := (1 : Int).toNat) (c := co9) hC10 (by omega) hroom10; obtain ⟨A10, hA10⟩ : ∃ A1, A1 = (if co9 = (1 : Int).toNat then (some ad333) else ((some ad333) : Option Addr).map (·.add ((1 : Int).toNat * 2))) := ⟨_, rfl⟩; obtain ⟨c10, hc10⟩ : ∃ c1, c1 = co9 - (1 : Int).toNat := ⟨_, rfl⟩; have hy10 : y335.length = x0_1.length - (1 : Int).toNat := (by rw [Ny335.out, List.length_drop] <;> omega); rw [show (x0_1).drop (1 : Int).toNat = y335 from Ny335.out.symm] at hr10; replace hr10 : Kd.F k29 _ _ A10 y335.length y335 := (by rw [hA10]; exact hr10); rw [← hy10, ← hA10, ← hc10] at hcut10; (try simp only [← hy10, ← hA10, ← hc10]); have HO339 := Aside0.mk (show Kd.V k29 29 _ w.heap.size _ (.slice A10 y335.length c10) y335 from Kd.V_mk (by rw [hy10, hc10]; exact Nat.sub_le_sub_right hroom10 _) hr10); have HC339 := Aside0.mk (show y335.length ≤ c10 from by rw [hy10, hc10]; exact Nat.sub_le_sub_right hroom10 _); clear hr10 hC10 hroom10 hi010 hsz10 hc10; have KY10 := Aside0.mk hy10; have KA10 := Aside0.mk hA10; clear hy10 hA10; replace q10 := eq_true q10))
        go_roundg k1
        case measure => have := HK1.out; omega
        case rel => exact ⟨(y335), H', ⟨by have := HK1.out; omega⟩, ⟨by (with_reducible repeat (first | apply Kd.V_alloc | apply Kd.V_drewN | apply Kd.V_drew)); exact HO339.out⟩, ⟨by repeat (first | (with_reducible first | exact HB.out | apply below_alloc | apply pw_below_drewN | apply below_drew1) | exact HB.out)⟩⟩
       ·
        rw [if_neg c8] at H
        exact absurd H (by simp)
      ·
       replace c7 := Bool.eq_false_iff.mpr c7
       subst c7
       have H1 : (glazierref01_Trim.j1 k1 x0_1 a1) = some r := by rw [if_neg (show ¬ (false = true) by decide)] at H; exact H
       clear H
       have H := H1
       clear H1
       have H' := Aside0.mk H
       clear H
       obtain ⟨Ao11, co11, eo11⟩ := Kd.V_slice HO_0.out
       subst eo11
       have p333 : 0 ≤ (0 : Int) := (by omega)
       have q333 : 0 < (x0_1.length : Int) := of_decide_eq_true (by first | (with_reducible assumption) | assumption)
       obtain ⟨ad333, e333, hx333_0, hx333_1⟩ := at_T29 (Kd.V_reads' HO_0.out).2.2 0 p333 q333
       cases e333
       have qi333 : (0 < x0_1.length) = True := eq_true (by omega)
       (try rw [show ((0 : Int)).toNat = 0 from rfl] at hx333_0)
       (try rw [show 0 * 2 = 0 from rfl] at hx333_0)
       (try rw [Addr.add_zero'] at hx333_0)
       (try rw [show ((0 : Int)).toNat = 0 from rfl] at hx333_1)
       (try rw [show 0 * 2 = 0 from rfl] at hx333_1)
       (try rw [Addr.add_zero'] at hx333_1)
       replace p333 := eq_true p333
       replace q333 := eq_true q333
       go_wp2_with (first | (go_at_call 79; (with_reducible refine (glazierref01_In.calls k1 ((rd_T29 x0_1 0).f0) a1 false _ A6.out).mono ?_); rintro e w' ⟨rfl, ⟨nd, rfl⟩⟩))
       go_meet
       case rel => exact ⟨_, (x0_1), H', ⟨by have := HK1.out; first | omega | exact Nat.le_refl _⟩, ⟨by (with_reducible repeat (first | apply Kd.V_alloc | apply Kd.V_drewN | apply Kd.V_drew)); exact HO_0.out⟩, ⟨by repeat (first | (with_reducible first | exact HB.out | apply below_alloc | apply pw_below_drewN | apply below_drew1) | exact HB.out)⟩⟩
     ·
      rw [if_neg c5] at H
      exact absurd H (by simp)
    ·
     rw [if_neg c4] at H
     have c4b0 : decide (0 < (x0_1.length : Int)) = false := decide_eq_false c4
     have c4b1 : decide (0 < x0_1.length) = false := decide_eq_false (by omega)
     clear c4
     (first | rw [c4b0] | (simp only [i64_w, i32_w]; rw [c4b0]) | skip)
     have H' := Aside0.mk H
     clear H
     obtain ⟨Ao12, co12, eo12⟩ := Kd.V_slice HO_0.out
     subst eo12
     go_wp2
     go_meet
     case rel => exact ⟨_, (x0_1), H', ⟨by have := HK1.out; first | omega | exact Nat.le_refl _⟩, ⟨by (with_reducible repeat (first | apply Kd.V_alloc | apply Kd.V_drewN | apply Kd.V_drew)); exact HO_0.out⟩, ⟨by repeat (first | (with_reducible first | exact HB.out | apply below_alloc | apply pw_below_drewN | apply below_drew1) | exact HB.out)⟩⟩
 case rest =>
  clear HC3
  try clear c1
  try clear q1
  try clear p2
  try clear p3
  try clear q3
  try clear hx3
  try clear qi3
  try clear c4
  try clear c4b0
  try clear c4b1
  try clear c5
  try clear c5b0
  try clear c5b1
  try clear c7
  try clear c8
  try clear c8b0
  try clear c8b1
  try clear c10
  try clear q10
  try clear hx333_0
  try clear hx333_1
  try clear p2
  try clear p333
  try clear q10
  try clear q333
  obtain ⟨kq, x0_2, HA, HJ2, HO_0, HB⟩ := hcut
  cases kq with
  | zero => exact absurd HA.out (by simp [glazierref01_Trim.j1])
  | succ kj2 =>
   have H := HA.out
   clear HA
   simp only [glazierref01_Trim.j1] at H
   have H' := Aside0.mk H
   clear H
   go_wp2
   go_loopg [0] kj2 (fun kq v0 w' => ∃ (x0_2 : List (S29)), Aside0 (glazierref01_Trim.l1 kq x0_2 a1 = some r) ∧ Aside0 (kq ≤ kj2) ∧ Aside0 (Kd.V k29 29 w' w.heap.size (fun k_ => (P0_ k_ ∨ w.heap.size ≤ k_)) v0 x0_2) ∧ Aside0 (Below w.heap.size w w'))
   case atStart => exact ⟨(x0_2), H', ⟨Nat.le_refl _⟩, ⟨by (with_reducible repeat (first | apply Kd.V_alloc | apply Kd.V_drewN | apply Kd.V_drew)); exact HO_0.out⟩, ⟨by repeat (first | (with_reducible first | exact HB.out | apply below_alloc | apply pw_below_drewN | apply below_drew1) | exact HB.out)⟩⟩
   case round =>
    clear H'
    try clear c1
    try clear q1
    try clear p2
    try clear p3
    try clear q3
    try clear hx3
    try clear qi3
    try clear c4
    try clear c4b0
    try clear c4b1
    try clear c5
    try clear c5b0
    try clear c5b1
    try clear c7
    try clear c8
    try clear c8b0
    try clear c8b1
    try clear c10
    try clear q10
    try clear hx333_0
    try clear hx333_1
    try clear p2
    try clear p3
    try clear p333
    try clear q1
    try clear q10
    try clear q3
    try clear q333
    obtain ⟨x0_2, HA, HK2, HO_0, HB⟩ := hrel
    cases gk with
    | zero => exact absurd HA.out (by simp [glazierref01_Trim.l1])
    | succ k2 =>
     have H := HA.out
     clear HA
     simp only [glazierref01_Trim.l1] at H
     by_cases c13 : (x0_2.length : Int) > 0
     ·
      rw [if_pos c13] at H
      have c13b0 : decide (0 < (x0_2.length : Int)) = true := decide_eq_true c13
      have c13b1 : decide (0 < x0_2.length) = true := decide_eq_true (by omega)
      clear c13
      obtain ⟨ji14, hji14⟩ : ∃ j_ : Int, (wrap64 ((x0_2.length : Int) - 1)) = j_ := ⟨_, rfl⟩
      replace H : (if 0 ≤ (ji14) then (if (ji14) < (x0_2.length : Int) then ((glazierref01_In.f k2 ((rd_T29 x0_2 (ji14)).f0) a1).bind fun t341 => (if t341 = true then (if (ji14) ≤ (x0_2.length : Int) then (glazierref01_Trim.l1 k2 (x0_2.take ((ji14) : Int).toNat) a1) else (none)) else (some x0_2))) else (none)) else (none)) = some r := by first | (rw [hji14] at H; exact H) | (simp only [hji14] at H ⊢; exact H)
      have hji14w : (IntKind.i64.wrap ((x0_2.length : Int) - 1)) = ji14 := (i64_w _).trans hji14
      by_cases c15 : 0 ≤ (ji14)
      ·
       rw [if_pos c15] at H
       have c15b0 : decide (0 ≤ (ji14)) = true := decide_eq_true c15
       clear c15
       by_cases c16 : (ji14) < (x0_2.length : Int)
       ·
        rw [if_pos c16] at H
        have c16b0 : decide ((ji14) < (x0_2.length : Int)) = true := decide_eq_true c16
        clear c16
        replace H := Option.bind_eq_some_iff.mp H
        obtain ⟨t341, A170, H⟩ := H
        replace H : (if t341 = true then (if (ji14) ≤ (x0_2.length : Int) then (glazierref01_Trim.l1 k2 (x0_2.take ((ji14) : Int).toNat) a1) else (none)) else (some x0_2)) = some r := H
        have A17 := Aside0.mk A170
        clear A170
        by_cases c18 : t341 = true
        ·
         subst c18
         have H1 : (if (ji14) ≤ (x0_2.length : Int) then (glazierref01_Trim.l1 k2 (x0_2.take ((ji14) : Int).toNat) a1) else (none)) = some r := by rw [if_pos rfl] at H; exact H
         clear H
         have H := H1
         clear H1
         have c19b0 := eq_true (of_decide_eq_true (by first | (with_reducible assumption) | assumption) : 0 ≤ (ji14))
         by_cases c20 : (ji14) ≤ (x0_2.length : Int)
         ·
          rw [if_pos c20] at H
          have c20b0 := eq_true c20
          have c20b1 : decide ((ji14) ≤ (x0_2.length : Int)) = true := decide_eq_true c20
          clear c20
          obtain ⟨y342, hy342⟩ : ∃ y_ : List (S29), y_ = (x0_2.take ((ji14) : Int).toNat) := ⟨_, rfl⟩
          replace H : (glazierref01_Trim.l1 k2 y342 a1) = some r := by first | (rw [hy342]; with_reducible exact H) | (have H2_ := (Option.bind_some _ _).symm.trans H; rw [hy342]; with_reducible exact H2_) | (have H2_ := (Option.bind_some _ _).symm.trans H; with_reducible exact H2_) | with_reducible exact H | (rw [hy342]; exact H) | exact H
          have Ny342 := Aside0.mk hy342
          clear hy342
          have H' := Aside0.mk H
          clear H
          obtain ⟨Ao21, co21, eo21⟩ := Kd.V_slice HO_0.out
          subst eo21
          have p340 : 0 ≤ ((ji14) : Int) := of_decide_eq_true (by first | (with_reducible assumption) | assumption)
          have q340 : (ji14) < (x0_2.length : Int) := of_decide_eq_true (by first | (with_reducible assumption) | assumption)
          obtain ⟨ad340, e340, hx340_0, hx340_1⟩ := at_T29 (Kd.V_reads' HO_0.out).2.2 (ji14) p340 q340
          cases e340
          replace p340 := eq_true p340
          replace q340 := eq_true q340
          go_wp2_with (first | (go_at_call 79; (with_reducible refine (glazierref01_In.calls k2 ((rd_T29 x0_2 (ji14)).f0) a1 true _ A17.out).mono ?_); rintro e w' ⟨rfl, ⟨nd, rfl⟩⟩; have q22 : ((ji14) : Int) ≤ ((x0_2.length : Int) : Int) := of_decide_eq_true (by first | (with_reducible assumption) | assumption); obtain ⟨i022, hi022, _, hsz22, _⟩ := info_parts info29; have hroom22 : x0_2.length ≤ co21 := (Kd.V_reads' HO_0.out).2.1; have hC22 : Kd.F k29 _ _ (some ad340) x0_2.length x0_2 := (Kd.V_at (base := w.heap.size) HO_0.out).2.2; have hcut22 := cut_to (P := Try.prog) 26 29 .i64 Try.underlying26 hi022 (some ad340) x0_2.length co21 (ji14) (of_decide_eq_true (by first | (with_reducible assumption) | assumption)) q22 hroom22; have hr22 := Kd.F_take (m := ((ji14) : Int).toNat) hC22 (by omega); have hy22 : y342.length = ((ji14) : Int).toNat := (by rw [Ny342.out, List.length_take]; omega); rw [← Ny342.out] at hr22; rw [← hy22] at hcut22; have HO346 := Aside0.mk (show Kd.V k29 29 _ w.heap.size _ (.slice (some ad340) y342.length co21) y342 from Kd.V_mk (by omega) hr22); have HC346 := Aside0.mk (show y342.length ≤ co21 from by omega); clear hr22 hC22 hroom22 hi022 hsz22; have KY22 := Aside0.mk hy22; clear hy22; replace q22 := eq_true q22))
          go_roundg k2
          case measure => have := HJ2.out; have := HK2.out; omega
          case rel => exact ⟨(y342), H', ⟨by have := HJ2.out; have := HK2.out; omega⟩, ⟨by (with_reducible repeat (first | apply Kd.V_alloc | apply Kd.V_drewN | apply Kd.V_drew)); exact HO346.out⟩, ⟨by repeat (first | (with_reducible first | exact HB.out | apply below_alloc | apply pw_below_drewN | apply below_drew1) | exact HB.out)⟩⟩
         ·
          rw [if_neg c20] at H
          exact absurd H (by simp)
        ·
         replace c18 := Bool.eq_false_iff.mpr c18
         subst c18
         have H1 : (some x0_2) = some r := by rw [if_neg (show ¬ (false = true) by decide)] at H; exact H
         clear H
         have H := H1
         clear H1
         obtain rfl := Option.some.inj H
         obtain ⟨Ao23, co23, eo23⟩ := Kd.V_slice HO_0.out
         subst eo23
         have p340 : 0 ≤ ((ji14) : Int) := of_decide_eq_true (by first | (with_reducible assumption) | assumption)
         have q340 : (ji14) < (x0_2.length : Int) := of_decide_eq_true (by first | (with_reducible assumption) | assumption)
         obtain ⟨ad340, e340, hx340_0, hx340_1⟩ := at_T29 (Kd.V_reads' HO_0.out).2.2 (ji14) p340 q340
         cases e340
         replace p340 := eq_true p340
         replace q340 := eq_true q340
         go_wp2_with (first | (go_at_call 79; (with_reducible refine (glazierref01_In.calls k2 ((rd_T29 x0_2 (ji14)).f0) a1 false _ A17.out).mono ?_); rintro e w' ⟨rfl, ⟨nd, rfl⟩⟩))
         go_ret
         exact ⟨_, by first | rfl | (simp [errW_none, errW_some] <;> rfl) | (simp only [← hji14]; first | rfl | (simp [errW_none, errW_some] <;> rfl)) | (simp [*, errW_none, errW_some] <;> rfl), by (with_reducible repeat (first | apply Kd.V_alloc | apply Kd.V_drewN | apply Kd.V_drew)); exact HO_0.out, by repeat (first | (with_reducible first | exact HB.out | apply below_alloc | apply pw_below_drewN | apply below_drew1) | exact HB.out)⟩
       ·
        rw [if_neg c16] at H
        exact absurd H (by simp)
      ·
       rw [if_neg c15] at H
       exact absurd H (by simp)
     ·
      rw [if_neg c13] at H
      have c13b0 : decide (0 < (x0_2.length : Int)) = false := decide_eq_false c13
      have c13b1 : decide (0 < x0_2.length) = false := decide_eq_false (by omega)
      clear c13
      obtain rfl := Option.some.inj H
      obtain ⟨Ao24, co24, eo24⟩ := Kd.V_slice HO_0.out
      subst eo24
      go_wp2
      go_ret
      exact ⟨_, by first | rfl | (simp [errW_none, errW_some] <;> rfl) | (simp [*, errW_none, errW_some] <;> rfl), by (with_reducible repeat (first | apply Kd.V_alloc | apply Kd.V_drewN | apply Kd.V_drew)); exact HO_0.out, by repeat (first | (with_reducible first | exact HB.out | apply below_alloc | apply pw_below_drewN | apply below_drew1) | exact HB.out)⟩

end Go.Proofs.Ytljmmhihdcnbaaa.G
