-- Written for this claim by hybrid.py's copy of the print program (a program of this session); not trusted: Lean checks it.
import Derived.Test.YtljmmhihdcnbaaaG0
import Derived.Test.YtljmmhihdcnbaaaG29
import Derived.Test.YtljmmhihdcnbaaaG33
namespace Go.Proofs.Ytljmmhihdcnbaaa.G
open Go.RowKit Go.Proofs.YtljmmhihdcnbaaaW.PrintWords Go.Proofs.YtljmmhihdcnbaaaW.PrintLast Go.Proofs.YtljmmhihdcnbaaaW.PrintMore
attribute [local go_sem] max2_int min2_int max_two min_two max_three min_three max_four min_four   -- for this text's walks alone
set_option linter.unusedVariables false
set_option linter.unusedSimpArgs false

/-! ### glazierlaw06_colon: function 28 -/
mutual
def glazierlaw06_colon.l0 : Nat → List (S29) → Int → Option (Int)
 | 0, _, _ => none
 | k + 1, x0, x3 => if x3 < (x0.length : Int) then (if 0 ≤ x3 then (if ((rd_T29 x0 x3).f0) = 58 then (glazierlaw06_colon.j1 k x0 x3 ((rd_T29 x0 x3).f0) (decide (x3 > 0))) else (glazierlaw06_colon.j1 k x0 x3 ((rd_T29 x0 x3).f0) false)) else (none)) else (some (-1))
def glazierlaw06_colon.j1 : Nat → List (S29) → Int → Int → Bool → Option (Int)
 | 0, _, _, _, _ => none
 | k + 1, x0, x3, x4, x21 => if x21 = true then (some x3) else ((glazierlaw06_letter.f x4).bind fun t363 => (if t363 = true then (glazierlaw06_colon.l0 k x0 (wrap64 (x3 + 1))) else (if x3 = 0 then (some (-1)) else (if x4 ≥ 48 then (if x4 ≤ 57 then (glazierlaw06_colon.l0 k x0 (wrap64 (x3 + 1))) else ((glazierref01_In.f k x4 (⟨#[43, 45, 46]⟩ : ByteArray)).bind fun t364 => (if t364 = true then (glazierlaw06_colon.l0 k x0 (wrap64 (x3 + 1))) else (some (-1))))) else ((glazierref01_In.f k x4 (⟨#[43, 45, 46]⟩ : ByteArray)).bind fun t365 => (if t365 = true then (glazierlaw06_colon.l0 k x0 (wrap64 (x3 + 1))) else (some (-1))))))))
end
def glazierlaw06_colon.f (k : Nat) (l0 : List (S29)) : Option (Int) := glazierlaw06_colon.l0 k l0 0
theorem glazierlaw06_colon.mono_l : ∀ k, (∀ y0 y1, LeO (glazierlaw06_colon.l0 k y0 y1) (glazierlaw06_colon.l0 (k + 1) y0 y1)) ∧ (∀ y0 y1 y2 y3, LeO (glazierlaw06_colon.j1 k y0 y1 y2 y3) (glazierlaw06_colon.j1 (k + 1) y0 y1 y2 y3))
 | 0 => ⟨fun _ _ r h => by simp [glazierlaw06_colon.l0] at h, fun _ _ _ _ r h => by simp [glazierlaw06_colon.j1] at h⟩
 | k + 1 => by
  obtain ⟨ih0, ih1⟩ := glazierlaw06_colon.mono_l k
  refine ⟨?_, ?_⟩
  ·
   intro y0 y1
   unfold glazierlaw06_colon.l0
   repeat' first
   | (with_reducible exact ih0 _ _)
   | (with_reducible exact ih1 _ _ _ _)
   | (with_reducible exact glazierref01_In.mono _ _ _)
   | (with_reducible exact LeO.refl _)
   | (with_reducible exact LeO.none _)
   | (with_reducible refine LeO.ite ?_ ?_)
   | (with_reducible refine LeO.bind ?_ (fun _ => ?_))
   | exact ih0 _ _
   | exact ih1 _ _ _ _
   | exact glazierref01_In.mono _ _ _
   | exact LeO.none _
   | refine LeO.ite ?_ ?_
   | refine LeO.bind ?_ (fun _ => ?_)
  ·
   intro y0 y1 y2 y3
   unfold glazierlaw06_colon.j1
   repeat' first
   | (with_reducible exact ih0 _ _)
   | (with_reducible exact ih1 _ _ _ _)
   | (with_reducible exact glazierref01_In.mono _ _ _)
   | (with_reducible exact LeO.refl _)
   | (with_reducible exact LeO.none _)
   | (with_reducible refine LeO.ite ?_ ?_)
   | (with_reducible refine LeO.bind ?_ (fun _ => ?_))
   | exact ih0 _ _
   | exact ih1 _ _ _ _
   | exact glazierref01_In.mono _ _ _
   | exact LeO.none _
   | refine LeO.ite ?_ ?_
   | refine LeO.bind ?_ (fun _ => ?_)
theorem glazierlaw06_colon.mono : ∀ a0 k, LeO (glazierlaw06_colon.f k a0) (glazierlaw06_colon.f (k + 1) a0) := by
 intro a0 k
 obtain ⟨ih0, ih1⟩ := glazierlaw06_colon.mono_l k
 unfold glazierlaw06_colon.f
 repeat' first
   | (with_reducible exact ih0 _ _)
   | (with_reducible exact ih1 _ _ _ _)
   | (with_reducible exact glazierref01_In.mono _ _ _)
   | (with_reducible exact LeO.refl _)
   | (with_reducible exact LeO.none _)
   | (with_reducible refine LeO.ite ?_ ?_)
   | (with_reducible refine LeO.bind ?_ (fun _ => ?_))
   | exact ih0 _ _
   | exact ih1 _ _ _ _
   | exact glazierref01_In.mono _ _ _
   | exact LeO.none _
   | refine LeO.ite ?_ ?_
   | refine LeO.bind ?_ (fun _ => ?_)
set_option maxHeartbeats 8000000 in
set_option maxRecDepth 100000 in
theorem glazierlaw06_colon.calls (k : Nat) (A0 : Option Addr) (c0 : Nat) (l0 : List (S29)) (r : Int) (w : World) (hr0 : Kd.C k29 w A0 l0.length l0) (hc0 : l0.length ≤ c0) (h : glazierlaw06_colon.f k l0 = some r) :
  Calls Try.prog 28 #[.slice A0 l0.length c0] w fun e w' => e = .returned (.int .i64 r) ∧ Drawn0 w w' := by
 have HR0 := Aside0.mk hr0
 have HC0 := Aside0.mk hc0
 clear hr0 hc0
 have H : (glazierlaw06_colon.l0 k l0 0) = some r := h
 clear h
 have H' := Aside0.mk H
 clear H
 go_enter Try.func28, Try.ntmps28
 go_wp2
 go_loopg [3] k (fun kq v3 w' => ∃ (x3_1 : Int), v3 = .int .i64 x3_1 ∧ Aside0 (glazierlaw06_colon.l0 kq l0 x3_1 = some r) ∧ Aside0 (kq ≤ k) ∧ Drawn0 w w')
 case atStart => exact ⟨(0), (by first | rfl | (simp; done) | (simp [*]; done)), H', ⟨Nat.le_refl _⟩, by repeat (first | exact Drawn0.refl _ | apply Drawn0.step)⟩
 case round =>
  clear H'
  obtain ⟨x3_1, rfl, HA, HK1, ⟨m1, rfl⟩⟩ := hrel
  cases gk with
  | zero => exact absurd HA.out (by simp [glazierlaw06_colon.l0])
  | succ k1 =>
   have H := HA.out
   clear HA
   simp only [glazierlaw06_colon.l0] at H
   by_cases c2 : x3_1 < (l0.length : Int)
   ·
    rw [if_pos c2] at H
    have c2b0 : decide (x3_1 < (l0.length : Int)) = true := decide_eq_true c2
    clear c2
    by_cases c3 : 0 ≤ x3_1
    ·
     rw [if_pos c3] at H
     have c3b0 : decide (0 ≤ x3_1) = true := decide_eq_true c3
     clear c3
     have HC4 := Aside0.mk H
     clear H
     have p362 : 0 ≤ (x3_1 : Int) := of_decide_eq_true (by first | (with_reducible assumption) | assumption)
     have q362 : x3_1 < (l0.length : Int) := of_decide_eq_true (by first | (with_reducible assumption) | assumption)
     obtain ⟨ad362, e362, hx362_0, hx362_1⟩ := at_T29 HR0.out x3_1 p362 q362
     cases e362
     replace p362 := eq_true p362
     replace q362 := eq_true q362
     go_upto_region 5 with (fail)
     go_cut [21] (fun v21 wc => ∃ (kq : Nat) (x21_3 : Bool), v21 = .bool x21_3 ∧ Aside0 (glazierlaw06_colon.j1 kq l0 x3_1 ((rd_T29 l0 x3_1).f0) x21_3 = some r) ∧ Aside0 (kq ≤ k1) ∧ Drawn0 w wc)
     case first =>
      have H := HC4.out
      clear HC4
      by_cases c5 : ((rd_T29 l0 x3_1).f0) = 58
      ·
       rw [if_pos c5] at H
       have c5b0 : (((rd_T29 l0 x3_1).f0) == 58) = true := beq_iff_eq.mpr c5
       have c5b1 : (((rd_T29 l0 x3_1).f0) != 58) = false := bne_eq_false_iff_eq.mpr c5
       clear c5
       (first | rw [c5b0] | (simp only [i64_w, i32_w]; rw [c5b0]) | skip)
       have H' := Aside0.mk H
       clear H
       go_wp2
       go_meet
       case rel => exact ⟨_, (decide (x3_1 > 0)), (by first | rfl | (simp; done) | (simp [*]; done)), H', ⟨by have := HK1.out; first | omega | exact Nat.le_refl _⟩, by repeat (first | exact Drawn0.refl _ | apply Drawn0.step)⟩
      ·
       rw [if_neg c5] at H
       have c5b0 : (((rd_T29 l0 x3_1).f0) == 58) = false := beq_eq_false_iff_ne.mpr c5
       have c5b1 : (((rd_T29 l0 x3_1).f0) != 58) = true := bne_iff_ne.mpr c5
       (first | rw [c5b0] | (simp only [i64_w, i32_w]; rw [c5b0]) | skip)
       have H' := Aside0.mk H
       clear H
       go_wp2
       go_meet
       case rel => exact ⟨_, (false), (by first | rfl | (simp; done) | (simp [*]; done)), H', ⟨by have := HK1.out; first | omega | exact Nat.le_refl _⟩, by repeat (first | exact Drawn0.refl _ | apply Drawn0.step)⟩
     case rest =>
      clear HC4
      try clear c2
      try clear c2b0
      try clear p2
      try clear c3
      try clear c3b0
      try clear p3
      try clear q3
      try clear hx3
      try clear c5
      try clear c5b0
      try clear c5b1
      try clear hx362_0
      try clear hx362_1
      try clear p362
      try clear q362
      obtain ⟨kq, x21_3, rfl, HA, HJ3, ⟨mc3, rfl⟩⟩ := hcut
      cases kq with
      | zero => exact absurd HA.out (by simp [glazierlaw06_colon.j1])
      | succ kj3 =>
       have H := HA.out
       clear HA
       simp only [glazierlaw06_colon.j1] at H
       by_cases c6 : x21_3 = true
       ·
        subst c6
        have H1 : (some x3_1) = some r := by rw [if_pos rfl] at H; exact H
        clear H
        have H := H1
        clear H1
        obtain rfl := Option.some.inj H
        go_wp2
        go_ret
        exact ⟨by first | rfl | (simp; done) | (simp [*]; done), by repeat (first | exact Drawn0.refl _ | apply Drawn0.step)⟩
       ·
        replace c6 := Bool.eq_false_iff.mpr c6
        subst c6
        have H1 : ((glazierlaw06_letter.f ((rd_T29 l0 x3_1).f0)).bind fun t363 => (if t363 = true then (glazierlaw06_colon.l0 kj3 l0 (wrap64 (x3_1 + 1))) else (if x3_1 = 0 then (some (-1)) else (if ((rd_T29 l0 x3_1).f0) ≥ 48 then (if ((rd_T29 l0 x3_1).f0) ≤ 57 then (glazierlaw06_colon.l0 kj3 l0 (wrap64 (x3_1 + 1))) else ((glazierref01_In.f kj3 ((rd_T29 l0 x3_1).f0) (⟨#[43, 45, 46]⟩ : ByteArray)).bind fun t364 => (if t364 = true then (glazierlaw06_colon.l0 kj3 l0 (wrap64 (x3_1 + 1))) else (some (-1))))) else ((glazierref01_In.f kj3 ((rd_T29 l0 x3_1).f0) (⟨#[43, 45, 46]⟩ : ByteArray)).bind fun t365 => (if t365 = true then (glazierlaw06_colon.l0 kj3 l0 (wrap64 (x3_1 + 1))) else (some (-1)))))))) = some r := by rw [if_neg (show ¬ (false = true) by decide)] at H; exact H
        clear H
        have H := H1
        clear H1
        replace H := Option.bind_eq_some_iff.mp H
        obtain ⟨t363, A70, H⟩ := H
        replace H : (if t363 = true then (glazierlaw06_colon.l0 kj3 l0 (wrap64 (x3_1 + 1))) else (if x3_1 = 0 then (some (-1)) else (if ((rd_T29 l0 x3_1).f0) ≥ 48 then (if ((rd_T29 l0 x3_1).f0) ≤ 57 then (glazierlaw06_colon.l0 kj3 l0 (wrap64 (x3_1 + 1))) else ((glazierref01_In.f kj3 ((rd_T29 l0 x3_1).f0) (⟨#[43, 45, 46]⟩ : ByteArray)).bind fun t364 => (if t364 = true then (glazierlaw06_colon.l0 kj3 l0 (wrap64 (x3_1 + 1))) else (some (-1))))) else ((glazierref01_In.f kj3 ((rd_T29 l0 x3_1).f0) (⟨#[43, 45, 46]⟩ : ByteArray)).bind fun t365 => (if t365 = true then (glazierlaw06_colon.l0 kj3 l0 (wrap64 (x3_1 + 1))) else (some (-1))))))) = some r := H
        have A7 := Aside0.mk A70
        clear A70
        by_cases c8 : t363 = true
        ·
         subst c8
         have H1 : (glazierlaw06_colon.l0 kj3 l0 (wrap64 (x3_1 + 1))) = some r := by rw [if_pos rfl] at H; exact H
         clear H
         have H := H1
         clear H1
         have H' := Aside0.mk H
         clear H
         go_wp2_with (first | ((with_reducible refine gate_callee (f := 90) rfl ?_); refine goesL_ (some 24) rfl rfl Try.func90 (by kernel_rfl) rfl #[.int .u8 ((rd_T29 l0 x3_1).f0)] rfl (by (try simp only [List.map_toArray, List.map_cons, List.map_nil]); first | done | rfl | (simp only [List.length_drop, List.length_take]; rfl)) ?_; (with_reducible refine (glazierlaw06_letter.calls ((rd_T29 l0 x3_1).f0) true _ A7.out).mono ?_); rintro e w' ⟨rfl, ⟨nd, rfl⟩⟩; refine ⟨_, rfl, ?_⟩))
         go_roundg kj3
         case measure => have := HK1.out; have := HJ3.out; omega
         case rel => exact ⟨(wrap64 (x3_1 + 1)), (by first | rfl | (simp; done) | (simp [*]; done)), H', ⟨by have := HK1.out; have := HJ3.out; omega⟩, by repeat (first | exact Drawn0.refl _ | apply Drawn0.step)⟩
        ·
         replace c8 := Bool.eq_false_iff.mpr c8
         subst c8
         have H1 : (if x3_1 = 0 then (some (-1)) else (if ((rd_T29 l0 x3_1).f0) ≥ 48 then (if ((rd_T29 l0 x3_1).f0) ≤ 57 then (glazierlaw06_colon.l0 kj3 l0 (wrap64 (x3_1 + 1))) else ((glazierref01_In.f kj3 ((rd_T29 l0 x3_1).f0) (⟨#[43, 45, 46]⟩ : ByteArray)).bind fun t364 => (if t364 = true then (glazierlaw06_colon.l0 kj3 l0 (wrap64 (x3_1 + 1))) else (some (-1))))) else ((glazierref01_In.f kj3 ((rd_T29 l0 x3_1).f0) (⟨#[43, 45, 46]⟩ : ByteArray)).bind fun t365 => (if t365 = true then (glazierlaw06_colon.l0 kj3 l0 (wrap64 (x3_1 + 1))) else (some (-1)))))) = some r := by rw [if_neg (show ¬ (false = true) by decide)] at H; exact H
         clear H
         have H := H1
         clear H1
         by_cases c9 : x3_1 = 0
         ·
          rw [if_pos c9] at H
          have c9b0 : (x3_1 == 0) = true := beq_iff_eq.mpr c9
          have c9b1 : (x3_1 != 0) = false := bne_eq_false_iff_eq.mpr c9
          clear c9
          obtain rfl := Option.some.inj H
          go_wp2_with (first | ((with_reducible refine gate_callee (f := 90) rfl ?_); refine goesL_ (some 24) rfl rfl Try.func90 (by kernel_rfl) rfl #[.int .u8 ((rd_T29 l0 x3_1).f0)] rfl (by (try simp only [List.map_toArray, List.map_cons, List.map_nil]); first | done | rfl | (simp only [List.length_drop, List.length_take]; rfl)) ?_; (with_reducible refine (glazierlaw06_letter.calls ((rd_T29 l0 x3_1).f0) false _ A7.out).mono ?_); rintro e w' ⟨rfl, ⟨nd, rfl⟩⟩; refine ⟨_, rfl, ?_⟩))
          go_ret
          exact ⟨by first | rfl | (simp; done) | (simp [*]; done), by repeat (first | exact Drawn0.refl _ | apply Drawn0.step)⟩
         ·
          rw [if_neg c9] at H
          have c9b0 : (x3_1 == 0) = false := beq_eq_false_iff_ne.mpr c9
          have c9b1 : (x3_1 != 0) = true := bne_iff_ne.mpr c9
          by_cases c10 : ((rd_T29 l0 x3_1).f0) ≥ 48
          ·
           rw [if_pos c10] at H
           have c10b0 : decide (48 ≤ ((rd_T29 l0 x3_1).f0)) = true := decide_eq_true c10
           clear c10
           by_cases c11 : ((rd_T29 l0 x3_1).f0) ≤ 57
           ·
            rw [if_pos c11] at H
            have c11b0 : decide (((rd_T29 l0 x3_1).f0) ≤ 57) = true := decide_eq_true c11
            clear c11
            have H' := Aside0.mk H
            clear H
            go_wp2_with (first | ((with_reducible refine gate_callee (f := 90) rfl ?_); refine goesL_ (some 24) rfl rfl Try.func90 (by kernel_rfl) rfl #[.int .u8 ((rd_T29 l0 x3_1).f0)] rfl (by (try simp only [List.map_toArray, List.map_cons, List.map_nil]); first | done | rfl | (simp only [List.length_drop, List.length_take]; rfl)) ?_; (with_reducible refine (glazierlaw06_letter.calls ((rd_T29 l0 x3_1).f0) false _ A7.out).mono ?_); rintro e w' ⟨rfl, ⟨nd, rfl⟩⟩; refine ⟨_, rfl, ?_⟩))
            go_roundg kj3
            case measure => have := HK1.out; have := HJ3.out; omega
            case rel => exact ⟨(wrap64 (x3_1 + 1)), (by first | rfl | (simp; done) | (simp [*]; done)), H', ⟨by have := HK1.out; have := HJ3.out; omega⟩, by repeat (first | exact Drawn0.refl _ | apply Drawn0.step)⟩
           ·
            rw [if_neg c11] at H
            have c11b0 : decide (((rd_T29 l0 x3_1).f0) ≤ 57) = false := decide_eq_false c11
            clear c11
            replace H := Option.bind_eq_some_iff.mp H
            obtain ⟨t364, A120, H⟩ := H
            replace H : (if t364 = true then (glazierlaw06_colon.l0 kj3 l0 (wrap64 (x3_1 + 1))) else (some (-1))) = some r := H
            have A12 := Aside0.mk A120
            clear A120
            by_cases c13 : t364 = true
            ·
             subst c13
             have H1 : (glazierlaw06_colon.l0 kj3 l0 (wrap64 (x3_1 + 1))) = some r := by rw [if_pos rfl] at H; exact H
             clear H
             have H := H1
             clear H1
             have H' := Aside0.mk H
             clear H
             go_wp2_with (first | ((with_reducible refine gate_callee (f := 90) rfl ?_); refine goesL_ (some 24) rfl rfl Try.func90 (by kernel_rfl) rfl #[.int .u8 ((rd_T29 l0 x3_1).f0)] rfl (by (try simp only [List.map_toArray, List.map_cons, List.map_nil]); first | done | rfl | (simp only [List.length_drop, List.length_take]; rfl)) ?_; (with_reducible refine (glazierlaw06_letter.calls ((rd_T29 l0 x3_1).f0) false _ A7.out).mono ?_); rintro e w' ⟨rfl, ⟨nd, rfl⟩⟩; refine ⟨_, rfl, ?_⟩) | (go_at_call 79; (with_reducible refine (glazierref01_In.calls kj3 ((rd_T29 l0 x3_1).f0) (⟨#[43, 45, 46]⟩ : ByteArray) true _ A12.out).mono ?_); rintro e w' ⟨rfl, ⟨nd, rfl⟩⟩))
             go_roundg kj3
             case measure => have := HK1.out; have := HJ3.out; omega
             case rel => exact ⟨(wrap64 (x3_1 + 1)), (by first | rfl | (simp; done) | (simp [*]; done)), H', ⟨by have := HK1.out; have := HJ3.out; omega⟩, by repeat (first | exact Drawn0.refl _ | apply Drawn0.step)⟩
            ·
             replace c13 := Bool.eq_false_iff.mpr c13
             subst c13
             have H1 : (some (-1)) = some r := by rw [if_neg (show ¬ (false = true) by decide)] at H; exact H
             clear H
             have H := H1
             clear H1
             obtain rfl := Option.some.inj H
             go_wp2_with (first | ((with_reducible refine gate_callee (f := 90) rfl ?_); refine goesL_ (some 24) rfl rfl Try.func90 (by kernel_rfl) rfl #[.int .u8 ((rd_T29 l0 x3_1).f0)] rfl (by (try simp only [List.map_toArray, List.map_cons, List.map_nil]); first | done | rfl | (simp only [List.length_drop, List.length_take]; rfl)) ?_; (with_reducible refine (glazierlaw06_letter.calls ((rd_T29 l0 x3_1).f0) false _ A7.out).mono ?_); rintro e w' ⟨rfl, ⟨nd, rfl⟩⟩; refine ⟨_, rfl, ?_⟩) | (go_at_call 79; (with_reducible refine (glazierref01_In.calls kj3 ((rd_T29 l0 x3_1).f0) (⟨#[43, 45, 46]⟩ : ByteArray) false _ A12.out).mono ?_); rintro e w' ⟨rfl, ⟨nd, rfl⟩⟩))
             go_ret
             exact ⟨by first | rfl | (simp; done) | (simp [*]; done), by repeat (first | exact Drawn0.refl _ | apply Drawn0.step)⟩
          ·
           rw [if_neg c10] at H
           have c10b0 : decide (48 ≤ ((rd_T29 l0 x3_1).f0)) = false := decide_eq_false c10
           clear c10
           replace H := Option.bind_eq_some_iff.mp H
           obtain ⟨t365, A140, H⟩ := H
           replace H : (if t365 = true then (glazierlaw06_colon.l0 kj3 l0 (wrap64 (x3_1 + 1))) else (some (-1))) = some r := H
           have A14 := Aside0.mk A140
           clear A140
           by_cases c15 : t365 = true
           ·
            subst c15
            have H1 : (glazierlaw06_colon.l0 kj3 l0 (wrap64 (x3_1 + 1))) = some r := by rw [if_pos rfl] at H; exact H
            clear H
            have H := H1
            clear H1
            have H' := Aside0.mk H
            clear H
            go_wp2_with (first | ((with_reducible refine gate_callee (f := 90) rfl ?_); refine goesL_ (some 24) rfl rfl Try.func90 (by kernel_rfl) rfl #[.int .u8 ((rd_T29 l0 x3_1).f0)] rfl (by (try simp only [List.map_toArray, List.map_cons, List.map_nil]); first | done | rfl | (simp only [List.length_drop, List.length_take]; rfl)) ?_; (with_reducible refine (glazierlaw06_letter.calls ((rd_T29 l0 x3_1).f0) false _ A7.out).mono ?_); rintro e w' ⟨rfl, ⟨nd, rfl⟩⟩; refine ⟨_, rfl, ?_⟩) | (go_at_call 79; (with_reducible refine (glazierref01_In.calls kj3 ((rd_T29 l0 x3_1).f0) (⟨#[43, 45, 46]⟩ : ByteArray) true _ A14.out).mono ?_); rintro e w' ⟨rfl, ⟨nd, rfl⟩⟩))
            go_roundg kj3
            case measure => have := HK1.out; have := HJ3.out; omega
            case rel => exact ⟨(wrap64 (x3_1 + 1)), (by first | rfl | (simp; done) | (simp [*]; done)), H', ⟨by have := HK1.out; have := HJ3.out; omega⟩, by repeat (first | exact Drawn0.refl _ | apply Drawn0.step)⟩
           ·
            replace c15 := Bool.eq_false_iff.mpr c15
            subst c15
            have H1 : (some (-1)) = some r := by rw [if_neg (show ¬ (false = true) by decide)] at H; exact H
            clear H
            have H := H1
            clear H1
            obtain rfl := Option.some.inj H
            go_wp2_with (first | ((with_reducible refine gate_callee (f := 90) rfl ?_); refine goesL_ (some 24) rfl rfl Try.func90 (by kernel_rfl) rfl #[.int .u8 ((rd_T29 l0 x3_1).f0)] rfl (by (try simp only [List.map_toArray, List.map_cons, List.map_nil]); first | done | rfl | (simp only [List.length_drop, List.length_take]; rfl)) ?_; (with_reducible refine (glazierlaw06_letter.calls ((rd_T29 l0 x3_1).f0) false _ A7.out).mono ?_); rintro e w' ⟨rfl, ⟨nd, rfl⟩⟩; refine ⟨_, rfl, ?_⟩) | (go_at_call 79; (with_reducible refine (glazierref01_In.calls kj3 ((rd_T29 l0 x3_1).f0) (⟨#[43, 45, 46]⟩ : ByteArray) false _ A14.out).mono ?_); rintro e w' ⟨rfl, ⟨nd, rfl⟩⟩))
            go_ret
            exact ⟨by first | rfl | (simp; done) | (simp [*]; done), by repeat (first | exact Drawn0.refl _ | apply Drawn0.step)⟩
    ·
     rw [if_neg c3] at H
     exact absurd H (by simp)
   ·
    rw [if_neg c2] at H
    have c2b0 : decide (x3_1 < (l0.length : Int)) = false := decide_eq_false c2
    clear c2
    obtain rfl := Option.some.inj H
    go_wp2
    go_ret
    exact ⟨by first | rfl | (simp; done) | (simp [*]; done), by repeat (first | exact Drawn0.refl _ | apply Drawn0.step)⟩

end Go.Proofs.Ytljmmhihdcnbaaa.G
