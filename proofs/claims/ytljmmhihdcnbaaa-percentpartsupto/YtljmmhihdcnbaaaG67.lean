-- Written for this claim by hybrid.py's copy of the print program (a program of this session); not trusted: Lean checks it.
import Derived.Test.YtljmmhihdcnbaaaG0
import Derived.Test.YtljmmhihdcnbaaaVMore1
import Derived.Test.YtljmmhihdcnbaaaG5
import Derived.Test.YtljmmhihdcnbaaaG6
import Derived.Test.YtljmmhihdcnbaaaG40
import Derived.Test.YtljmmhihdcnbaaaG42
import Derived.Test.YtljmmhihdcnbaaaG48
import Derived.Test.YtljmmhihdcnbaaaG51
namespace Go.Proofs.Ytljmmhihdcnbaaa.G
open Go.RowKit Go.Proofs.YtljmmhihdcnbaaaW.PrintWords Go.Proofs.YtljmmhihdcnbaaaW.PrintLast Go.Proofs.YtljmmhihdcnbaaaW.PrintMore
attribute [local go_sem] max2_int min2_int max_two min_two max_three min_three max_four min_four   -- for this text's walks alone
set_option linter.unusedVariables false
set_option linter.unusedSimpArgs false

/-! ### glazierlaw05_PercentParts: function 9 -/
def glazierlaw05_PercentParts.f (k : Nat) (a0_0 : ByteArray) (l0_1 : List (S85)) (a1_0 : ByteArray) (l1_1 : List (S85)) : Option (Bool) := (glazierlaw05_alive.f k).bind fun t699 => (if t699 = true then ((mark_Cat.f k (([(⟨a0_0, l0_1⟩ : S24), (⟨a1_0, l1_1⟩ : S24)] : List (S24)))).bind fun bt703 => ((percent_Encode.f k bt703.1 bt703.2).bind fun bt707 => ((percent_Decode.f k a0_0 l0_1).bind fun bt711 => ((percent_Encode.f k a0_0 l0_1).bind fun bt717 => ((percent_Encode.f k a1_0 l1_1).bind fun bt721 => ((mark_Cat.f k (([(⟨bt717.1, bt717.2⟩ : S24), (⟨bt721.1, bt721.2⟩ : S24)] : List (S24)))).bind fun bt728 => ((mark_Same.f k bt707.1 bt707.2 bt728.1 bt728.2).bind fun t732 => (if t732 = true then ((mark_Worst.f k bt711.1 bt711.2).bind fun t733 => ((mark_Worst.f k a0_0 l0_1).bind fun t734 => (if t733 = t734 then (some (decide ((bt711.1.size : Int) ≤ (a0_0.size : Int)))) else (none)))) else (none))))))))) else (none))
theorem glazierlaw05_PercentParts.mono : ∀ a0 a1 a2 a3 k, LeO (glazierlaw05_PercentParts.f k a0 a1 a2 a3) (glazierlaw05_PercentParts.f (k + 1) a0 a1 a2 a3) := by
 intro a0 a1 a2 a3 k
 unfold glazierlaw05_PercentParts.f
 repeat' first
   | (with_reducible exact glazierlaw05_alive.mono _)
   | (with_reducible exact mark_Cat.mono _ _)
   | (with_reducible exact mark_Same.mono _ _ _ _ _)
   | (with_reducible exact mark_Worst.mono _ _ _)
   | (with_reducible exact percent_Decode.mono _ _ _)
   | (with_reducible exact percent_Encode.mono _ _ _)
   | (with_reducible exact LeO.refl _)
   | (with_reducible exact LeO.none _)
   | (with_reducible refine LeO.ite ?_ ?_)
   | (with_reducible refine LeO.bind ?_ (fun _ => ?_))
   | exact glazierlaw05_alive.mono _
   | exact mark_Cat.mono _ _
   | exact mark_Same.mono _ _ _ _ _
   | exact mark_Worst.mono _ _ _
   | exact percent_Decode.mono _ _ _
   | exact percent_Encode.mono _ _ _
   | exact LeO.none _
   | refine LeO.ite ?_ ?_
   | refine LeO.bind ?_ (fun _ => ?_)
def glazierlaw05_PercentParts.T3 : Bool × List (List Nat × List Nat) := (true, [([], []), ([], []), ([0, 1], [0, 1]), ([2], [2]), ([3, 3], [3]), ([], []), ([5, 4], [5]), ([], []), ([], []), ([7, 4, 6, 0, 1, 2, 3, 4, 7, 8], [4, 7]), ([8, 6, 9, 0, 1, 2, 3, 4, 5, 6, 7, 8, 9], [6, 8])])
def glazierlaw05_PercentParts.B3 : List Nat := [0, 0, 3, 7, 15, 0, 63, 0, 0, 511, 1023]
theorem glazierlaw05_PercentParts.tab3 : rtab .any (opsOf Try.f9 3) = glazierlaw05_PercentParts.T3 := by kernel_rfl
theorem glazierlaw05_PercentParts.bits3 : waitsOk glazierlaw05_PercentParts.T3.2 glazierlaw05_PercentParts.B3 = true := by kernel_rfl
def glazierlaw05_PercentParts.T4 : Bool × List (List Nat × List Nat) := (true, [([], []), ([], []), ([1], [1]), ([], []), ([3, 2], [3]), ([2, 4], [2, 4]), ([5, 4], [5]), ([0, 6, 6], [0, 6]), ([7, 7], [7]), ([8], [8]), ([9, 8, 8], [8, 9]), ([8], [8]), ([11, 10, 8], [8, 11]), ([10, 12, 8], [8, 10, 12]), ([8, 13], [8, 13]), ([14, 12], [14]), ([15], [15]), ([16, 15], [15, 16]), ([17, 15], [15, 17]), ([15], [15]), ([19, 15], [15, 19]), ([20, 15], [15, 20]), ([18, 21, 15], [15, 18, 21]), ([15, 22], [15, 22]), ([23, 15, 0, 1, 2, 3, 4, 5, 6, 7, 8, 9, 10, 11, 12, 13, 14, 15, 16, 17, 18, 19, 20, 21, 22, 23], [23])])
def glazierlaw05_PercentParts.B4 : List Nat := [0, 0, 2, 0, 14, 30, 62, 127, 255, 511, 1023, 511, 4095, 8191, 16383, 32767, 65535, 131071, 262143, 65535, 589823, 1638399, 4194303, 8388607, 16777215]
theorem glazierlaw05_PercentParts.tab4 : rtab .any (opsOf Try.f9 4) = glazierlaw05_PercentParts.T4 := by kernel_rfl
theorem glazierlaw05_PercentParts.bits4 : waitsOk glazierlaw05_PercentParts.T4.2 glazierlaw05_PercentParts.B4 = true := by kernel_rfl
set_option maxHeartbeats 8000000 in
set_option maxRecDepth 100000 in
theorem glazierlaw05_PercentParts.calls (k : Nat) (a0_0 : ByteArray) (P0_1_ : Nat → Prop) (A0_1 : Option Addr) (c0_1 : Nat) (l0_1 : List (S85)) (a1_0 : ByteArray) (P1_1_ : Nat → Prop) (A1_1 : Option Addr) (c1_1 : Nat) (l1_1 : List (S85)) (r : Bool) (w : World) (hs0_1 : Kd.V k85 85 w w.heap.size (fun k_ => P0_1_ k_) (.slice A0_1 l0_1.length c0_1) l0_1) (hs1_1 : Kd.V k85 85 w w.heap.size (fun k_ => P1_1_ k_) (.slice A1_1 l1_1.length c1_1) l1_1) (h : glazierlaw05_PercentParts.f k a0_0 l0_1 a1_0 l1_1 = some r) :
  Calls Try.prog 9 #[.agg #[.string a0_0, .slice A0_1 l0_1.length c0_1], .agg #[.string a1_0, .slice A1_1 l1_1.length c1_1]] w fun e w' => e = .returned (.bool r) ∧ Below w.heap.size w w' := by
 have hu24 := Try.underlying24
 have HO0_1 := Aside0.mk (show Kd.V k85 85 w w.heap.size (fun k_ => ((P0_1_ k_ ∨ P1_1_ k_) ∨ w.heap.size ≤ k_)) (.slice A0_1 l0_1.length c0_1) l0_1 from Kd.V_mono hs0_1 (fun k_ hk => .inl (.inl hk)))
 have HO1_1 := Aside0.mk (show Kd.V k85 85 w w.heap.size (fun k_ => ((P0_1_ k_ ∨ P1_1_ k_) ∨ w.heap.size ≤ k_)) (.slice A1_1 l1_1.length c1_1) l1_1 from Kd.V_mono hs1_1 (fun k_ hk => .inl (.inr hk)))
 have HB := Aside0.mk (Below.refl w.heap.size w)
 have H : ((glazierlaw05_alive.f k).bind fun t699 => (if t699 = true then ((mark_Cat.f k (([(⟨a0_0, l0_1⟩ : S24), (⟨a1_0, l1_1⟩ : S24)] : List (S24)))).bind fun bt703 => ((percent_Encode.f k bt703.1 bt703.2).bind fun bt707 => ((percent_Decode.f k a0_0 l0_1).bind fun bt711 => ((percent_Encode.f k a0_0 l0_1).bind fun bt717 => ((percent_Encode.f k a1_0 l1_1).bind fun bt721 => ((mark_Cat.f k (([(⟨bt717.1, bt717.2⟩ : S24), (⟨bt721.1, bt721.2⟩ : S24)] : List (S24)))).bind fun bt728 => ((mark_Same.f k bt707.1 bt707.2 bt728.1 bt728.2).bind fun t732 => (if t732 = true then ((mark_Worst.f k bt711.1 bt711.2).bind fun t733 => ((mark_Worst.f k a0_0 l0_1).bind fun t734 => (if t733 = t734 then (some (decide ((bt711.1.size : Int) ≤ (a0_0.size : Int)))) else (none)))) else (none))))))))) else (none))) = some r := h
 clear h
 replace H := Option.bind_eq_some_iff.mp H
 obtain ⟨t699, A30, H⟩ := H
 replace H : (if t699 = true then ((mark_Cat.f k (([(⟨a0_0, l0_1⟩ : S24), (⟨a1_0, l1_1⟩ : S24)] : List (S24)))).bind fun bt703 => ((percent_Encode.f k bt703.1 bt703.2).bind fun bt707 => ((percent_Decode.f k a0_0 l0_1).bind fun bt711 => ((percent_Encode.f k a0_0 l0_1).bind fun bt717 => ((percent_Encode.f k a1_0 l1_1).bind fun bt721 => ((mark_Cat.f k (([(⟨bt717.1, bt717.2⟩ : S24), (⟨bt721.1, bt721.2⟩ : S24)] : List (S24)))).bind fun bt728 => ((mark_Same.f k bt707.1 bt707.2 bt728.1 bt728.2).bind fun t732 => (if t732 = true then ((mark_Worst.f k bt711.1 bt711.2).bind fun t733 => ((mark_Worst.f k a0_0 l0_1).bind fun t734 => (if t733 = t734 then (some (decide ((bt711.1.size : Int) ≤ (a0_0.size : Int)))) else (none)))) else (none))))))))) else (none)) = some r := H
 have A3 := Aside0.mk A30
 clear A30
 by_cases c4 : t699 = true
 ·
  subst c4
  have H1 : ((mark_Cat.f k (([(⟨a0_0, l0_1⟩ : S24), (⟨a1_0, l1_1⟩ : S24)] : List (S24)))).bind fun bt703 => ((percent_Encode.f k bt703.1 bt703.2).bind fun bt707 => ((percent_Decode.f k a0_0 l0_1).bind fun bt711 => ((percent_Encode.f k a0_0 l0_1).bind fun bt717 => ((percent_Encode.f k a1_0 l1_1).bind fun bt721 => ((mark_Cat.f k (([(⟨bt717.1, bt717.2⟩ : S24), (⟨bt721.1, bt721.2⟩ : S24)] : List (S24)))).bind fun bt728 => ((mark_Same.f k bt707.1 bt707.2 bt728.1 bt728.2).bind fun t732 => (if t732 = true then ((mark_Worst.f k bt711.1 bt711.2).bind fun t733 => ((mark_Worst.f k a0_0 l0_1).bind fun t734 => (if t733 = t734 then (some (decide ((bt711.1.size : Int) ≤ (a0_0.size : Int)))) else (none)))) else (none))))))))) = some r := by rw [if_pos rfl] at H; exact H
  clear H
  have H := H1
  clear H1
  obtain ⟨y700, hy700⟩ : ∃ y_ : List (S24), y_ = (([(⟨a0_0, l0_1⟩ : S24), (⟨a1_0, l1_1⟩ : S24)] : List (S24))) := ⟨_, rfl⟩
  replace H : ((mark_Cat.f k y700).bind fun bt703 => ((percent_Encode.f k bt703.1 bt703.2).bind fun bt707 => ((percent_Decode.f k a0_0 l0_1).bind fun bt711 => ((percent_Encode.f k a0_0 l0_1).bind fun bt717 => ((percent_Encode.f k a1_0 l1_1).bind fun bt721 => ((mark_Cat.f k (([(⟨bt717.1, bt717.2⟩ : S24), (⟨bt721.1, bt721.2⟩ : S24)] : List (S24)))).bind fun bt728 => ((mark_Same.f k bt707.1 bt707.2 bt728.1 bt728.2).bind fun t732 => (if t732 = true then ((mark_Worst.f k bt711.1 bt711.2).bind fun t733 => ((mark_Worst.f k a0_0 l0_1).bind fun t734 => (if t733 = t734 then (some (decide ((bt711.1.size : Int) ≤ (a0_0.size : Int)))) else (none)))) else (none))))))))) = some r := by first | (rw [hy700]; with_reducible exact H) | (have H2_ := (Option.bind_some _ _).symm.trans H; rw [hy700]; with_reducible exact H2_) | (have H2_ := (Option.bind_some _ _).symm.trans H; with_reducible exact H2_) | with_reducible exact H | (rw [hy700]; exact H) | exact H
  have Ny700 := Aside0.mk hy700
  clear hy700
  replace H := Option.bind_eq_some_iff.mp H
  obtain ⟨⟨t703, t704⟩, A50, H⟩ := H
  replace H : ((percent_Encode.f k t703 t704).bind fun bt707 => ((percent_Decode.f k a0_0 l0_1).bind fun bt711 => ((percent_Encode.f k a0_0 l0_1).bind fun bt717 => ((percent_Encode.f k a1_0 l1_1).bind fun bt721 => ((mark_Cat.f k (([(⟨bt717.1, bt717.2⟩ : S24), (⟨bt721.1, bt721.2⟩ : S24)] : List (S24)))).bind fun bt728 => ((mark_Same.f k bt707.1 bt707.2 bt728.1 bt728.2).bind fun t732 => (if t732 = true then ((mark_Worst.f k bt711.1 bt711.2).bind fun t733 => ((mark_Worst.f k a0_0 l0_1).bind fun t734 => (if t733 = t734 then (some (decide ((bt711.1.size : Int) ≤ (a0_0.size : Int)))) else (none)))) else (none)))))))) = some r := H
  have A5 := Aside0.mk A50
  clear A50
  replace H := Option.bind_eq_some_iff.mp H
  obtain ⟨⟨t707, t708⟩, A60, H⟩ := H
  replace H : ((percent_Decode.f k a0_0 l0_1).bind fun bt711 => ((percent_Encode.f k a0_0 l0_1).bind fun bt717 => ((percent_Encode.f k a1_0 l1_1).bind fun bt721 => ((mark_Cat.f k (([(⟨bt717.1, bt717.2⟩ : S24), (⟨bt721.1, bt721.2⟩ : S24)] : List (S24)))).bind fun bt728 => ((mark_Same.f k t707 t708 bt728.1 bt728.2).bind fun t732 => (if t732 = true then ((mark_Worst.f k bt711.1 bt711.2).bind fun t733 => ((mark_Worst.f k a0_0 l0_1).bind fun t734 => (if t733 = t734 then (some (decide ((bt711.1.size : Int) ≤ (a0_0.size : Int)))) else (none)))) else (none))))))) = some r := H
  have A6 := Aside0.mk A60
  clear A60
  replace H := Option.bind_eq_some_iff.mp H
  obtain ⟨⟨t711, t712⟩, A70, H⟩ := H
  replace H : ((percent_Encode.f k a0_0 l0_1).bind fun bt717 => ((percent_Encode.f k a1_0 l1_1).bind fun bt721 => ((mark_Cat.f k (([(⟨bt717.1, bt717.2⟩ : S24), (⟨bt721.1, bt721.2⟩ : S24)] : List (S24)))).bind fun bt728 => ((mark_Same.f k t707 t708 bt728.1 bt728.2).bind fun t732 => (if t732 = true then ((mark_Worst.f k t711 t712).bind fun t733 => ((mark_Worst.f k a0_0 l0_1).bind fun t734 => (if t733 = t734 then (some (decide ((t711.size : Int) ≤ (a0_0.size : Int)))) else (none)))) else (none)))))) = some r := H
  have A7 := Aside0.mk A70
  clear A70
  replace H := Option.bind_eq_some_iff.mp H
  obtain ⟨⟨t717, t718⟩, A80, H⟩ := H
  replace H : ((percent_Encode.f k a1_0 l1_1).bind fun bt721 => ((mark_Cat.f k (([(⟨t717, t718⟩ : S24), (⟨bt721.1, bt721.2⟩ : S24)] : List (S24)))).bind fun bt728 => ((mark_Same.f k t707 t708 bt728.1 bt728.2).bind fun t732 => (if t732 = true then ((mark_Worst.f k t711 t712).bind fun t733 => ((mark_Worst.f k a0_0 l0_1).bind fun t734 => (if t733 = t734 then (some (decide ((t711.size : Int) ≤ (a0_0.size : Int)))) else (none)))) else (none))))) = some r := H
  have A8 := Aside0.mk A80
  clear A80
  replace H := Option.bind_eq_some_iff.mp H
  obtain ⟨⟨t721, t722⟩, A90, H⟩ := H
  replace H : ((mark_Cat.f k (([(⟨t717, t718⟩ : S24), (⟨t721, t722⟩ : S24)] : List (S24)))).bind fun bt728 => ((mark_Same.f k t707 t708 bt728.1 bt728.2).bind fun t732 => (if t732 = true then ((mark_Worst.f k t711 t712).bind fun t733 => ((mark_Worst.f k a0_0 l0_1).bind fun t734 => (if t733 = t734 then (some (decide ((t711.size : Int) ≤ (a0_0.size : Int)))) else (none)))) else (none)))) = some r := H
  have A9 := Aside0.mk A90
  clear A90
  obtain ⟨y725, hy725⟩ : ∃ y_ : List (S24), y_ = (([(⟨t717, t718⟩ : S24), (⟨t721, t722⟩ : S24)] : List (S24))) := ⟨_, rfl⟩
  replace H : ((mark_Cat.f k y725).bind fun bt728 => ((mark_Same.f k t707 t708 bt728.1 bt728.2).bind fun t732 => (if t732 = true then ((mark_Worst.f k t711 t712).bind fun t733 => ((mark_Worst.f k a0_0 l0_1).bind fun t734 => (if t733 = t734 then (some (decide ((t711.size : Int) ≤ (a0_0.size : Int)))) else (none)))) else (none)))) = some r := by first | (rw [hy725]; with_reducible exact H) | (have H2_ := (Option.bind_some _ _).symm.trans H; rw [hy725]; with_reducible exact H2_) | (have H2_ := (Option.bind_some _ _).symm.trans H; with_reducible exact H2_) | with_reducible exact H | (rw [hy725]; exact H) | exact H
  have Ny725 := Aside0.mk hy725
  clear hy725
  replace H := Option.bind_eq_some_iff.mp H
  obtain ⟨⟨t728, t729⟩, A100, H⟩ := H
  replace H : ((mark_Same.f k t707 t708 t728 t729).bind fun t732 => (if t732 = true then ((mark_Worst.f k t711 t712).bind fun t733 => ((mark_Worst.f k a0_0 l0_1).bind fun t734 => (if t733 = t734 then (some (decide ((t711.size : Int) ≤ (a0_0.size : Int)))) else (none)))) else (none))) = some r := H
  have A10 := Aside0.mk A100
  clear A100
  replace H := Option.bind_eq_some_iff.mp H
  obtain ⟨t732, A110, H⟩ := H
  replace H : (if t732 = true then ((mark_Worst.f k t711 t712).bind fun t733 => ((mark_Worst.f k a0_0 l0_1).bind fun t734 => (if t733 = t734 then (some (decide ((t711.size : Int) ≤ (a0_0.size : Int)))) else (none)))) else (none)) = some r := H
  have A11 := Aside0.mk A110
  clear A110
  by_cases c12 : t732 = true
  ·
   subst c12
   have H1 : ((mark_Worst.f k t711 t712).bind fun t733 => ((mark_Worst.f k a0_0 l0_1).bind fun t734 => (if t733 = t734 then (some (decide ((t711.size : Int) ≤ (a0_0.size : Int)))) else (none)))) = some r := by rw [if_pos rfl] at H; exact H
   clear H
   have H := H1
   clear H1
   replace H := Option.bind_eq_some_iff.mp H
   obtain ⟨t733, A130, H⟩ := H
   replace H : ((mark_Worst.f k a0_0 l0_1).bind fun t734 => (if t733 = t734 then (some (decide ((t711.size : Int) ≤ (a0_0.size : Int)))) else (none))) = some r := H
   have A13 := Aside0.mk A130
   clear A130
   replace H := Option.bind_eq_some_iff.mp H
   obtain ⟨t734, A140, H⟩ := H
   replace H : (if t733 = t734 then (some (decide ((t711.size : Int) ≤ (a0_0.size : Int)))) else (none)) = some r := H
   have A14 := Aside0.mk A140
   clear A140
   by_cases c15 : t733 = t734
   ·
    rw [if_pos c15] at H
    have c15b0 : (t733 == t734) = true := beq_iff_eq.mpr c15
    have c15b1 : (t733 != t734) = false := bne_eq_false_iff_eq.mpr c15
    clear c15
    obtain rfl := Option.some.inj H
    go_enter Try.func9, Try.ntmps9
    try go_wp2_with (first | ((with_reducible refine gate_dst (N := 2) rfl ?_); refine box_event ?hg (N := 2) ?hd (cs := #[.string a0_0, .slice A0_1 l0_1.length c0_1]) (t := 24) ?hr ?_; (case hd => rfl); (case hg => rfl); (case hr => first | (go_simp; done) | (go_simp; rfl)); intro gb697 hg w16 hbox hb; have n0_ := Aside0.mk (Kd.V_below (Kd.V_elderB (Kd.V_go HO0_1.out) gb697 (Nat.le_of_eq hg.symm)) hb); have n1_ := Aside0.mk (Kd.V_below (Kd.V_elderB (Kd.V_go HO1_1.out) gb697 (Nat.le_of_eq hg.symm)) hb); have n2_ := Aside0.mk (below_step (below_go HB.out) hb); have n3_ := Aside0.mk (hbox); have n4_ := Aside0.mk ((by rw [hg]; exact (below_size (below_go HB.out)) : w.heap.size ≤ gb697)); have n5_ := Aside0.mk ((by rw [hg]; exact (below_size (below_go HB.out)) : w.heap.size ≤ gb697)); clear HO0_1; clear HO1_1; clear HB; have HO0_1 := n0_; have HO1_1 := n1_; have HB := n2_; have BK697 := n3_; have GW697 := n4_; have GE697 := n5_; clear n0_ n1_ n2_ n3_ n4_ n5_; clear hb hbox hg) | ((with_reducible refine gate_dst (N := 3) rfl ?_); refine box_event ?hg (N := 3) ?hd (cs := #[.string a1_0, .slice A1_1 l1_1.length c1_1]) (t := 24) ?hr ?_; (case hd => rfl); (case hg => rfl); (case hr => first | (go_simp; done) | (go_simp; rfl)); intro gb698 hg w17 hbox hb; have n0_ := Aside0.mk (Kd.V_below (Kd.V_elderB (Kd.V_go HO0_1.out) gb698 (Nat.le_of_eq hg.symm)) hb); have n1_ := Aside0.mk (Kd.V_below (Kd.V_elderB (Kd.V_go HO1_1.out) gb698 (Nat.le_of_eq hg.symm)) hb); have n2_ := Aside0.mk (blk_below (blk_go BK697.out) hb); have n3_ := Aside0.mk (below_step (below_go HB.out) hb); have n4_ := Aside0.mk (hbox); have n5_ := Aside0.mk ((by rw [hg]; exact (below_size (below_go HB.out)) : w.heap.size ≤ gb698)); have n6_ := Aside0.mk ((by rw [hg]; exact (below_size (below_go HB.out)) : w.heap.size ≤ gb698)); have n7_ := Aside0.mk ((by rw [hg]; exact Nat.ne_of_lt (blk_lt (g := gb697) (o := .cells #[.string a0_0, .slice A0_1 l0_1.length c0_1] 24 (0, 0)) (blk_go BK697.out)) : gb697 ≠ gb698)); have n8_ := Aside0.mk (blk_apart hg (blk_go BK697.out) : gb698 ≠ gb697); clear HO0_1; clear HO1_1; clear BK697; clear HB; have HO0_1 := n0_; have HO1_1 := n1_; have BK697 := n2_; have HB := n3_; have BK698 := n4_; have GW698 := n5_; have GE698 := n6_; have NB697_698 := n7_; have NB698_697 := n8_; clear n0_ n1_ n2_ n3_ n4_ n5_ n6_ n7_ n8_; clear hb hbox hg) | ((with_reducible refine gate_callee (f := 33) rfl ?_); refine goesL_ (some 7) rfl rfl Try.func33 (by kernel_rfl) rfl #[] rfl (by (try simp only [List.map_toArray, List.map_cons, List.map_nil]); first | done | rfl | (simp only [List.length_drop, List.length_take]; rfl)) ?_; (with_reducible refine (glazierlaw05_alive.calls k  true _ A3.out).mono ?_); rintro e w18 ⟨rfl, hb⟩; refine ⟨_, rfl, ?_⟩; have n0_ := Aside0.mk (Kd.V_below (Kd.V_go HO0_1.out) hb); have n1_ := Aside0.mk (Kd.V_below (Kd.V_go HO1_1.out) hb); have n2_ := Aside0.mk (blk_below (blk_go BK697.out) hb); have n3_ := Aside0.mk (blk_below (blk_go BK698.out) hb); have n4_ := Aside0.mk (below_step (below_go HB.out) hb); clear HO0_1; clear HO1_1; clear BK697; clear BK698; clear HB; have HO0_1 := n0_; have HO1_1 := n1_; have BK697 := n2_; have BK698 := n3_; have HB := n4_; clear n0_ n1_ n2_ n3_ n4_; (try clear hb); (try clear hb2); (try clear hk); (try clear hi)))
    have n0_ := Aside0.mk (Kd.V_drew HO0_1.out)
    have n1_ := Aside0.mk (Kd.V_drew HO1_1.out)
    have n2_ := Aside0.mk (blk_drew BK697.out)
    have n3_ := Aside0.mk (blk_drew BK698.out)
    have n4_ := Aside0.mk (below_drew1 HB.out)
    clear HO0_1
    clear HO1_1
    clear BK697
    clear BK698
    clear HB
    have HO0_1 := n0_
    have HO1_1 := n1_
    have BK697 := n2_
    have BK698 := n3_
    have HB := n4_
    clear n0_ n1_ n2_ n3_ n4_
    refine start_ (n := 11) (S := fun w' => w'.cell? ⟨gb697, 0, none⟩ = some (.string a0_0) ∧ w'.cell? ⟨gb697, 1, none⟩ = some (.slice A0_1 l0_1.length c0_1) ∧ w'.cell? ⟨gb698, 0, none⟩ = some (.string a1_0) ∧ w'.cell? ⟨gb698, 1, none⟩ = some (.slice A1_1 l1_1.length c1_1)) (ds := []) #[false, false, false, false, false, false, false, false, false, false, false] (by kernel_rfl) rfl rfl ⟨(blk_cell BK697.out 0).trans rfl, (blk_cell BK697.out 1).trans rfl, (blk_cell BK698.out 0).trans rfl, (blk_cell BK698.out 1).trans rfl⟩ (fun hHeld => ?_); refine with_tabW glazierlaw05_PercentParts.tab3 glazierlaw05_PercentParts.bits3 (fun HT_ HW_ => ?_)
    generalize w18.drew = w19 at HO0_1 HO1_1 BK697 BK698 HB hHeld ⊢
    refine take_ (i := 0) (N := some 9) (v := ?_) (a' := ?_) #[true, false, false, false, false, false, false, false, false, false, false] rfl rfl (take_ofW HT_.out HW_.out (by kernel_rfl)) (fun _ _ _ h => h) (Or.inl ⟨by rfl, ?_⟩) hHeld ?_ ?_
    rotate_left
    ·
     rintro w' ⟨s0, s1, s2, s3⟩
     go_simp
     with_reducible rfl
    rotate_left
    ·
     simp only [Act.put, List.setIfInBounds_toArray, List.set_cons_zero, List.set_cons_succ, i64_w, i32_w]
     rfl
    refine take_ (i := 1) (N := some 10) (v := ?_) (a' := ?_) #[true, true, false, false, false, false, false, false, false, false, false] rfl rfl (take_ofW HT_.out HW_.out (by kernel_rfl)) (fun _ _ _ h => h) (Or.inl ⟨by rfl, ?_⟩) hHeld ?_ ?_
    rotate_left
    ·
     rintro w' ⟨s0, s1, s2, s3⟩
     go_simp
     with_reducible rfl
    rotate_left
    ·
     simp only [Act.put, List.setIfInBounds_toArray, List.set_cons_zero, List.set_cons_succ, i64_w, i32_w]
     rfl
    refine take_ (i := 5) (N := some 14) (v := ?_) (a' := ?_) #[true, true, false, false, false, true, false, false, false, false, false] rfl rfl (take_ofW HT_.out HW_.out (by kernel_rfl)) (fun _ _ _ h => h) (Or.inl ⟨by rfl, ?_⟩) hHeld ?_ ?_
    rotate_left
    ·
     rintro w' ⟨s0, s1, s2, s3⟩
     go_simp
     with_reducible rfl
    rotate_left
    ·
     simp only [Act.put, List.setIfInBounds_toArray, List.set_cons_zero, List.set_cons_succ, i64_w, i32_w]
     rfl
    refine join_ (σ := Value × Value × Value × Value × Nat × Nat) 2 #[true, true, true, true, true, true, true, true, true, false, false] (fun s_ => [(11, s_.1), (12, .agg #[.string t703, s_.2.1]), (13, .agg #[.string t707, s_.2.2.1]), (15, .agg #[.string t711, s_.2.2.2.1]), (5, .pointer (some ⟨s_.2.2.2.2.1, 0, none⟩)), (6, .pointer (some ⟨s_.2.2.2.2.2, 0, none⟩))]) (fun s_ w' => (w'.cell? ⟨gb697, 0, none⟩ = some (.string a0_0) ∧ w'.cell? ⟨gb697, 1, none⟩ = some (.slice A0_1 l0_1.length c0_1) ∧ w'.cell? ⟨gb698, 0, none⟩ = some (.string a1_0) ∧ w'.cell? ⟨gb698, 1, none⟩ = some (.slice A1_1 l1_1.length c1_1)) ∧ (Kd.V k85 85 w' w.heap.size (fun k_ => ((P0_1_ k_ ∨ P1_1_ k_) ∨ w.heap.size ≤ k_) ∧ some k_ ≠ (s_.1 : Value).ownBlock ∧ some k_ ≠ (s_.2.1 : Value).ownBlock ∧ some k_ ≠ (s_.2.2.1 : Value).ownBlock ∧ some k_ ≠ (s_.2.2.2.1 : Value).ownBlock ∧ k_ ≠ gb697 ∧ k_ ≠ gb698 ∧ k_ ≠ s_.2.2.2.2.1 ∧ k_ ≠ s_.2.2.2.2.2) (.slice A0_1 l0_1.length c0_1) l0_1) ∧ (Kd.V k85 85 w' w.heap.size (fun k_ => ((P0_1_ k_ ∨ P1_1_ k_) ∨ w.heap.size ≤ k_) ∧ some k_ ≠ (s_.1 : Value).ownBlock ∧ some k_ ≠ (s_.2.1 : Value).ownBlock ∧ some k_ ≠ (s_.2.2.1 : Value).ownBlock ∧ some k_ ≠ (s_.2.2.2.1 : Value).ownBlock ∧ k_ ≠ gb697 ∧ k_ ≠ gb698 ∧ k_ ≠ s_.2.2.2.2.1 ∧ k_ ≠ s_.2.2.2.2.2) (.slice A1_1 l1_1.length c1_1) l1_1) ∧ (Kd.N k24 24 w' w.heap.size (fun k_ => ((P0_1_ k_ ∨ P1_1_ k_) ∨ w.heap.size ≤ k_) ∧ some k_ ≠ (s_.2.1 : Value).ownBlock ∧ some k_ ≠ (s_.2.2.1 : Value).ownBlock ∧ some k_ ≠ (s_.2.2.2.1 : Value).ownBlock ∧ k_ ≠ gb697 ∧ k_ ≠ gb698 ∧ k_ ≠ s_.2.2.2.2.1 ∧ k_ ≠ s_.2.2.2.2.2) s_.1 y700) ∧ (Kd.R k85 85 w' w.heap.size (fun k_ => (w.heap.size ≤ k_) ∧ some k_ ≠ (s_.2.2.1 : Value).ownBlock ∧ some k_ ≠ (s_.2.2.2.1 : Value).ownBlock) s_.2.1 t704) ∧ (Kd.R k85 85 w' w.heap.size (fun k_ => (w.heap.size ≤ k_) ∧ some k_ ≠ (s_.2.1 : Value).ownBlock ∧ some k_ ≠ (s_.2.2.2.1 : Value).ownBlock) s_.2.2.1 t708) ∧ (Kd.R k85 85 w' w.heap.size (fun k_ => (w.heap.size ≤ k_) ∧ some k_ ≠ (s_.2.1 : Value).ownBlock ∧ some k_ ≠ (s_.2.2.1 : Value).ownBlock) s_.2.2.2.1 t712) ∧ (w'.heap[gb697]? = some (.cells #[.string a0_0, .slice A0_1 l0_1.length c0_1] 24 (0, 0))) ∧ (w'.heap[gb698]? = some (.cells #[.string a1_0, .slice A1_1 l1_1.length c1_1] 24 (0, 0))) ∧ (w'.heap[s_.2.2.2.2.1]? = some (.cells #[.string (⟨#[]⟩ : ByteArray), .slice none 0 0] 24 (0, 0))) ∧ (w'.heap[s_.2.2.2.2.2]? = some (.cells #[.string (⟨#[]⟩ : ByteArray), .slice none 0 0] 24 (0, 0))) ∧ (w.heap.size ≤ s_.2.2.2.2.1) ∧ (w.heap.size ≤ s_.2.2.2.2.1) ∧ (gb697 ≠ s_.2.2.2.2.1) ∧ (s_.2.2.2.2.1 ≠ gb697) ∧ (gb698 ≠ s_.2.2.2.2.1) ∧ (s_.2.2.2.2.1 ≠ gb698) ∧ (s_.2.2.2.2.2 ≠ s_.2.2.2.2.1) ∧ (s_.2.2.2.2.1 ≠ s_.2.2.2.2.2) ∧ (w.heap.size ≤ s_.2.2.2.2.2) ∧ (w.heap.size ≤ s_.2.2.2.2.2) ∧ (gb697 ≠ s_.2.2.2.2.2) ∧ (s_.2.2.2.2.2 ≠ gb697) ∧ (gb698 ≠ s_.2.2.2.2.2) ∧ (s_.2.2.2.2.2 ≠ gb698) ∧ (Below w.heap.size w w')) ?_ ?_
    ·
     rintro ⟨v701, v705, v709, v713, gb715, gb716⟩ w29 ⟨hS_, h0_, h1_, h2_, h3_, h4_, h5_, h6_, h7_, h8_, h9_, h10_, h11_, h12_, h13_, h14_, h15_, h16_, h17_, h18_, h19_, h20_, h21_, h22_, h23_, h24_⟩
     dsimp only at hS_ h0_ h1_ h2_ h3_ h4_ h5_ h6_ h7_ h8_ h9_ h10_ h11_ h12_ h13_ h14_ h15_ h16_ h17_ h18_ h19_ h20_ h21_ h22_ h23_ h24_
     have n0_ := Aside0.mk h0_
     have n1_ := Aside0.mk h1_
     have n2_ := Aside0.mk h2_
     have n3_ := Aside0.mk h3_
     have n4_ := Aside0.mk h4_
     have n5_ := Aside0.mk h5_
     have n6_ := Aside0.mk h6_
     have n7_ := Aside0.mk h7_
     have n8_ := Aside0.mk h8_
     have n9_ := Aside0.mk h9_
     have n10_ := Aside0.mk h10_
     have n11_ := Aside0.mk h11_
     have n12_ := Aside0.mk h12_
     have n13_ := Aside0.mk h13_
     have n14_ := Aside0.mk h14_
     have n15_ := Aside0.mk h15_
     have n16_ := Aside0.mk h16_
     have n17_ := Aside0.mk h17_
     have n18_ := Aside0.mk h18_
     have n19_ := Aside0.mk h19_
     have n20_ := Aside0.mk h20_
     have n21_ := Aside0.mk h21_
     have n22_ := Aside0.mk h22_
     have n23_ := Aside0.mk h23_
     have n24_ := Aside0.mk h24_
     clear HO0_1
     clear HO1_1
     clear BK697
     clear BK698
     clear HB
     clear h0_ h1_ h2_ h3_ h4_ h5_ h6_ h7_ h8_ h9_ h10_ h11_ h12_ h13_ h14_ h15_ h16_ h17_ h18_ h19_ h20_ h21_ h22_ h23_ h24_
     have HO0_1 := n0_
     have HO1_1 := n1_
     have HO702 := n2_
     have HO706 := n3_
     have HO710 := n4_
     have HO714 := n5_
     have BK697 := n6_
     have BK698 := n7_
     have BK715 := n8_
     have BK716 := n9_
     have GW715 := n10_
     have GE715 := n11_
     have NB697_715 := n12_
     have NB715_697 := n13_
     have NB698_715 := n14_
     have NB715_698 := n15_
     have NB716_715 := n16_
     have NB715_716 := n17_
     have GW716 := n18_
     have GE716 := n19_
     have NB697_716 := n20_
     have NB716_697 := n21_
     have NB698_716 := n22_
     have NB716_698 := n23_
     have HB := n24_
     clear n0_ n1_ n2_ n3_ n4_ n5_ n6_ n7_ n8_ n9_ n10_ n11_ n12_ n13_ n14_ n15_ n16_ n17_ n18_ n19_ n20_ n21_ n22_ n23_ n24_
     have hHeld := hS_
     obtain ⟨Ao31, co31, eo31⟩ := Kd.R_slice HO710.out
     (first | subst eo31 | (injection eo31 with f1_ f2_ f3_; have f4_ := f1_.symm; have f5_ := f3_.symm; clear f1_ f2_ f3_; subst f4_; subst f5_))
     obtain ⟨Ao34, co34, eo34⟩ := Kd.R_slice HO714.out
     (first | subst eo34 | (injection eo34 with f1_ f2_ f3_; have f4_ := f1_.symm; have f5_ := f3_.symm; clear f1_ f2_ f3_; subst f4_; subst f5_))
     refine norm_ (a' := ?_) ?_ ?_
     rotate_left
     ·
      simp only [putAll, Act.put, List.setIfInBounds_toArray, List.set_cons_zero, List.set_cons_succ]
      rfl
     refine one_ (i := 9) (N := none) #[true, true, true, true, true, true, true, true, true, true, false] rfl rfl (one_of HT_.out (by kernel_rfl)) (by decide) (fun K hK => ?_)
     have hs30 : w29.cell? ⟨gb715, 0, none⟩ = some (.string (⟨#[]⟩ : ByteArray)) := (blk_cell BK715.out 0).trans rfl
     have hfs30 := blk_frozen BK715.out 0
     have hns30_0 := NB697_715.out
     have hns30_1 := NB698_715.out
     have hns30_3 := NB716_715.out
     have hms30_0 := NB715_697.out
     have hms30_1 := NB715_698.out
     have hms30_3 := NB715_716.out
     have hs32 : w29.cell? ⟨gb715, 1, none⟩ = some (.slice none 0 0) := (blk_cell BK715.out 1).trans rfl
     have hfs32 := blk_frozen BK715.out 1
     have hns32_0 := NB697_715.out
     have hns32_1 := NB698_715.out
     have hns32_3 := NB716_715.out
     have hms32_0 := NB715_697.out
     have hms32_1 := NB715_698.out
     have hms32_3 := NB715_716.out
     refine skip_ (w1 := ?_) (by rfl) rfl ?_ ?_
     rotate_left
     ·
      go_simp
      rfl
     refine hK.out _ _ ⟨((cell_far (p := ⟨gb715, _, none⟩) NB697_715.out _).trans (((cell_far (p := ⟨gb715, _, none⟩) NB697_715.out _).trans (hHeld.1)))), ((cell_far (p := ⟨gb715, _, none⟩) NB697_715.out _).trans (((cell_far (p := ⟨gb715, _, none⟩) NB697_715.out _).trans (hHeld.2.1)))), ((cell_far (p := ⟨gb715, _, none⟩) NB698_715.out _).trans (((cell_far (p := ⟨gb715, _, none⟩) NB698_715.out _).trans (hHeld.2.2.1)))), ((cell_far (p := ⟨gb715, _, none⟩) NB698_715.out _).trans (((cell_far (p := ⟨gb715, _, none⟩) NB698_715.out _).trans (hHeld.2.2.2))))⟩ (fun hHeld => ?_)
     clear hK K
     refine one_ (i := 10) (N := none) #[true, true, true, true, true, true, true, true, true, true, true] rfl rfl (one_of HT_.out (by kernel_rfl)) (by decide) (fun K hK => ?_)
     have hs33 : w29.cell? ⟨gb716, 0, none⟩ = some (.string (⟨#[]⟩ : ByteArray)) := (blk_cell BK716.out 0).trans rfl
     have hfs33 := blk_frozen BK716.out 0
     have hns33_0 := NB697_716.out
     have hns33_1 := NB698_716.out
     have hns33_2 := NB715_716.out
     have hms33_0 := NB716_697.out
     have hms33_1 := NB716_698.out
     have hms33_2 := NB716_715.out
     have hs35 : w29.cell? ⟨gb716, 1, none⟩ = some (.slice none 0 0) := (blk_cell BK716.out 1).trans rfl
     have hfs35 := blk_frozen BK716.out 1
     have hns35_0 := NB697_716.out
     have hns35_1 := NB698_716.out
     have hns35_2 := NB715_716.out
     have hms35_0 := NB716_697.out
     have hms35_1 := NB716_698.out
     have hms35_2 := NB716_715.out
     refine skip_ (w1 := ?_) (by rfl) rfl ?_ ?_
     rotate_left
     ·
      go_simp
      rfl
     refine hK.out _ _ ⟨((cell_far (p := ⟨gb716, _, none⟩) NB697_716.out _).trans (((cell_far (p := ⟨gb716, _, none⟩) NB697_716.out _).trans (hHeld.1)))), ((cell_far (p := ⟨gb716, _, none⟩) NB697_716.out _).trans (((cell_far (p := ⟨gb716, _, none⟩) NB697_716.out _).trans (hHeld.2.1)))), ((cell_far (p := ⟨gb716, _, none⟩) NB698_716.out _).trans (((cell_far (p := ⟨gb716, _, none⟩) NB698_716.out _).trans (hHeld.2.2.1)))), ((cell_far (p := ⟨gb716, _, none⟩) NB698_716.out _).trans (((cell_far (p := ⟨gb716, _, none⟩) NB698_716.out _).trans (hHeld.2.2.2))))⟩ (fun hHeld => ?_)
     clear hK K
     refine done_ (done_of HT_.out (by kernel_rfl)) ?_
     try go_wp2
     have n0_ : Aside0 (Kd.V k85 85 ((((w29.setCell ⟨gb715, 0, none⟩ (.string t707)).setCell ⟨gb715, 1, none⟩ (.slice Ao31 t708.length co31)).setCell ⟨gb716, 0, none⟩ (.string t711)).setCell ⟨gb716, 1, none⟩ (.slice Ao34 t712.length co34)) w.heap.size (fun k_ => ((P0_1_ k_ ∨ P1_1_ k_) ∨ w.heap.size ≤ k_) ∧ some k_ ≠ (v701 : Value).ownBlock ∧ some k_ ≠ (v705 : Value).ownBlock ∧ some k_ ≠ (.slice Ao31 t708.length co31 : Value).ownBlock ∧ some k_ ≠ (.slice Ao34 t712.length co34 : Value).ownBlock ∧ k_ ≠ gb697 ∧ k_ ≠ gb698 ∧ k_ ≠ gb715 ∧ k_ ≠ gb716) (.slice A0_1 l0_1.length c0_1) l0_1) := ⟨by (with_reducible repeat (first | apply Kd.V_alloc | apply Kd.V_drewN | apply Kd.V_drew)); exact Kd.V_mono (Kd.V_far (p := ⟨gb716, 1, none⟩) (Kd.V_far (p := ⟨gb716, 0, none⟩) (Kd.V_far (p := ⟨gb715, 1, none⟩) (Kd.V_far (p := ⟨gb715, 0, none⟩) (Kd.V_mono (Kd.V_mono HO0_1.out (fun k_ hk => (⟨hk, hk.2.2.2.2.2.2.2.1⟩ : _ ∧ k_ ≠ gb715))) (fun k_ hk => (⟨hk, hk.1.2.2.2.2.2.2.2.2⟩ : _ ∧ k_ ≠ gb716))) (fun _ hk => hk.1.2) (.string t707)) (fun _ hk => hk.1.2) (.slice Ao31 t708.length co31)) (fun _ hk => hk.2) (.string t711)) (fun _ hk => hk.2) (.slice Ao34 t712.length co34)) (fun _ hk => ⟨hk.1.1.1, ⟨hk.1.1.2.1, ⟨hk.1.1.2.2.1, ⟨hk.1.1.2.2.2.1, ⟨hk.1.1.2.2.2.2.1, ⟨hk.1.1.2.2.2.2.2.1, ⟨hk.1.1.2.2.2.2.2.2.1, ⟨hk.1.1.2.2.2.2.2.2.2.1, hk.1.1.2.2.2.2.2.2.2.2⟩⟩⟩⟩⟩⟩⟩⟩)⟩
     have n1_ : Aside0 (Kd.V k85 85 ((((w29.setCell ⟨gb715, 0, none⟩ (.string t707)).setCell ⟨gb715, 1, none⟩ (.slice Ao31 t708.length co31)).setCell ⟨gb716, 0, none⟩ (.string t711)).setCell ⟨gb716, 1, none⟩ (.slice Ao34 t712.length co34)) w.heap.size (fun k_ => ((P0_1_ k_ ∨ P1_1_ k_) ∨ w.heap.size ≤ k_) ∧ some k_ ≠ (v701 : Value).ownBlock ∧ some k_ ≠ (v705 : Value).ownBlock ∧ some k_ ≠ (.slice Ao31 t708.length co31 : Value).ownBlock ∧ some k_ ≠ (.slice Ao34 t712.length co34 : Value).ownBlock ∧ k_ ≠ gb697 ∧ k_ ≠ gb698 ∧ k_ ≠ gb715 ∧ k_ ≠ gb716) (.slice A1_1 l1_1.length c1_1) l1_1) := ⟨by (with_reducible repeat (first | apply Kd.V_alloc | apply Kd.V_drewN | apply Kd.V_drew)); exact Kd.V_mono (Kd.V_far (p := ⟨gb716, 1, none⟩) (Kd.V_far (p := ⟨gb716, 0, none⟩) (Kd.V_far (p := ⟨gb715, 1, none⟩) (Kd.V_far (p := ⟨gb715, 0, none⟩) (Kd.V_mono (Kd.V_mono HO1_1.out (fun k_ hk => (⟨hk, hk.2.2.2.2.2.2.2.1⟩ : _ ∧ k_ ≠ gb715))) (fun k_ hk => (⟨hk, hk.1.2.2.2.2.2.2.2.2⟩ : _ ∧ k_ ≠ gb716))) (fun _ hk => hk.1.2) (.string t707)) (fun _ hk => hk.1.2) (.slice Ao31 t708.length co31)) (fun _ hk => hk.2) (.string t711)) (fun _ hk => hk.2) (.slice Ao34 t712.length co34)) (fun _ hk => ⟨hk.1.1.1, ⟨hk.1.1.2.1, ⟨hk.1.1.2.2.1, ⟨hk.1.1.2.2.2.1, ⟨hk.1.1.2.2.2.2.1, ⟨hk.1.1.2.2.2.2.2.1, ⟨hk.1.1.2.2.2.2.2.2.1, ⟨hk.1.1.2.2.2.2.2.2.2.1, hk.1.1.2.2.2.2.2.2.2.2⟩⟩⟩⟩⟩⟩⟩⟩)⟩
     have n2_ : Aside0 (Kd.N k24 24 ((((w29.setCell ⟨gb715, 0, none⟩ (.string t707)).setCell ⟨gb715, 1, none⟩ (.slice Ao31 t708.length co31)).setCell ⟨gb716, 0, none⟩ (.string t711)).setCell ⟨gb716, 1, none⟩ (.slice Ao34 t712.length co34)) w.heap.size (fun k_ => ((P0_1_ k_ ∨ P1_1_ k_) ∨ w.heap.size ≤ k_) ∧ some k_ ≠ (v705 : Value).ownBlock ∧ some k_ ≠ (.slice Ao31 t708.length co31 : Value).ownBlock ∧ some k_ ≠ (.slice Ao34 t712.length co34 : Value).ownBlock ∧ k_ ≠ gb697 ∧ k_ ≠ gb698 ∧ k_ ≠ gb715 ∧ k_ ≠ gb716) v701 y700) := ⟨by (with_reducible repeat (first | apply Kd.N_alloc | apply Kd.N_drewN | apply Kd.N_drew)); exact Kd.N_mono (Kd.N_far (p := ⟨gb716, 1, none⟩) (Kd.N_far (p := ⟨gb716, 0, none⟩) (Kd.N_far (p := ⟨gb715, 1, none⟩) (Kd.N_far (p := ⟨gb715, 0, none⟩) (Kd.N_mono (Kd.N_mono HO702.out (fun k_ hk => (⟨hk, hk.2.2.2.2.2.2.1⟩ : _ ∧ k_ ≠ gb715))) (fun k_ hk => (⟨hk, hk.1.2.2.2.2.2.2.2⟩ : _ ∧ k_ ≠ gb716))) (fun _ hk => hk.1.2) (.string t707)) (fun _ hk => hk.1.2) (.slice Ao31 t708.length co31)) (fun _ hk => hk.2) (.string t711)) (fun _ hk => hk.2) (.slice Ao34 t712.length co34)) (fun _ hk => ⟨hk.1.1.1, ⟨hk.1.1.2.1, ⟨hk.1.1.2.2.1, ⟨hk.1.1.2.2.2.1, ⟨hk.1.1.2.2.2.2.1, ⟨hk.1.1.2.2.2.2.2.1, ⟨hk.1.1.2.2.2.2.2.2.1, hk.1.1.2.2.2.2.2.2.2⟩⟩⟩⟩⟩⟩⟩)⟩
     have n3_ : Aside0 (Kd.R k85 85 ((((w29.setCell ⟨gb715, 0, none⟩ (.string t707)).setCell ⟨gb715, 1, none⟩ (.slice Ao31 t708.length co31)).setCell ⟨gb716, 0, none⟩ (.string t711)).setCell ⟨gb716, 1, none⟩ (.slice Ao34 t712.length co34)) w.heap.size (fun k_ => (w.heap.size ≤ k_) ∧ some k_ ≠ (.slice Ao31 t708.length co31 : Value).ownBlock ∧ some k_ ≠ (.slice Ao34 t712.length co34 : Value).ownBlock) v705 t704) := ⟨by (with_reducible repeat (first | apply Kd.R_alloc | apply Kd.R_drewN | apply Kd.R_drew)); exact Kd.R_mono (Kd.R_far (p := ⟨gb716, 1, none⟩) (Kd.R_far (p := ⟨gb716, 0, none⟩) (Kd.R_far (p := ⟨gb715, 1, none⟩) (Kd.R_far (p := ⟨gb715, 0, none⟩) (Kd.R_types (Kd.R_types HO706.out BK715.out (by decide)) BK716.out (by decide)) (fun _ hk => hk.1.2) (.string t707)) (fun _ hk => hk.1.2) (.slice Ao31 t708.length co31)) (fun _ hk => hk.2) (.string t711)) (fun _ hk => hk.2) (.slice Ao34 t712.length co34)) (fun _ hk => ⟨hk.1.1.1, ⟨hk.1.1.2.1, hk.1.1.2.2⟩⟩)⟩
     have n4_ : Aside0 (Kd.R k85 85 ((((w29.setCell ⟨gb715, 0, none⟩ (.string t707)).setCell ⟨gb715, 1, none⟩ (.slice Ao31 t708.length co31)).setCell ⟨gb716, 0, none⟩ (.string t711)).setCell ⟨gb716, 1, none⟩ (.slice Ao34 t712.length co34)) w.heap.size (fun k_ => (w.heap.size ≤ k_) ∧ some k_ ≠ (v705 : Value).ownBlock ∧ some k_ ≠ (.slice Ao34 t712.length co34 : Value).ownBlock) (.slice Ao31 t708.length co31) t708) := ⟨by (with_reducible repeat (first | apply Kd.R_alloc | apply Kd.R_drewN | apply Kd.R_drew)); exact Kd.R_mono (Kd.R_far (p := ⟨gb716, 1, none⟩) (Kd.R_far (p := ⟨gb716, 0, none⟩) (Kd.R_far (p := ⟨gb715, 1, none⟩) (Kd.R_far (p := ⟨gb715, 0, none⟩) (Kd.R_types (Kd.R_types HO710.out BK715.out (by decide)) BK716.out (by decide)) (fun _ hk => hk.1.2) (.string t707)) (fun _ hk => hk.1.2) (.slice Ao31 t708.length co31)) (fun _ hk => hk.2) (.string t711)) (fun _ hk => hk.2) (.slice Ao34 t712.length co34)) (fun _ hk => ⟨hk.1.1.1, ⟨hk.1.1.2.1, hk.1.1.2.2⟩⟩)⟩
     have n5_ : Aside0 (Kd.R k85 85 ((((w29.setCell ⟨gb715, 0, none⟩ (.string t707)).setCell ⟨gb715, 1, none⟩ (.slice Ao31 t708.length co31)).setCell ⟨gb716, 0, none⟩ (.string t711)).setCell ⟨gb716, 1, none⟩ (.slice Ao34 t712.length co34)) w.heap.size (fun k_ => (w.heap.size ≤ k_) ∧ some k_ ≠ (v705 : Value).ownBlock ∧ some k_ ≠ (.slice Ao31 t708.length co31 : Value).ownBlock) (.slice Ao34 t712.length co34) t712) := ⟨by (with_reducible repeat (first | apply Kd.R_alloc | apply Kd.R_drewN | apply Kd.R_drew)); exact Kd.R_mono (Kd.R_far (p := ⟨gb716, 1, none⟩) (Kd.R_far (p := ⟨gb716, 0, none⟩) (Kd.R_far (p := ⟨gb715, 1, none⟩) (Kd.R_far (p := ⟨gb715, 0, none⟩) (Kd.R_types (Kd.R_types HO714.out BK715.out (by decide)) BK716.out (by decide)) (fun _ hk => hk.1.2) (.string t707)) (fun _ hk => hk.1.2) (.slice Ao31 t708.length co31)) (fun _ hk => hk.2) (.string t711)) (fun _ hk => hk.2) (.slice Ao34 t712.length co34)) (fun _ hk => ⟨hk.1.1.1, ⟨hk.1.1.2.1, hk.1.1.2.2⟩⟩)⟩
     have n6_ : Aside0 (((((w29.setCell ⟨gb715, 0, none⟩ (.string t707)).setCell ⟨gb715, 1, none⟩ (.slice Ao31 t708.length co31)).setCell ⟨gb716, 0, none⟩ (.string t711)).setCell ⟨gb716, 1, none⟩ (.slice Ao34 t712.length co34)).heap[gb697]? = some (.cells #[.string a0_0, .slice A0_1 l0_1.length c0_1] 24 (0, 0))) := ⟨by (with_reducible repeat (first | refine blk_drewN ?_ _ | refine blk_drew ?_ | refine blk_alloc ?_ _)); refine blk_far ?_ NB697_716.out _; (with_reducible repeat (first | refine blk_drewN ?_ _ | refine blk_drew ?_ | refine blk_alloc ?_ _)); refine blk_far ?_ NB697_716.out _; (with_reducible repeat (first | refine blk_drewN ?_ _ | refine blk_drew ?_ | refine blk_alloc ?_ _)); refine blk_far ?_ NB697_715.out _; (with_reducible repeat (first | refine blk_drewN ?_ _ | refine blk_drew ?_ | refine blk_alloc ?_ _)); refine blk_far ?_ NB697_715.out _; (with_reducible repeat (first | refine blk_drewN ?_ _ | refine blk_drew ?_ | refine blk_alloc ?_ _)); exact BK697.out⟩
     have n7_ : Aside0 (((((w29.setCell ⟨gb715, 0, none⟩ (.string t707)).setCell ⟨gb715, 1, none⟩ (.slice Ao31 t708.length co31)).setCell ⟨gb716, 0, none⟩ (.string t711)).setCell ⟨gb716, 1, none⟩ (.slice Ao34 t712.length co34)).heap[gb698]? = some (.cells #[.string a1_0, .slice A1_1 l1_1.length c1_1] 24 (0, 0))) := ⟨by (with_reducible repeat (first | refine blk_drewN ?_ _ | refine blk_drew ?_ | refine blk_alloc ?_ _)); refine blk_far ?_ NB698_716.out _; (with_reducible repeat (first | refine blk_drewN ?_ _ | refine blk_drew ?_ | refine blk_alloc ?_ _)); refine blk_far ?_ NB698_716.out _; (with_reducible repeat (first | refine blk_drewN ?_ _ | refine blk_drew ?_ | refine blk_alloc ?_ _)); refine blk_far ?_ NB698_715.out _; (with_reducible repeat (first | refine blk_drewN ?_ _ | refine blk_drew ?_ | refine blk_alloc ?_ _)); refine blk_far ?_ NB698_715.out _; (with_reducible repeat (first | refine blk_drewN ?_ _ | refine blk_drew ?_ | refine blk_alloc ?_ _)); exact BK698.out⟩
     have n8_ : Aside0 (((((w29.setCell ⟨gb715, 0, none⟩ (.string t707)).setCell ⟨gb715, 1, none⟩ (.slice Ao31 t708.length co31)).setCell ⟨gb716, 0, none⟩ (.string t711)).setCell ⟨gb716, 1, none⟩ (.slice Ao34 t712.length co34)).heap[gb715]? = some (.cells #[.string t707, .slice Ao31 t708.length co31] 24 (0, 0))) := ⟨by (with_reducible repeat (first | refine blk_drewN ?_ _ | refine blk_drew ?_ | refine blk_alloc ?_ _)); refine blk_far ?_ NB715_716.out _; (with_reducible repeat (first | refine blk_drewN ?_ _ | refine blk_drew ?_ | refine blk_alloc ?_ _)); refine blk_far ?_ NB715_716.out _; (with_reducible repeat (first | refine blk_drewN ?_ _ | refine blk_drew ?_ | refine blk_alloc ?_ _)); refine blk_put (cs := #[.string t707, .slice none 0 0]) ?_ 1 _ rfl; (with_reducible repeat (first | refine blk_drewN ?_ _ | refine blk_drew ?_ | refine blk_alloc ?_ _)); refine blk_put (cs := #[.string (⟨#[]⟩ : ByteArray), .slice none 0 0]) ?_ 0 _ rfl; (with_reducible repeat (first | refine blk_drewN ?_ _ | refine blk_drew ?_ | refine blk_alloc ?_ _)); exact BK715.out⟩
     have n9_ : Aside0 (((((w29.setCell ⟨gb715, 0, none⟩ (.string t707)).setCell ⟨gb715, 1, none⟩ (.slice Ao31 t708.length co31)).setCell ⟨gb716, 0, none⟩ (.string t711)).setCell ⟨gb716, 1, none⟩ (.slice Ao34 t712.length co34)).heap[gb716]? = some (.cells #[.string t711, .slice Ao34 t712.length co34] 24 (0, 0))) := ⟨by (with_reducible repeat (first | refine blk_drewN ?_ _ | refine blk_drew ?_ | refine blk_alloc ?_ _)); refine blk_put (cs := #[.string t711, .slice none 0 0]) ?_ 1 _ rfl; (with_reducible repeat (first | refine blk_drewN ?_ _ | refine blk_drew ?_ | refine blk_alloc ?_ _)); refine blk_put (cs := #[.string (⟨#[]⟩ : ByteArray), .slice none 0 0]) ?_ 0 _ rfl; (with_reducible repeat (first | refine blk_drewN ?_ _ | refine blk_drew ?_ | refine blk_alloc ?_ _)); refine blk_far ?_ NB716_715.out _; (with_reducible repeat (first | refine blk_drewN ?_ _ | refine blk_drew ?_ | refine blk_alloc ?_ _)); refine blk_far ?_ NB716_715.out _; (with_reducible repeat (first | refine blk_drewN ?_ _ | refine blk_drew ?_ | refine blk_alloc ?_ _)); exact BK716.out⟩
     have n10_ : Aside0 (Below w.heap.size w ((((w29.setCell ⟨gb715, 0, none⟩ (.string t707)).setCell ⟨gb715, 1, none⟩ (.slice Ao31 t708.length co31)).setCell ⟨gb716, 0, none⟩ (.string t711)).setCell ⟨gb716, 1, none⟩ (.slice Ao34 t712.length co34))) := ⟨by repeat (first | (with_reducible first | exact HB.out | apply below_alloc | apply pw_below_drewN | apply below_drew1 | refine below_set ?_ GE697.out | refine below_set ?_ GE698.out | refine below_set ?_ GE715.out | refine below_set ?_ GE716.out) | exact HB.out)⟩
     (try clear HO0_1)
     (try clear HO1_1)
     (try clear HO702)
     (try clear HO706)
     (try clear HO710)
     (try clear HO714)
     (try clear BK697)
     (try clear BK698)
     (try clear BK715)
     (try clear BK716)
     (try clear HB)
     generalize ((((w29.setCell ⟨gb715, 0, none⟩ (.string t707)).setCell ⟨gb715, 1, none⟩ (.slice Ao31 t708.length co31)).setCell ⟨gb716, 0, none⟩ (.string t711)).setCell ⟨gb716, 1, none⟩ (.slice Ao34 t712.length co34)) = w36 at n0_ n1_ n2_ n3_ n4_ n5_ n6_ n7_ n8_ n9_ n10_ ⊢
     have HO0_1 := n0_
     have HO1_1 := n1_
     have HO702 := n2_
     have HO706 := n3_
     have HO710 := n4_
     have HO714 := n5_
     have BK697 := n6_
     have BK698 := n7_
     have BK715 := n8_
     have BK716 := n9_
     have HB := n10_
     clear n0_ n1_ n2_ n3_ n4_ n5_ n6_ n7_ n8_ n9_ n10_
     have n0_ := Aside0.mk (Kd.V_drew HO0_1.out)
     have n1_ := Aside0.mk (Kd.V_drew HO1_1.out)
     have n2_ := Aside0.mk (Kd.N_drew HO702.out)
     have n3_ := Aside0.mk (Kd.R_drew HO706.out)
     have n4_ := Aside0.mk (Kd.R_drew HO710.out)
     have n5_ := Aside0.mk (Kd.R_drew HO714.out)
     have n6_ := Aside0.mk (blk_drew BK697.out)
     have n7_ := Aside0.mk (blk_drew BK698.out)
     have n8_ := Aside0.mk (blk_drew BK715.out)
     have n9_ := Aside0.mk (blk_drew BK716.out)
     have n10_ := Aside0.mk (below_drew1 HB.out)
     clear HO0_1
     clear HO1_1
     clear HO702
     clear HO706
     clear HO710
     clear HO714
     clear BK697
     clear BK698
     clear BK715
     clear BK716
     clear HB
     have HO0_1 := n0_
     have HO1_1 := n1_
     have HO702 := n2_
     have HO706 := n3_
     have HO710 := n4_
     have HO714 := n5_
     have BK697 := n6_
     have BK698 := n7_
     have BK715 := n8_
     have BK716 := n9_
     have HB := n10_
     clear n0_ n1_ n2_ n3_ n4_ n5_ n6_ n7_ n8_ n9_ n10_
     refine start_ (n := 25) (S := fun w' => w'.cell? ⟨gb715, 0, none⟩ = some (.string t707) ∧ w'.cell? ⟨gb715, 1, none⟩ = some (.slice Ao31 t708.length co31) ∧ w'.cell? ⟨gb697, 0, none⟩ = some (.string a0_0) ∧ w'.cell? ⟨gb697, 1, none⟩ = some (.slice A0_1 l0_1.length c0_1) ∧ w'.cell? ⟨gb698, 0, none⟩ = some (.string a1_0) ∧ w'.cell? ⟨gb698, 1, none⟩ = some (.slice A1_1 l1_1.length c1_1) ∧ w'.cell? ⟨gb716, 0, none⟩ = some (.string t711) ∧ w'.cell? ⟨gb716, 1, none⟩ = some (.slice Ao34 t712.length co34)) (ds := []) #[false, false, false, false, false, false, false, false, false, false, false, false, false, false, false, false, false, false, false, false, false, false, false, false, false] (by kernel_rfl) rfl rfl ⟨(blk_cell BK715.out 0).trans rfl, (blk_cell BK715.out 1).trans rfl, (blk_cell BK697.out 0).trans rfl, (blk_cell BK697.out 1).trans rfl, (blk_cell BK698.out 0).trans rfl, (blk_cell BK698.out 1).trans rfl, (blk_cell BK716.out 0).trans rfl, (blk_cell BK716.out 1).trans rfl⟩ (fun hHeld => ?_); refine with_tabW glazierlaw05_PercentParts.tab4 glazierlaw05_PercentParts.bits4 (fun HT_ HW_ => ?_)
     generalize w36.drew = w37 at HO0_1 HO1_1 HO702 HO706 HO710 HO714 BK697 BK698 BK715 BK716 HB hHeld ⊢
     refine take_ (i := 0) (N := some 16) (v := ?_) (a' := ?_) #[true, false, false, false, false, false, false, false, false, false, false, false, false, false, false, false, false, false, false, false, false, false, false, false, false] rfl rfl (take_ofW HT_.out HW_.out (by kernel_rfl)) (fun _ _ _ h => h) (Or.inl ⟨by rfl, ?_⟩) hHeld ?_ ?_
     rotate_left
     ·
      rintro w' ⟨s0, s1, s2, s3, s4, s5, s6, s7⟩
      go_simp
      with_reducible rfl
     rotate_left
     ·
      simp only [Act.put, List.setIfInBounds_toArray, List.set_cons_zero, List.set_cons_succ, i64_w, i32_w]
      rfl
     refine take_ (i := 1) (N := some 17) (v := ?_) (a' := ?_) #[true, true, false, false, false, false, false, false, false, false, false, false, false, false, false, false, false, false, false, false, false, false, false, false, false] rfl rfl (take_ofW HT_.out HW_.out (by kernel_rfl)) (fun _ _ _ h => h) (Or.inl ⟨by rfl, ?_⟩) hHeld ?_ ?_
     rotate_left
     ·
      rintro w' ⟨s0, s1, s2, s3, s4, s5, s6, s7⟩
      go_simp
      with_reducible rfl
     rotate_left
     ·
      simp only [Act.put, List.setIfInBounds_toArray, List.set_cons_zero, List.set_cons_succ, i64_w, i32_w]
      rfl
     refine take_ (i := 3) (N := some 19) (v := ?_) (a' := ?_) #[true, true, false, true, false, false, false, false, false, false, false, false, false, false, false, false, false, false, false, false, false, false, false, false, false] rfl rfl (take_ofW HT_.out HW_.out (by kernel_rfl)) (fun _ _ _ h => h) (Or.inl ⟨by rfl, ?_⟩) hHeld ?_ ?_
     rotate_left
     ·
      rintro w' ⟨s0, s1, s2, s3, s4, s5, s6, s7⟩
      go_simp
      with_reducible rfl
     rotate_left
     ·
      simp only [Act.put, List.setIfInBounds_toArray, List.set_cons_zero, List.set_cons_succ, i64_w, i32_w]
      rfl
     refine one_ (i := 2) (N := some 18) #[true, true, true, true, false, false, false, false, false, false, false, false, false, false, false, false, false, false, false, false, false, false, false, false, false] rfl rfl (one_of HT_.out (by kernel_rfl)) (by decide) (fun K hK => ?_)
     refine goes_ Try.func38 (by kernel_rfl) rfl #[.agg #[.string a0_0, .slice A0_1 l0_1.length c0_1]] (by rfl) rfl rfl (by (try simp only [List.map_toArray, List.map_cons, List.map_nil]); first | done | rfl | (simp only [List.length_drop, List.length_take]; rfl)) ?_
     with_reducible refine (percent_Encode.calls k a0_0 _ _ l0_1 t717 t718 _ ?side1 ?side2 A8.out).mono ?_
     (case side1 => repeat (first | exact (Kd.V_reads' HO0_1.out).2.2 | (with_reducible refine Kd.C_alloc ?_ _) | (with_reducible refine Kd.C_drewN ?_ _) | (with_reducible refine Kd.C_drew ?_)))
     (case side2 => exact (Kd.V_reads' HO0_1.out).2.1)
     rintro e w38 ⟨v719, rfl, ho0, hb⟩
     refine ⟨_, rfl, ?_⟩
     have n0_ := Aside0.mk (Kd.V_elder' (Kd.V_go HO0_1.out) (Kd.R_base ho0) hb)
     have n1_ := Aside0.mk (Kd.V_elder' (Kd.V_go HO1_1.out) (Kd.R_base ho0) hb)
     have n2_ := Aside0.mk (Kd.N_elder' (Kd.N_go HO702.out) (Kd.R_base ho0) hb)
     have n3_ := Aside0.mk (Kd.R_elder' (Kd.R_go HO706.out) (Kd.R_base ho0) hb)
     have n4_ := Aside0.mk (Kd.R_elder' (Kd.R_go HO710.out) (Kd.R_base ho0) hb)
     have n5_ := Aside0.mk (Kd.R_elder' (Kd.R_go HO714.out) (Kd.R_base ho0) hb)
     have n6_ := Aside0.mk (Kd.R_lower (Kd.R_new' (Kd.R_new' (Kd.R_new' (Kd.R_newM (M := fun k_ => (w.heap.size ≤ k_)) ho0 (below_size (below_go HB.out)) (fun k_ h_ => h_)) (Kd.R_lt (Kd.R_go HO706.out))) (Kd.R_lt (Kd.R_go HO710.out))) (Kd.R_lt (Kd.R_go HO714.out))) (below_size (below_go HB.out)))
     have n7_ := Aside0.mk (blk_below (blk_go BK697.out) hb)
     have n8_ := Aside0.mk (blk_below (blk_go BK698.out) hb)
     have n9_ := Aside0.mk (blk_below (blk_go BK715.out) hb)
     have n10_ := Aside0.mk (blk_below (blk_go BK716.out) hb)
     have n11_ := Aside0.mk (below_step (below_go HB.out) hb)
     clear HO0_1
     clear HO1_1
     clear HO702
     clear HO706
     clear HO710
     clear HO714
     clear BK697
     clear BK698
     clear BK715
     clear BK716
     clear HB
     have HO0_1 := n0_
     have HO1_1 := n1_
     have HO702 := n2_
     have HO706 := n3_
     have HO710 := n4_
     have HO714 := n5_
     have HO720 := n6_
     have BK697 := n7_
     have BK698 := n8_
     have BK715 := n9_
     have BK716 := n10_
     have HB := n11_
     clear n0_ n1_ n2_ n3_ n4_ n5_ n6_ n7_ n8_ n9_ n10_ n11_
     (try clear hb)
     (try clear hb2)
     (try clear hk)
     (try clear hi)
     (try clear ho0)
     refine hK.out _ _ ⟨(blk_cell BK715.out 0).trans rfl, (blk_cell BK715.out 1).trans rfl, (blk_cell BK697.out 0).trans rfl, (blk_cell BK697.out 1).trans rfl, (blk_cell BK698.out 0).trans rfl, (blk_cell BK698.out 1).trans rfl, (blk_cell BK716.out 0).trans rfl, (blk_cell BK716.out 1).trans rfl⟩ (fun hHeld => ?_)
     clear hK K
     refine norm_ (a' := ?_) ?_ ?_
     rotate_left
     ·
      show Act.put _ (some 18) _ = _
      simp only [Act.put, List.setIfInBounds_toArray, List.set_cons_zero, List.set_cons_succ, i64_w, i32_w]
      rfl
     refine one_ (i := 4) (N := some 20) #[true, true, true, true, true, false, false, false, false, false, false, false, false, false, false, false, false, false, false, false, false, false, false, false, false] rfl rfl (one_of HT_.out (by kernel_rfl)) (by decide) (fun K hK => ?_)
     refine goes_ Try.func38 (by kernel_rfl) rfl #[.agg #[.string a1_0, .slice A1_1 l1_1.length c1_1]] (by rfl) rfl rfl (by (try simp only [List.map_toArray, List.map_cons, List.map_nil]); first | done | rfl | (simp only [List.length_drop, List.length_take]; rfl)) ?_
     with_reducible refine (percent_Encode.calls k a1_0 _ _ l1_1 t721 t722 _ ?side1 ?side2 A9.out).mono ?_
     (case side1 => repeat (first | exact (Kd.V_reads' HO1_1.out).2.2 | (with_reducible refine Kd.C_alloc ?_ _) | (with_reducible refine Kd.C_drewN ?_ _) | (with_reducible refine Kd.C_drew ?_)))
     (case side2 => exact (Kd.V_reads' HO1_1.out).2.1)
     rintro e w39 ⟨v723, rfl, ho0, hb⟩
     refine ⟨_, rfl, ?_⟩
     have n0_ := Aside0.mk (Kd.V_elder' (Kd.V_go HO0_1.out) (Kd.R_base ho0) hb)
     have n1_ := Aside0.mk (Kd.V_elder' (Kd.V_go HO1_1.out) (Kd.R_base ho0) hb)
     have n2_ := Aside0.mk (Kd.N_elder' (Kd.N_go HO702.out) (Kd.R_base ho0) hb)
     have n3_ := Aside0.mk (Kd.R_elder' (Kd.R_go HO706.out) (Kd.R_base ho0) hb)
     have n4_ := Aside0.mk (Kd.R_elder' (Kd.R_go HO710.out) (Kd.R_base ho0) hb)
     have n5_ := Aside0.mk (Kd.R_elder' (Kd.R_go HO714.out) (Kd.R_base ho0) hb)
     have n6_ := Aside0.mk (Kd.R_elder' (Kd.R_go HO720.out) (Kd.R_base ho0) hb)
     have n7_ := Aside0.mk (Kd.R_lower (Kd.R_new' (Kd.R_new' (Kd.R_new' (Kd.R_new' (Kd.R_newM (M := fun k_ => (w.heap.size ≤ k_)) ho0 (below_size (below_go HB.out)) (fun k_ h_ => h_)) (Kd.R_lt (Kd.R_go HO706.out))) (Kd.R_lt (Kd.R_go HO710.out))) (Kd.R_lt (Kd.R_go HO714.out))) (Kd.R_lt (Kd.R_go HO720.out))) (below_size (below_go HB.out)))
     have n8_ := Aside0.mk (blk_below (blk_go BK697.out) hb)
     have n9_ := Aside0.mk (blk_below (blk_go BK698.out) hb)
     have n10_ := Aside0.mk (blk_below (blk_go BK715.out) hb)
     have n11_ := Aside0.mk (blk_below (blk_go BK716.out) hb)
     have n12_ := Aside0.mk (below_step (below_go HB.out) hb)
     clear HO0_1
     clear HO1_1
     clear HO702
     clear HO706
     clear HO710
     clear HO714
     clear HO720
     clear BK697
     clear BK698
     clear BK715
     clear BK716
     clear HB
     have HO0_1 := n0_
     have HO1_1 := n1_
     have HO702 := n2_
     have HO706 := n3_
     have HO710 := n4_
     have HO714 := n5_
     have HO720 := n6_
     have HO724 := n7_
     have BK697 := n8_
     have BK698 := n9_
     have BK715 := n10_
     have BK716 := n11_
     have HB := n12_
     clear n0_ n1_ n2_ n3_ n4_ n5_ n6_ n7_ n8_ n9_ n10_ n11_ n12_
     (try clear hb)
     (try clear hb2)
     (try clear hk)
     (try clear hi)
     (try clear ho0)
     obtain ⟨Ao40, co40, eo40⟩ := Kd.R_slice HO720.out
     (first | subst eo40 | (injection eo40 with f1_ f2_ f3_; have f4_ := f1_.symm; have f5_ := f3_.symm; clear f1_ f2_ f3_; subst f4_; subst f5_))
     obtain ⟨Ao41, co41, eo41⟩ := Kd.R_slice HO724.out
     (first | subst eo41 | (injection eo41 with f1_ f2_ f3_; have f4_ := f1_.symm; have f5_ := f3_.symm; clear f1_ f2_ f3_; subst f4_; subst f5_))
     refine hK.out _ _ ⟨(blk_cell BK715.out 0).trans rfl, (blk_cell BK715.out 1).trans rfl, (blk_cell BK697.out 0).trans rfl, (blk_cell BK697.out 1).trans rfl, (blk_cell BK698.out 0).trans rfl, (blk_cell BK698.out 1).trans rfl, (blk_cell BK716.out 0).trans rfl, (blk_cell BK716.out 1).trans rfl⟩ (fun hHeld => ?_)
     clear hK K
     refine norm_ (a' := ?_) ?_ ?_
     rotate_left
     ·
      show Act.put _ (some 20) _ = _
      simp only [Act.put, List.setIfInBounds_toArray, List.set_cons_zero, List.set_cons_succ, i64_w, i32_w]
      rfl
     refine one_ (i := 5) (N := some 21) #[true, true, true, true, true, true, false, false, false, false, false, false, false, false, false, false, false, false, false, false, false, false, false, false, false] rfl rfl (one_of HT_.out (by kernel_rfl)) (by decide) (fun K hK => ?_)
     refine Kd.N_lit_step k24 _ 24 ?hg (N' := 21) ?hd (xs := ([(⟨t717, t718⟩ : S24), (⟨t721, t722⟩ : S24)] : List (S24))) (inner := [.string t717, .slice Ao40 t718.length co40, .string t721, .slice Ao41 t722.length co41]) (ok := (fun k_ => ((P0_1_ k_ ∨ P1_1_ k_) ∨ w.heap.size ≤ k_) ∧ some k_ ≠ (v701 : Value).ownBlock ∧ some k_ ≠ (v705 : Value).ownBlock ∧ some k_ ≠ (.slice Ao31 t708.length co31 : Value).ownBlock ∧ some k_ ≠ (.slice Ao34 t712.length co34 : Value).ownBlock ∧ k_ ≠ gb697 ∧ k_ ≠ gb698 ∧ k_ ≠ gb715 ∧ k_ ≠ gb716)) (okp := (fun k_ => ((P0_1_ k_ ∨ P1_1_ k_) ∨ w.heap.size ≤ k_) ∧ some k_ ≠ (v701 : Value).ownBlock ∧ some k_ ≠ (v705 : Value).ownBlock ∧ some k_ ≠ (.slice Ao31 t708.length co31 : Value).ownBlock ∧ some k_ ≠ (.slice Ao34 t712.length co34 : Value).ownBlock ∧ k_ ≠ gb697 ∧ k_ ≠ gb698 ∧ k_ ≠ gb715 ∧ k_ ≠ gb716)) ?hr ?hp (fun _ hk => hk) ((show ∀ k_, w39.heap.size ≤ k_ → (fun k_ => ((P0_1_ k_ ∨ P1_1_ k_) ∨ w.heap.size ≤ k_) ∧ some k_ ≠ (v701 : Value).ownBlock ∧ some k_ ≠ (v705 : Value).ownBlock ∧ some k_ ≠ (.slice Ao31 t708.length co31 : Value).ownBlock ∧ some k_ ≠ (.slice Ao34 t712.length co34 : Value).ownBlock ∧ k_ ≠ gb697 ∧ k_ ≠ gb698 ∧ k_ ≠ gb715 ∧ k_ ≠ gb716) k_ from fun k_ hk => ⟨(.inr (Nat.le_trans (below_size (below_go HB.out)) hk)), Kd.fresh' (Kd.N_lt (Kd.N_go HO702.out)) k_ hk, Kd.fresh' (Kd.R_lt (Kd.R_go HO706.out)) k_ hk, Kd.fresh' (Kd.R_lt (Kd.R_go HO710.out)) k_ hk, Kd.fresh' (Kd.R_lt (Kd.R_go HO714.out)) k_ hk, Kd.freshB (g := gb697) (o := .cells #[.string a0_0, .slice A0_1 l0_1.length c0_1] 24 (0, 0)) (blk_go BK697.out) k_ hk, Kd.freshB (g := gb698) (o := .cells #[.string a1_0, .slice A1_1 l1_1.length c1_1] 24 (0, 0)) (blk_go BK698.out) k_ hk, Kd.freshB (g := gb715) (o := .cells #[.string t707, .slice Ao31 t708.length co31] 24 (0, 0)) (blk_go BK715.out) k_ hk, Kd.freshB (g := gb716) (o := .cells #[.string t711, .slice Ao34 t712.length co34] 24 (0, 0)) (blk_go BK716.out) k_ hk⟩) _ (Nat.le_refl _)) (Below.refl _ _) (Nat.le_refl _) (by simp) ?_; (case hd => rfl); (case hg => rfl); (case hr => first | (go_simp; done) | (go_simp; rfl)); (case hp => exact (Reps.c2 (show Kd.FK k24 _ _ (⟨t717, t718⟩ : S24) [.string t717, .slice Ao40 t718.length co40] from (k24_mkF _ _ (⟨t717, t718⟩ : S24) (Kd.R_reads' (Kd.R_mono (ok' := (fun k_ => ((P0_1_ k_ ∨ P1_1_ k_) ∨ w.heap.size ≤ k_) ∧ some k_ ≠ (v701 : Value).ownBlock ∧ some k_ ≠ (v705 : Value).ownBlock ∧ some k_ ≠ (.slice Ao31 t708.length co31 : Value).ownBlock ∧ some k_ ≠ (.slice Ao34 t712.length co34 : Value).ownBlock ∧ k_ ≠ gb697 ∧ k_ ≠ gb698 ∧ k_ ≠ gb715 ∧ k_ ≠ gb716)) (Kd.R_types (Kd.R_types (Kd.R_types (Kd.R_types (Kd.R_apart' (HO720.out) (Kd.N_typed HO702.out) (by decide)) BK697.out (by decide)) BK698.out (by decide)) BK715.out (by decide)) BK716.out (by decide)) (fun k_ hk => ⟨(.inr (hk.1.1.1.1.1.1.1.1.1.1)), ⟨hk.1.1.1.1.2, ⟨hk.1.1.1.1.1.1.1.1.2, ⟨hk.1.1.1.1.1.1.1.2, ⟨hk.1.1.1.1.1.1.2, ⟨hk.1.1.1.2, ⟨hk.1.1.2, ⟨hk.1.2, hk.2⟩⟩⟩⟩⟩⟩⟩⟩))).2.1 (Kd.R_F (Kd.R_mono (ok' := (fun k_ => ((P0_1_ k_ ∨ P1_1_ k_) ∨ w.heap.size ≤ k_) ∧ some k_ ≠ (v701 : Value).ownBlock ∧ some k_ ≠ (v705 : Value).ownBlock ∧ some k_ ≠ (.slice Ao31 t708.length co31 : Value).ownBlock ∧ some k_ ≠ (.slice Ao34 t712.length co34 : Value).ownBlock ∧ k_ ≠ gb697 ∧ k_ ≠ gb698 ∧ k_ ≠ gb715 ∧ k_ ≠ gb716)) (Kd.R_types (Kd.R_types (Kd.R_types (Kd.R_types (Kd.R_apart' (HO720.out) (Kd.N_typed HO702.out) (by decide)) BK697.out (by decide)) BK698.out (by decide)) BK715.out (by decide)) BK716.out (by decide)) (fun k_ hk => ⟨(.inr (hk.1.1.1.1.1.1.1.1.1.1)), ⟨hk.1.1.1.1.2, ⟨hk.1.1.1.1.1.1.1.1.2, ⟨hk.1.1.1.1.1.1.1.2, ⟨hk.1.1.1.1.1.1.2, ⟨hk.1.1.1.2, ⟨hk.1.1.2, ⟨hk.1.2, hk.2⟩⟩⟩⟩⟩⟩⟩⟩))))) (Reps.c2 (show Kd.FK k24 _ _ (⟨t721, t722⟩ : S24) [.string t721, .slice Ao41 t722.length co41] from (k24_mkF _ _ (⟨t721, t722⟩ : S24) (Kd.R_reads' (Kd.R_mono (ok' := (fun k_ => ((P0_1_ k_ ∨ P1_1_ k_) ∨ w.heap.size ≤ k_) ∧ some k_ ≠ (v701 : Value).ownBlock ∧ some k_ ≠ (v705 : Value).ownBlock ∧ some k_ ≠ (.slice Ao31 t708.length co31 : Value).ownBlock ∧ some k_ ≠ (.slice Ao34 t712.length co34 : Value).ownBlock ∧ k_ ≠ gb697 ∧ k_ ≠ gb698 ∧ k_ ≠ gb715 ∧ k_ ≠ gb716)) (Kd.R_types (Kd.R_types (Kd.R_types (Kd.R_types (Kd.R_apart' (HO724.out) (Kd.N_typed HO702.out) (by decide)) BK697.out (by decide)) BK698.out (by decide)) BK715.out (by decide)) BK716.out (by decide)) (fun k_ hk => ⟨(.inr (hk.1.1.1.1.1.1.1.1.1.1)), ⟨hk.1.1.1.1.2, ⟨hk.1.1.1.1.1.1.1.1.2, ⟨hk.1.1.1.1.1.1.1.2, ⟨hk.1.1.1.1.1.1.2, ⟨hk.1.1.1.2, ⟨hk.1.1.2, ⟨hk.1.2, hk.2⟩⟩⟩⟩⟩⟩⟩⟩))).2.1 (Kd.R_F (Kd.R_mono (ok' := (fun k_ => ((P0_1_ k_ ∨ P1_1_ k_) ∨ w.heap.size ≤ k_) ∧ some k_ ≠ (v701 : Value).ownBlock ∧ some k_ ≠ (v705 : Value).ownBlock ∧ some k_ ≠ (.slice Ao31 t708.length co31 : Value).ownBlock ∧ some k_ ≠ (.slice Ao34 t712.length co34 : Value).ownBlock ∧ k_ ≠ gb697 ∧ k_ ≠ gb698 ∧ k_ ≠ gb715 ∧ k_ ≠ gb716)) (Kd.R_types (Kd.R_types (Kd.R_types (Kd.R_types (Kd.R_apart' (HO724.out) (Kd.N_typed HO702.out) (by decide)) BK697.out (by decide)) BK698.out (by decide)) BK715.out (by decide)) BK716.out (by decide)) (fun k_ hk => ⟨(.inr (hk.1.1.1.1.1.1.1.1.1.1)), ⟨hk.1.1.1.1.2, ⟨hk.1.1.1.1.1.1.1.1.2, ⟨hk.1.1.1.1.1.1.1.2, ⟨hk.1.1.1.1.1.1.2, ⟨hk.1.1.1.2, ⟨hk.1.1.2, ⟨hk.1.2, hk.2⟩⟩⟩⟩⟩⟩⟩⟩))))) (Reps.none _ _))))
     intro v726 w42 ho43 hb hg_ hnew_
     clear hg_ hnew_
     (first | rw [← Ny725.out] at ho43 | (simp only [Int.reduceToNat] at ho43; rw [← Ny725.out] at ho43))
     have n0_ := Aside0.mk (Kd.V_elder' (Kd.V_go HO0_1.out) (Kd.N_base ho43) hb)
     have n1_ := Aside0.mk (Kd.V_elder' (Kd.V_go HO1_1.out) (Kd.N_base ho43) hb)
     have n2_ := Aside0.mk (Kd.N_elder' (Kd.N_go HO702.out) (Kd.N_base ho43) hb)
     have n3_ := Aside0.mk (Kd.R_below (Kd.R_go HO706.out) hb)
     have n4_ := Aside0.mk (Kd.R_below (Kd.R_go HO710.out) hb)
     have n5_ := Aside0.mk (Kd.R_below (Kd.R_go HO714.out) hb)
     have n6_ := Aside0.mk (Kd.N_lower ho43 (below_size (below_go HB.out)))
     have n7_ := Aside0.mk (blk_below (blk_go BK697.out) hb)
     have n8_ := Aside0.mk (blk_below (blk_go BK698.out) hb)
     have n9_ := Aside0.mk (blk_below (blk_go BK715.out) hb)
     have n10_ := Aside0.mk (blk_below (blk_go BK716.out) hb)
     have n11_ := Aside0.mk (below_step (below_go HB.out) hb)
     clear HO0_1
     clear HO1_1
     clear HO702
     clear HO706
     clear HO710
     clear HO714
     clear BK697
     clear BK698
     clear BK715
     clear BK716
     clear HB
     clear HO720
     clear HO724
     have HO0_1 := n0_
     have HO1_1 := n1_
     have HO702 := n2_
     have HO706 := n3_
     have HO710 := n4_
     have HO714 := n5_
     have HO727 := n6_
     have BK697 := n7_
     have BK698 := n8_
     have BK715 := n9_
     have BK716 := n10_
     have HB := n11_
     clear n0_ n1_ n2_ n3_ n4_ n5_ n6_ n7_ n8_ n9_ n10_ n11_
     clear hb ho43
     obtain ⟨Ao44, co44, eo44⟩ := Kd.N_slice HO727.out
     (first | subst eo44 | (injection eo44 with f1_ f2_ f3_; have f4_ := f1_.symm; have f5_ := f3_.symm; clear f1_ f2_ f3_; subst f4_; subst f5_))
     refine hK.out _ _ ⟨(blk_cell BK715.out 0).trans rfl, (blk_cell BK715.out 1).trans rfl, (blk_cell BK697.out 0).trans rfl, (blk_cell BK697.out 1).trans rfl, (blk_cell BK698.out 0).trans rfl, (blk_cell BK698.out 1).trans rfl, (blk_cell BK716.out 0).trans rfl, (blk_cell BK716.out 1).trans rfl⟩ (fun hHeld => ?_)
     clear hK K
     refine norm_ (a' := ?_) ?_ ?_
     rotate_left
     ·
      show Act.put _ (some 21) _ = _
      simp only [Act.put, List.setIfInBounds_toArray, List.set_cons_zero, List.set_cons_succ, i64_w, i32_w]
      rfl
     refine one_ (i := 6) (N := some 22) #[true, true, true, true, true, true, true, false, false, false, false, false, false, false, false, false, false, false, false, false, false, false, false, false, false] rfl rfl (one_of HT_.out (by kernel_rfl)) (by decide) (fun K hK => ?_)
     refine goes_ Try.func47 (by kernel_rfl) rfl #[.slice Ao44 y725.length co44] (by rfl) rfl rfl (by (try simp only [List.map_toArray, List.map_cons, List.map_nil]); first | done | rfl | (simp only [List.length_drop, List.length_take]; rfl)) ?_
     with_reducible refine (mark_Cat.calls k _ _ y725 t728 t729 _ ?side1 ?side2 A10.out).mono ?_
     (case side1 => repeat (first | exact (Kd.N_reads' HO727.out).2.2 | (with_reducible refine Kd.C_alloc ?_ _) | (with_reducible refine Kd.C_drewN ?_ _) | (with_reducible refine Kd.C_drew ?_)))
     (case side2 => exact (Kd.N_reads' HO727.out).2.1)
     rintro e w45 ⟨v730, rfl, ho0, hb⟩
     refine ⟨_, rfl, ?_⟩
     have n0_ := Aside0.mk (Kd.V_elder' (Kd.V_go HO0_1.out) (Kd.R_base ho0) hb)
     have n1_ := Aside0.mk (Kd.V_elder' (Kd.V_go HO1_1.out) (Kd.R_base ho0) hb)
     have n2_ := Aside0.mk (Kd.N_elder' (Kd.N_go HO702.out) (Kd.R_base ho0) hb)
     have n3_ := Aside0.mk (Kd.R_elder' (Kd.R_go HO706.out) (Kd.R_base ho0) hb)
     have n4_ := Aside0.mk (Kd.R_elder' (Kd.R_go HO710.out) (Kd.R_base ho0) hb)
     have n5_ := Aside0.mk (Kd.R_elder' (Kd.R_go HO714.out) (Kd.R_base ho0) hb)
     have n6_ := Aside0.mk (Kd.N_elder' (Kd.N_go HO727.out) (Kd.R_base ho0) hb)
     have n7_ := Aside0.mk (Kd.R_lower (Kd.R_new' (Kd.R_new' (Kd.R_new' (Kd.R_newM (M := fun k_ => (w.heap.size ≤ k_)) ho0 (below_size (below_go HB.out)) (fun k_ h_ => h_)) (Kd.R_lt (Kd.R_go HO706.out))) (Kd.R_lt (Kd.R_go HO710.out))) (Kd.R_lt (Kd.R_go HO714.out))) (below_size (below_go HB.out)))
     have n8_ := Aside0.mk (blk_below (blk_go BK697.out) hb)
     have n9_ := Aside0.mk (blk_below (blk_go BK698.out) hb)
     have n10_ := Aside0.mk (blk_below (blk_go BK715.out) hb)
     have n11_ := Aside0.mk (blk_below (blk_go BK716.out) hb)
     have n12_ := Aside0.mk (below_step (below_go HB.out) hb)
     clear HO0_1
     clear HO1_1
     clear HO702
     clear HO706
     clear HO710
     clear HO714
     clear HO727
     clear BK697
     clear BK698
     clear BK715
     clear BK716
     clear HB
     have HO0_1 := n0_
     have HO1_1 := n1_
     have HO702 := n2_
     have HO706 := n3_
     have HO710 := n4_
     have HO714 := n5_
     have HO727 := n6_
     have HO731 := n7_
     have BK697 := n8_
     have BK698 := n9_
     have BK715 := n10_
     have BK716 := n11_
     have HB := n12_
     clear n0_ n1_ n2_ n3_ n4_ n5_ n6_ n7_ n8_ n9_ n10_ n11_ n12_
     (try clear hb)
     (try clear hb2)
     (try clear hk)
     (try clear hi)
     (try clear ho0)
     obtain ⟨Ao46, co46, eo46⟩ := Kd.R_slice HO731.out
     (first | subst eo46 | (injection eo46 with f1_ f2_ f3_; have f4_ := f1_.symm; have f5_ := f3_.symm; clear f1_ f2_ f3_; subst f4_; subst f5_))
     refine hK.out _ _ ⟨(blk_cell BK715.out 0).trans rfl, (blk_cell BK715.out 1).trans rfl, (blk_cell BK697.out 0).trans rfl, (blk_cell BK697.out 1).trans rfl, (blk_cell BK698.out 0).trans rfl, (blk_cell BK698.out 1).trans rfl, (blk_cell BK716.out 0).trans rfl, (blk_cell BK716.out 1).trans rfl⟩ (fun hHeld => ?_)
     clear hK K
     refine norm_ (a' := ?_) ?_ ?_
     rotate_left
     ·
      show Act.put _ (some 22) _ = _
      simp only [Act.put, List.setIfInBounds_toArray, List.set_cons_zero, List.set_cons_succ, i64_w, i32_w]
      rfl
     refine one_ (i := 7) (N := some 23) #[true, true, true, true, true, true, true, true, false, false, false, false, false, false, false, false, false, false, false, false, false, false, false, false, false] rfl rfl (one_of HT_.out (by kernel_rfl)) (by decide) (fun K hK => ?_)
     refine goes_ Try.func42 (by kernel_rfl) rfl #[.agg #[.string t707, .slice Ao31 t708.length co31], .agg #[.string t728, .slice Ao46 t729.length co46]] (by rfl) rfl rfl (by (try simp only [List.map_toArray, List.map_cons, List.map_nil]); first | done | rfl | (simp only [List.length_drop, List.length_take]; rfl)) ?_
     with_reducible refine (mark_Same.calls k t707 _ _ t708 t728 _ _ t729 true _ ?side1 ?side2 ?side3 ?side4 A11.out).mono ?_
     (case side1 => repeat (first | exact (Kd.R_reads' HO710.out).2.2 | (with_reducible refine Kd.C_alloc ?_ _) | (with_reducible refine Kd.C_drewN ?_ _) | (with_reducible refine Kd.C_drew ?_)))
     (case side2 => exact (Kd.R_reads' HO710.out).2.1)
     (case side3 => repeat (first | exact (Kd.R_reads' HO731.out).2.2 | (with_reducible refine Kd.C_alloc ?_ _) | (with_reducible refine Kd.C_drewN ?_ _) | (with_reducible refine Kd.C_drew ?_)))
     (case side4 => exact (Kd.R_reads' HO731.out).2.1)
     rintro e w47 ⟨rfl, hb⟩
     refine ⟨_, rfl, ?_⟩
     have n0_ := Aside0.mk (Kd.V_below (Kd.V_go HO0_1.out) hb)
     have n1_ := Aside0.mk (Kd.V_below (Kd.V_go HO1_1.out) hb)
     have n2_ := Aside0.mk (Kd.N_below (Kd.N_go HO702.out) hb)
     have n3_ := Aside0.mk (Kd.R_below (Kd.R_go HO706.out) hb)
     have n4_ := Aside0.mk (Kd.R_below (Kd.R_go HO710.out) hb)
     have n5_ := Aside0.mk (Kd.R_below (Kd.R_go HO714.out) hb)
     have n6_ := Aside0.mk (Kd.N_below (Kd.N_go HO727.out) hb)
     have n7_ := Aside0.mk (Kd.R_below (Kd.R_go HO731.out) hb)
     have n8_ := Aside0.mk (blk_below (blk_go BK697.out) hb)
     have n9_ := Aside0.mk (blk_below (blk_go BK698.out) hb)
     have n10_ := Aside0.mk (blk_below (blk_go BK715.out) hb)
     have n11_ := Aside0.mk (blk_below (blk_go BK716.out) hb)
     have n12_ := Aside0.mk (below_step (below_go HB.out) hb)
     clear HO0_1
     clear HO1_1
     clear HO702
     clear HO706
     clear HO710
     clear HO714
     clear HO727
     clear HO731
     clear BK697
     clear BK698
     clear BK715
     clear BK716
     clear HB
     have HO0_1 := n0_
     have HO1_1 := n1_
     have HO702 := n2_
     have HO706 := n3_
     have HO710 := n4_
     have HO714 := n5_
     have HO727 := n6_
     have HO731 := n7_
     have BK697 := n8_
     have BK698 := n9_
     have BK715 := n10_
     have BK716 := n11_
     have HB := n12_
     clear n0_ n1_ n2_ n3_ n4_ n5_ n6_ n7_ n8_ n9_ n10_ n11_ n12_
     (try clear hb)
     (try clear hb2)
     (try clear hk)
     (try clear hi)
     refine hK.out _ _ ⟨(blk_cell BK715.out 0).trans rfl, (blk_cell BK715.out 1).trans rfl, (blk_cell BK697.out 0).trans rfl, (blk_cell BK697.out 1).trans rfl, (blk_cell BK698.out 0).trans rfl, (blk_cell BK698.out 1).trans rfl, (blk_cell BK716.out 0).trans rfl, (blk_cell BK716.out 1).trans rfl⟩ (fun hHeld => ?_)
     clear hK K
     refine norm_ (a' := ?_) ?_ ?_
     rotate_left
     ·
      show Act.put _ (some 23) _ = _
      simp only [Act.put, List.setIfInBounds_toArray, List.set_cons_zero, List.set_cons_succ, i64_w, i32_w]
      rfl
     refine pure_ (i := 8) (N := some 24) (v := ?_) (a' := ?_) #[true, true, true, true, true, true, true, true, true, false, false, false, false, false, false, false, false, false, false, false, false, false, false, false, false] rfl rfl (any_of HT_.out (by kernel_rfl)) (fun _ _ _ h => h) (Or.inl ⟨by rfl, ?_⟩) ?_ ?_
     rotate_left
     ·
      intro w'
      go_simp
      with_reducible rfl
     rotate_left
     ·
      simp only [Act.put, List.setIfInBounds_toArray, List.set_cons_zero, List.set_cons_succ, i64_w, i32_w]
      rfl
     refine take_ (i := 9) (N := some 25) (v := ?_) (a' := ?_) #[true, true, true, true, true, true, true, true, true, true, false, false, false, false, false, false, false, false, false, false, false, false, false, false, false] rfl rfl (take_ofW HT_.out HW_.out (by kernel_rfl)) (fun _ _ _ h => h) (Or.inl ⟨by rfl, ?_⟩) hHeld ?_ ?_
     rotate_left
     ·
      rintro w' ⟨s0, s1, s2, s3, s4, s5, s6, s7⟩
      go_simp
      with_reducible rfl
     rotate_left
     ·
      simp only [Act.put, List.setIfInBounds_toArray, List.set_cons_zero, List.set_cons_succ, i64_w, i32_w]
      rfl
     refine take_ (i := 11) (N := some 27) (v := ?_) (a' := ?_) #[true, true, true, true, true, true, true, true, true, true, false, true, false, false, false, false, false, false, false, false, false, false, false, false, false] rfl rfl (take_ofW HT_.out HW_.out (by kernel_rfl)) (fun _ _ _ h => h) (Or.inl ⟨by rfl, ?_⟩) hHeld ?_ ?_
     rotate_left
     ·
      rintro w' ⟨s0, s1, s2, s3, s4, s5, s6, s7⟩
      go_simp
      with_reducible rfl
     rotate_left
     ·
      simp only [Act.put, List.setIfInBounds_toArray, List.set_cons_zero, List.set_cons_succ, i64_w, i32_w]
      rfl
     refine one_ (i := 10) (N := some 26) #[true, true, true, true, true, true, true, true, true, true, true, true, false, false, false, false, false, false, false, false, false, false, false, false, false] rfl rfl (one_of HT_.out (by kernel_rfl)) (by decide) (fun K hK => ?_)
     refine goes_ Try.func44 (by kernel_rfl) rfl #[.agg #[.string t711, .slice Ao34 t712.length co34]] (by rfl) rfl rfl (by (try simp only [List.map_toArray, List.map_cons, List.map_nil]); first | done | rfl | (simp only [List.length_drop, List.length_take]; rfl)) ?_
     with_reducible refine (mark_Worst.calls k t711 _ _ t712 t733 _ ?side1 ?side2 A13.out).mono ?_
     (case side1 => repeat (first | exact (Kd.R_reads' HO714.out).2.2 | (with_reducible refine Kd.C_alloc ?_ _) | (with_reducible refine Kd.C_drewN ?_ _) | (with_reducible refine Kd.C_drew ?_)))
     (case side2 => exact (Kd.R_reads' HO714.out).2.1)
     rintro e w48 ⟨rfl, hb⟩
     refine ⟨_, rfl, ?_⟩
     have n0_ := Aside0.mk (Kd.V_below (Kd.V_go HO0_1.out) hb)
     have n1_ := Aside0.mk (Kd.V_below (Kd.V_go HO1_1.out) hb)
     have n2_ := Aside0.mk (Kd.N_below (Kd.N_go HO702.out) hb)
     have n3_ := Aside0.mk (Kd.R_below (Kd.R_go HO706.out) hb)
     have n4_ := Aside0.mk (Kd.R_below (Kd.R_go HO710.out) hb)
     have n5_ := Aside0.mk (Kd.R_below (Kd.R_go HO714.out) hb)
     have n6_ := Aside0.mk (Kd.N_below (Kd.N_go HO727.out) hb)
     have n7_ := Aside0.mk (Kd.R_below (Kd.R_go HO731.out) hb)
     have n8_ := Aside0.mk (blk_below (blk_go BK697.out) hb)
     have n9_ := Aside0.mk (blk_below (blk_go BK698.out) hb)
     have n10_ := Aside0.mk (blk_below (blk_go BK715.out) hb)
     have n11_ := Aside0.mk (blk_below (blk_go BK716.out) hb)
     have n12_ := Aside0.mk (below_step (below_go HB.out) hb)
     clear HO0_1
     clear HO1_1
     clear HO702
     clear HO706
     clear HO710
     clear HO714
     clear HO727
     clear HO731
     clear BK697
     clear BK698
     clear BK715
     clear BK716
     clear HB
     have HO0_1 := n0_
     have HO1_1 := n1_
     have HO702 := n2_
     have HO706 := n3_
     have HO710 := n4_
     have HO714 := n5_
     have HO727 := n6_
     have HO731 := n7_
     have BK697 := n8_
     have BK698 := n9_
     have BK715 := n10_
     have BK716 := n11_
     have HB := n12_
     clear n0_ n1_ n2_ n3_ n4_ n5_ n6_ n7_ n8_ n9_ n10_ n11_ n12_
     (try clear hb)
     (try clear hb2)
     (try clear hk)
     (try clear hi)
     refine hK.out _ _ ⟨(blk_cell BK715.out 0).trans rfl, (blk_cell BK715.out 1).trans rfl, (blk_cell BK697.out 0).trans rfl, (blk_cell BK697.out 1).trans rfl, (blk_cell BK698.out 0).trans rfl, (blk_cell BK698.out 1).trans rfl, (blk_cell BK716.out 0).trans rfl, (blk_cell BK716.out 1).trans rfl⟩ (fun hHeld => ?_)
     clear hK K
     refine norm_ (a' := ?_) ?_ ?_
     rotate_left
     ·
      show Act.put _ (some 26) _ = _
      simp only [Act.put, List.setIfInBounds_toArray, List.set_cons_zero, List.set_cons_succ, i64_w, i32_w]
      rfl
     refine one_ (i := 12) (N := some 28) #[true, true, true, true, true, true, true, true, true, true, true, true, true, false, false, false, false, false, false, false, false, false, false, false, false] rfl rfl (one_of HT_.out (by kernel_rfl)) (by decide) (fun K hK => ?_)
     refine goes_ Try.func44 (by kernel_rfl) rfl #[.agg #[.string a0_0, .slice A0_1 l0_1.length c0_1]] (by rfl) rfl rfl (by (try simp only [List.map_toArray, List.map_cons, List.map_nil]); first | done | rfl | (simp only [List.length_drop, List.length_take]; rfl)) ?_
     with_reducible refine (mark_Worst.calls k a0_0 _ _ l0_1 t734 _ ?side1 ?side2 A14.out).mono ?_
     (case side1 => repeat (first | exact (Kd.V_reads' HO0_1.out).2.2 | (with_reducible refine Kd.C_alloc ?_ _) | (with_reducible refine Kd.C_drewN ?_ _) | (with_reducible refine Kd.C_drew ?_)))
     (case side2 => exact (Kd.V_reads' HO0_1.out).2.1)
     rintro e w49 ⟨rfl, hb⟩
     refine ⟨_, rfl, ?_⟩
     have n0_ := Aside0.mk (Kd.V_below (Kd.V_go HO0_1.out) hb)
     have n1_ := Aside0.mk (Kd.V_below (Kd.V_go HO1_1.out) hb)
     have n2_ := Aside0.mk (Kd.N_below (Kd.N_go HO702.out) hb)
     have n3_ := Aside0.mk (Kd.R_below (Kd.R_go HO706.out) hb)
     have n4_ := Aside0.mk (Kd.R_below (Kd.R_go HO710.out) hb)
     have n5_ := Aside0.mk (Kd.R_below (Kd.R_go HO714.out) hb)
     have n6_ := Aside0.mk (Kd.N_below (Kd.N_go HO727.out) hb)
     have n7_ := Aside0.mk (Kd.R_below (Kd.R_go HO731.out) hb)
     have n8_ := Aside0.mk (blk_below (blk_go BK697.out) hb)
     have n9_ := Aside0.mk (blk_below (blk_go BK698.out) hb)
     have n10_ := Aside0.mk (blk_below (blk_go BK715.out) hb)
     have n11_ := Aside0.mk (blk_below (blk_go BK716.out) hb)
     have n12_ := Aside0.mk (below_step (below_go HB.out) hb)
     clear HO0_1
     clear HO1_1
     clear HO702
     clear HO706
     clear HO710
     clear HO714
     clear HO727
     clear HO731
     clear BK697
     clear BK698
     clear BK715
     clear BK716
     clear HB
     have HO0_1 := n0_
     have HO1_1 := n1_
     have HO702 := n2_
     have HO706 := n3_
     have HO710 := n4_
     have HO714 := n5_
     have HO727 := n6_
     have HO731 := n7_
     have BK697 := n8_
     have BK698 := n9_
     have BK715 := n10_
     have BK716 := n11_
     have HB := n12_
     clear n0_ n1_ n2_ n3_ n4_ n5_ n6_ n7_ n8_ n9_ n10_ n11_ n12_
     (try clear hb)
     (try clear hb2)
     (try clear hk)
     (try clear hi)
     refine hK.out _ _ ⟨(blk_cell BK715.out 0).trans rfl, (blk_cell BK715.out 1).trans rfl, (blk_cell BK697.out 0).trans rfl, (blk_cell BK697.out 1).trans rfl, (blk_cell BK698.out 0).trans rfl, (blk_cell BK698.out 1).trans rfl, (blk_cell BK716.out 0).trans rfl, (blk_cell BK716.out 1).trans rfl⟩ (fun hHeld => ?_)
     clear hK K
     refine norm_ (a' := ?_) ?_ ?_
     rotate_left
     ·
      show Act.put _ (some 28) _ = _
      simp only [Act.put, List.setIfInBounds_toArray, List.set_cons_zero, List.set_cons_succ, i64_w, i32_w]
      rfl
     refine pure_ (i := 13) (N := some 29) (v := ?_) (a' := ?_) #[true, true, true, true, true, true, true, true, true, true, true, true, true, true, false, false, false, false, false, false, false, false, false, false, false] rfl rfl (any_of HT_.out (by kernel_rfl)) (fun _ _ _ h => h) (Or.inl ⟨by rfl, ?_⟩) ?_ ?_
     rotate_left
     ·
      intro w'
      go_simp
      with_reducible rfl
     rotate_left
     ·
      simp only [Act.put, List.setIfInBounds_toArray, List.set_cons_zero, List.set_cons_succ, i64_w, i32_w]
      rfl
     refine pure_ (i := 14) (N := some 30) (v := ?_) (a' := ?_) #[true, true, true, true, true, true, true, true, true, true, true, true, true, true, true, false, false, false, false, false, false, false, false, false, false] rfl rfl (any_of HT_.out (by kernel_rfl)) (fun _ _ _ h => h) (Or.inl ⟨by rfl, ?_⟩) ?_ ?_
     rotate_left
     ·
      intro w'
      go_simp
      with_reducible rfl
     rotate_left
     ·
      simp only [Act.put, List.setIfInBounds_toArray, List.set_cons_zero, List.set_cons_succ, i64_w, i32_w]
      rfl
     refine pure_ (i := 15) (N := some 31) (v := ?_) (a' := ?_) #[true, true, true, true, true, true, true, true, true, true, true, true, true, true, true, true, false, false, false, false, false, false, false, false, false] rfl rfl (any_of HT_.out (by kernel_rfl)) (fun _ _ _ h => h) (Or.inl ⟨by rfl, ?_⟩) ?_ ?_
     rotate_left
     ·
      intro w'
      go_simp
      with_reducible rfl
     rotate_left
     ·
      simp only [Act.put, List.setIfInBounds_toArray, List.set_cons_zero, List.set_cons_succ, i64_w, i32_w]
      rfl
     refine pure_ (i := 16) (N := some 32) (v := ?_) (a' := ?_) #[true, true, true, true, true, true, true, true, true, true, true, true, true, true, true, true, true, false, false, false, false, false, false, false, false] rfl rfl (any_of HT_.out (by kernel_rfl)) (fun _ _ _ h => h) (Or.inl ⟨by rfl, ?_⟩) ?_ ?_
     rotate_left
     ·
      intro w'
      go_simp
      with_reducible rfl
     rotate_left
     ·
      simp only [Act.put, List.setIfInBounds_toArray, List.set_cons_zero, List.set_cons_succ, i64_w, i32_w]
      rfl
     refine pure_ (i := 19) (N := some 35) (v := ?_) (a' := ?_) #[true, true, true, true, true, true, true, true, true, true, true, true, true, true, true, true, true, false, false, true, false, false, false, false, false] rfl rfl (any_of HT_.out (by kernel_rfl)) (fun _ _ _ h => h) (Or.inl ⟨by rfl, ?_⟩) ?_ ?_
     rotate_left
     ·
      intro w'
      go_simp
      with_reducible rfl
     rotate_left
     ·
      simp only [Act.put, List.setIfInBounds_toArray, List.set_cons_zero, List.set_cons_succ, i64_w, i32_w]
      rfl
     refine take_ (i := 17) (N := some 33) (v := ?_) (a' := ?_) #[true, true, true, true, true, true, true, true, true, true, true, true, true, true, true, true, true, true, false, true, false, false, false, false, false] rfl rfl (take_ofW HT_.out HW_.out (by kernel_rfl)) (fun _ _ _ h => h) (Or.inl ⟨by rfl, ?_⟩) hHeld ?_ ?_
     rotate_left
     ·
      rintro w' ⟨s0, s1, s2, s3, s4, s5, s6, s7⟩
      go_simp
      with_reducible rfl
     rotate_left
     ·
      simp only [Act.put, List.setIfInBounds_toArray, List.set_cons_zero, List.set_cons_succ, i64_w, i32_w]
      rfl
     refine pure_ (i := 18) (N := some 34) (v := ?_) (a' := ?_) #[true, true, true, true, true, true, true, true, true, true, true, true, true, true, true, true, true, true, true, true, false, false, false, false, false] rfl rfl (any_of HT_.out (by kernel_rfl)) (fun _ _ _ h => h) (Or.inl ⟨by rfl, ?_⟩) ?_ ?_
     rotate_left
     ·
      intro w'
      go_simp
      with_reducible rfl
     rotate_left
     ·
      simp only [Act.put, List.setIfInBounds_toArray, List.set_cons_zero, List.set_cons_succ, i64_w, i32_w]
      rfl
     refine take_ (i := 20) (N := some 36) (v := ?_) (a' := ?_) #[true, true, true, true, true, true, true, true, true, true, true, true, true, true, true, true, true, true, true, true, true, false, false, false, false] rfl rfl (take_ofW HT_.out HW_.out (by kernel_rfl)) (fun _ _ _ h => h) (Or.inl ⟨by rfl, ?_⟩) hHeld ?_ ?_
     rotate_left
     ·
      rintro w' ⟨s0, s1, s2, s3, s4, s5, s6, s7⟩
      go_simp
      with_reducible rfl
     rotate_left
     ·
      simp only [Act.put, List.setIfInBounds_toArray, List.set_cons_zero, List.set_cons_succ, i64_w, i32_w]
      rfl
     refine pure_ (i := 21) (N := some 37) (v := ?_) (a' := ?_) #[true, true, true, true, true, true, true, true, true, true, true, true, true, true, true, true, true, true, true, true, true, true, false, false, false] rfl rfl (any_of HT_.out (by kernel_rfl)) (fun _ _ _ h => h) (Or.inl ⟨by rfl, ?_⟩) ?_ ?_
     rotate_left
     ·
      intro w'
      go_simp
      with_reducible rfl
     rotate_left
     ·
      simp only [Act.put, List.setIfInBounds_toArray, List.set_cons_zero, List.set_cons_succ, i64_w, i32_w]
      rfl
     refine pure_ (i := 22) (N := some 38) (v := ?_) (a' := ?_) #[true, true, true, true, true, true, true, true, true, true, true, true, true, true, true, true, true, true, true, true, true, true, true, false, false] rfl rfl (any_of HT_.out (by kernel_rfl)) (fun _ _ _ h => h) (Or.inl ⟨by rfl, ?_⟩) ?_ ?_
     rotate_left
     ·
      intro w'
      go_simp
      with_reducible rfl
     rotate_left
     ·
      simp only [Act.put, List.setIfInBounds_toArray, List.set_cons_zero, List.set_cons_succ, i64_w, i32_w]
      rfl
     refine pure_ (i := 23) (N := some 39) (v := ?_) (a' := ?_) #[true, true, true, true, true, true, true, true, true, true, true, true, true, true, true, true, true, true, true, true, true, true, true, true, false] rfl rfl (any_of HT_.out (by kernel_rfl)) (fun _ _ _ h => h) (Or.inl ⟨by rfl, ?_⟩) ?_ ?_
     rotate_left
     ·
      intro w'
      go_simp
      with_reducible rfl
     rotate_left
     ·
      simp only [Act.put, List.setIfInBounds_toArray, List.set_cons_zero, List.set_cons_succ, i64_w, i32_w]
      rfl
     refine pure_ (i := 24) (N := some 4) (v := ?_) (a' := ?_) #[true, true, true, true, true, true, true, true, true, true, true, true, true, true, true, true, true, true, true, true, true, true, true, true, true] rfl rfl (any_of HT_.out (by kernel_rfl)) (fun _ _ _ h => h) (Or.inl ⟨by rfl, ?_⟩) ?_ ?_
     rotate_left
     ·
      intro w'
      go_simp
      with_reducible rfl
     rotate_left
     ·
      simp only [Act.put, List.setIfInBounds_toArray, List.set_cons_zero, List.set_cons_succ, i64_w, i32_w]
      rfl
     refine done_ (done_of HT_.out (by kernel_rfl)) ?_
     try go_wp2
     go_ret
     exact ⟨by first | rfl | (simp [errW_none, errW_some] <;> rfl) | (simp [*, errW_none, errW_some] <;> rfl), by repeat (first | (with_reducible first | exact HB.out | apply below_alloc | apply pw_below_drewN | apply below_drew1 | refine below_set ?_ GE697.out | refine below_set ?_ GE698.out | refine below_set ?_ GE715.out | refine below_set ?_ GE716.out) | exact HB.out)⟩
    intro hJ2_3_4_6_7_8
    refine join_ (σ := Value × Value × Value × Value × Nat) 3 #[true, true, true, true, true, true, true, true, false, false, false] (fun s_ => [(11, s_.1), (12, .agg #[.string t703, s_.2.1]), (13, .agg #[.string t707, s_.2.2.1]), (15, .agg #[.string t711, s_.2.2.2.1]), (5, .pointer (some ⟨s_.2.2.2.2, 0, none⟩))]) (fun s_ w' => (w'.cell? ⟨gb697, 0, none⟩ = some (.string a0_0) ∧ w'.cell? ⟨gb697, 1, none⟩ = some (.slice A0_1 l0_1.length c0_1) ∧ w'.cell? ⟨gb698, 0, none⟩ = some (.string a1_0) ∧ w'.cell? ⟨gb698, 1, none⟩ = some (.slice A1_1 l1_1.length c1_1)) ∧ (Kd.V k85 85 w' w.heap.size (fun k_ => ((P0_1_ k_ ∨ P1_1_ k_) ∨ w.heap.size ≤ k_) ∧ some k_ ≠ (s_.1 : Value).ownBlock ∧ some k_ ≠ (s_.2.1 : Value).ownBlock ∧ some k_ ≠ (s_.2.2.1 : Value).ownBlock ∧ some k_ ≠ (s_.2.2.2.1 : Value).ownBlock ∧ k_ ≠ gb697 ∧ k_ ≠ gb698 ∧ k_ ≠ s_.2.2.2.2) (.slice A0_1 l0_1.length c0_1) l0_1) ∧ (Kd.V k85 85 w' w.heap.size (fun k_ => ((P0_1_ k_ ∨ P1_1_ k_) ∨ w.heap.size ≤ k_) ∧ some k_ ≠ (s_.1 : Value).ownBlock ∧ some k_ ≠ (s_.2.1 : Value).ownBlock ∧ some k_ ≠ (s_.2.2.1 : Value).ownBlock ∧ some k_ ≠ (s_.2.2.2.1 : Value).ownBlock ∧ k_ ≠ gb697 ∧ k_ ≠ gb698 ∧ k_ ≠ s_.2.2.2.2) (.slice A1_1 l1_1.length c1_1) l1_1) ∧ (Kd.N k24 24 w' w.heap.size (fun k_ => ((P0_1_ k_ ∨ P1_1_ k_) ∨ w.heap.size ≤ k_) ∧ some k_ ≠ (s_.2.1 : Value).ownBlock ∧ some k_ ≠ (s_.2.2.1 : Value).ownBlock ∧ some k_ ≠ (s_.2.2.2.1 : Value).ownBlock ∧ k_ ≠ gb697 ∧ k_ ≠ gb698 ∧ k_ ≠ s_.2.2.2.2) s_.1 y700) ∧ (Kd.R k85 85 w' w.heap.size (fun k_ => (w.heap.size ≤ k_) ∧ some k_ ≠ (s_.2.2.1 : Value).ownBlock ∧ some k_ ≠ (s_.2.2.2.1 : Value).ownBlock) s_.2.1 t704) ∧ (Kd.R k85 85 w' w.heap.size (fun k_ => (w.heap.size ≤ k_) ∧ some k_ ≠ (s_.2.1 : Value).ownBlock ∧ some k_ ≠ (s_.2.2.2.1 : Value).ownBlock) s_.2.2.1 t708) ∧ (Kd.R k85 85 w' w.heap.size (fun k_ => (w.heap.size ≤ k_) ∧ some k_ ≠ (s_.2.1 : Value).ownBlock ∧ some k_ ≠ (s_.2.2.1 : Value).ownBlock) s_.2.2.2.1 t712) ∧ (w'.heap[gb697]? = some (.cells #[.string a0_0, .slice A0_1 l0_1.length c0_1] 24 (0, 0))) ∧ (w'.heap[gb698]? = some (.cells #[.string a1_0, .slice A1_1 l1_1.length c1_1] 24 (0, 0))) ∧ (w'.heap[s_.2.2.2.2]? = some (.cells #[.string (⟨#[]⟩ : ByteArray), .slice none 0 0] 24 (0, 0))) ∧ (w.heap.size ≤ s_.2.2.2.2) ∧ (w.heap.size ≤ s_.2.2.2.2) ∧ (gb697 ≠ s_.2.2.2.2) ∧ (s_.2.2.2.2 ≠ gb697) ∧ (gb698 ≠ s_.2.2.2.2) ∧ (s_.2.2.2.2 ≠ gb698) ∧ (Below w.heap.size w w')) ?_ ?_
    ·
     ·
      skip
      rintro ⟨v701, v705, v709, v713, gb715⟩ w28 ⟨hS_, h0_, h1_, h2_, h3_, h4_, h5_, h6_, h7_, h8_, h9_, h10_, h11_, h12_, h13_, h14_, h15_⟩
      dsimp only at hS_ h0_ h1_ h2_ h3_ h4_ h5_ h6_ h7_ h8_ h9_ h10_ h11_ h12_ h13_ h14_ h15_
      have n0_ := Aside0.mk h0_
      have n1_ := Aside0.mk h1_
      have n2_ := Aside0.mk h2_
      have n3_ := Aside0.mk h3_
      have n4_ := Aside0.mk h4_
      have n5_ := Aside0.mk h5_
      have n6_ := Aside0.mk h6_
      have n7_ := Aside0.mk h7_
      have n8_ := Aside0.mk h8_
      have n9_ := Aside0.mk h9_
      have n10_ := Aside0.mk h10_
      have n11_ := Aside0.mk h11_
      have n12_ := Aside0.mk h12_
      have n13_ := Aside0.mk h13_
      have n14_ := Aside0.mk h14_
      have n15_ := Aside0.mk h15_
      clear HO0_1
      clear HO1_1
      clear BK697
      clear BK698
      clear HB
      clear h0_ h1_ h2_ h3_ h4_ h5_ h6_ h7_ h8_ h9_ h10_ h11_ h12_ h13_ h14_ h15_
      have HO0_1 := n0_
      have HO1_1 := n1_
      have HO702 := n2_
      have HO706 := n3_
      have HO710 := n4_
      have HO714 := n5_
      have BK697 := n6_
      have BK698 := n7_
      have BK715 := n8_
      have GW715 := n9_
      have GE715 := n10_
      have NB697_715 := n11_
      have NB715_697 := n12_
      have NB698_715 := n13_
      have NB715_698 := n14_
      have HB := n15_
      clear n0_ n1_ n2_ n3_ n4_ n5_ n6_ n7_ n8_ n9_ n10_ n11_ n12_ n13_ n14_ n15_
      have hHeld := hS_
      refine norm_ (a' := ?_) ?_ ?_
      rotate_left
      ·
       simp only [putAll, Act.put, List.setIfInBounds_toArray, List.set_cons_zero, List.set_cons_succ]
       rfl
      refine one_ (i := 8) (N := some 6) #[true, true, true, true, true, true, true, true, true, false, false] rfl rfl (one_of HT_.out (by kernel_rfl)) (by decide) (fun K hK => ?_)
      refine box_step ?hg (N := 6) ?hd (cs := #[.string (⟨#[]⟩ : ByteArray), .slice none 0 0]) (t := 24) ?hr ?_; (case hd => rfl); (case hg => rfl); (case hr => first | (go_simp; done) | (go_simp; rfl))
      intro gb716 hg w29 hbox hb
      have n0_ := Aside0.mk (Kd.V_below (Kd.V_elderB (Kd.V_go HO0_1.out) gb716 (Nat.le_of_eq hg.symm)) hb)
      have n1_ := Aside0.mk (Kd.V_below (Kd.V_elderB (Kd.V_go HO1_1.out) gb716 (Nat.le_of_eq hg.symm)) hb)
      have n2_ := Aside0.mk (Kd.N_below (Kd.N_elderB (Kd.N_go HO702.out) gb716 (Nat.le_of_eq hg.symm)) hb)
      have n3_ := Aside0.mk (Kd.R_below (Kd.R_go HO706.out) hb)
      have n4_ := Aside0.mk (Kd.R_below (Kd.R_go HO710.out) hb)
      have n5_ := Aside0.mk (Kd.R_below (Kd.R_go HO714.out) hb)
      have n6_ := Aside0.mk (blk_below (blk_go BK697.out) hb)
      have n7_ := Aside0.mk (blk_below (blk_go BK698.out) hb)
      have n8_ := Aside0.mk (blk_below (blk_go BK715.out) hb)
      have n9_ := Aside0.mk (below_step (below_go HB.out) hb)
      have n10_ := Aside0.mk (hbox)
      have n11_ := Aside0.mk ((by rw [hg]; exact (below_size (below_go HB.out)) : w.heap.size ≤ gb716))
      have n12_ := Aside0.mk ((by rw [hg]; exact (below_size (below_go HB.out)) : w.heap.size ≤ gb716))
      have n13_ := Aside0.mk ((by rw [hg]; exact Nat.ne_of_lt (blk_lt (g := gb697) (o := .cells #[.string a0_0, .slice A0_1 l0_1.length c0_1] 24 (0, 0)) (blk_go BK697.out)) : gb697 ≠ gb716))
      have n14_ := Aside0.mk (blk_apart hg (blk_go BK697.out) : gb716 ≠ gb697)
      have n15_ := Aside0.mk ((by rw [hg]; exact Nat.ne_of_lt (blk_lt (g := gb698) (o := .cells #[.string a1_0, .slice A1_1 l1_1.length c1_1] 24 (0, 0)) (blk_go BK698.out)) : gb698 ≠ gb716))
      have n16_ := Aside0.mk (blk_apart hg (blk_go BK698.out) : gb716 ≠ gb698)
      have n17_ := Aside0.mk ((by rw [hg]; exact Nat.ne_of_lt (blk_lt (g := gb715) (o := .cells #[.string (⟨#[]⟩ : ByteArray), .slice none 0 0] 24 (0, 0)) (blk_go BK715.out)) : gb715 ≠ gb716))
      have n18_ := Aside0.mk (blk_apart hg (blk_go BK715.out) : gb716 ≠ gb715)
      clear HO0_1
      clear HO1_1
      clear HO702
      clear HO706
      clear HO710
      clear HO714
      clear BK697
      clear BK698
      clear BK715
      clear HB
      have HO0_1 := n0_
      have HO1_1 := n1_
      have HO702 := n2_
      have HO706 := n3_
      have HO710 := n4_
      have HO714 := n5_
      have BK697 := n6_
      have BK698 := n7_
      have BK715 := n8_
      have HB := n9_
      have BK716 := n10_
      have GW716 := n11_
      have GE716 := n12_
      have NB697_716 := n13_
      have NB716_697 := n14_
      have NB698_716 := n15_
      have NB716_698 := n16_
      have NB715_716 := n17_
      have NB716_715 := n18_
      clear n0_ n1_ n2_ n3_ n4_ n5_ n6_ n7_ n8_ n9_ n10_ n11_ n12_ n13_ n14_ n15_ n16_ n17_ n18_
      clear hb hbox hg
      refine hK.out _ _ ⟨(blk_cell BK697.out 0).trans rfl, (blk_cell BK697.out 1).trans rfl, (blk_cell BK698.out 0).trans rfl, (blk_cell BK698.out 1).trans rfl⟩ (fun hHeld => ?_)
      clear hK K
      refine norm_ (a' := ?_) ?_ ?_
      rotate_left
      ·
       show Act.put _ (some 6) _ = _
       simp only [Act.put, List.setIfInBounds_toArray, List.set_cons_zero, List.set_cons_succ, i64_w, i32_w]
       rfl
      exact norm_ (by simp only [putAll, Act.put, List.setIfInBounds_toArray, List.set_cons_zero, List.set_cons_succ]; try rfl) (hJ2_3_4_6_7_8 (v701, v705, v709, v713, gb715, gb716) _ ⟨hHeld, (Kd.V_go (Kd.V_mono HO0_1.out (fun _ hk => ⟨hk.1.1, ⟨hk.1.2.1, ⟨hk.1.2.2.1, ⟨hk.1.2.2.2.1, ⟨hk.1.2.2.2.2.1, ⟨hk.1.2.2.2.2.2.1, ⟨hk.1.2.2.2.2.2.2.1, ⟨hk.1.2.2.2.2.2.2.2, hk.2⟩⟩⟩⟩⟩⟩⟩⟩))), (Kd.V_go (Kd.V_mono HO1_1.out (fun _ hk => ⟨hk.1.1, ⟨hk.1.2.1, ⟨hk.1.2.2.1, ⟨hk.1.2.2.2.1, ⟨hk.1.2.2.2.2.1, ⟨hk.1.2.2.2.2.2.1, ⟨hk.1.2.2.2.2.2.2.1, ⟨hk.1.2.2.2.2.2.2.2, hk.2⟩⟩⟩⟩⟩⟩⟩⟩))), (Kd.N_go (Kd.N_mono HO702.out (fun _ hk => ⟨hk.1.1, ⟨hk.1.2.1, ⟨hk.1.2.2.1, ⟨hk.1.2.2.2.1, ⟨hk.1.2.2.2.2.1, ⟨hk.1.2.2.2.2.2.1, ⟨hk.1.2.2.2.2.2.2, hk.2⟩⟩⟩⟩⟩⟩⟩))), (Kd.R_go HO706.out), (Kd.R_go HO710.out), (Kd.R_go HO714.out), (blk_go BK697.out), (blk_go BK698.out), (blk_go BK715.out), (blk_go BK716.out), GW715.out, GE715.out, NB697_715.out, NB715_697.out, NB698_715.out, NB715_698.out, NB716_715.out, NB715_716.out, GW716.out, GE716.out, NB697_716.out, NB716_697.out, NB698_716.out, NB716_698.out, (below_go HB.out)⟩)
    intro hJ2_3_4_6_7
    refine join_ (σ := Value × Value × Value × Value × Nat) 3 #[true, true, true, true, true, true, true, false, true, false, false] (fun s_ => [(11, s_.1), (12, .agg #[.string t703, s_.2.1]), (13, .agg #[.string t707, s_.2.2.1]), (15, .agg #[.string t711, s_.2.2.2.1]), (6, .pointer (some ⟨s_.2.2.2.2, 0, none⟩))]) (fun s_ w' => (w'.cell? ⟨gb697, 0, none⟩ = some (.string a0_0) ∧ w'.cell? ⟨gb697, 1, none⟩ = some (.slice A0_1 l0_1.length c0_1) ∧ w'.cell? ⟨gb698, 0, none⟩ = some (.string a1_0) ∧ w'.cell? ⟨gb698, 1, none⟩ = some (.slice A1_1 l1_1.length c1_1)) ∧ (Kd.V k85 85 w' w.heap.size (fun k_ => ((P0_1_ k_ ∨ P1_1_ k_) ∨ w.heap.size ≤ k_) ∧ some k_ ≠ (s_.1 : Value).ownBlock ∧ some k_ ≠ (s_.2.1 : Value).ownBlock ∧ some k_ ≠ (s_.2.2.1 : Value).ownBlock ∧ some k_ ≠ (s_.2.2.2.1 : Value).ownBlock ∧ k_ ≠ gb697 ∧ k_ ≠ gb698 ∧ k_ ≠ s_.2.2.2.2) (.slice A0_1 l0_1.length c0_1) l0_1) ∧ (Kd.V k85 85 w' w.heap.size (fun k_ => ((P0_1_ k_ ∨ P1_1_ k_) ∨ w.heap.size ≤ k_) ∧ some k_ ≠ (s_.1 : Value).ownBlock ∧ some k_ ≠ (s_.2.1 : Value).ownBlock ∧ some k_ ≠ (s_.2.2.1 : Value).ownBlock ∧ some k_ ≠ (s_.2.2.2.1 : Value).ownBlock ∧ k_ ≠ gb697 ∧ k_ ≠ gb698 ∧ k_ ≠ s_.2.2.2.2) (.slice A1_1 l1_1.length c1_1) l1_1) ∧ (Kd.N k24 24 w' w.heap.size (fun k_ => ((P0_1_ k_ ∨ P1_1_ k_) ∨ w.heap.size ≤ k_) ∧ some k_ ≠ (s_.2.1 : Value).ownBlock ∧ some k_ ≠ (s_.2.2.1 : Value).ownBlock ∧ some k_ ≠ (s_.2.2.2.1 : Value).ownBlock ∧ k_ ≠ gb697 ∧ k_ ≠ gb698 ∧ k_ ≠ s_.2.2.2.2) s_.1 y700) ∧ (Kd.R k85 85 w' w.heap.size (fun k_ => (w.heap.size ≤ k_) ∧ some k_ ≠ (s_.2.2.1 : Value).ownBlock ∧ some k_ ≠ (s_.2.2.2.1 : Value).ownBlock) s_.2.1 t704) ∧ (Kd.R k85 85 w' w.heap.size (fun k_ => (w.heap.size ≤ k_) ∧ some k_ ≠ (s_.2.1 : Value).ownBlock ∧ some k_ ≠ (s_.2.2.2.1 : Value).ownBlock) s_.2.2.1 t708) ∧ (Kd.R k85 85 w' w.heap.size (fun k_ => (w.heap.size ≤ k_) ∧ some k_ ≠ (s_.2.1 : Value).ownBlock ∧ some k_ ≠ (s_.2.2.1 : Value).ownBlock) s_.2.2.2.1 t712) ∧ (w'.heap[gb697]? = some (.cells #[.string a0_0, .slice A0_1 l0_1.length c0_1] 24 (0, 0))) ∧ (w'.heap[gb698]? = some (.cells #[.string a1_0, .slice A1_1 l1_1.length c1_1] 24 (0, 0))) ∧ (w'.heap[s_.2.2.2.2]? = some (.cells #[.string (⟨#[]⟩ : ByteArray), .slice none 0 0] 24 (0, 0))) ∧ (w.heap.size ≤ s_.2.2.2.2) ∧ (w.heap.size ≤ s_.2.2.2.2) ∧ (gb697 ≠ s_.2.2.2.2) ∧ (s_.2.2.2.2 ≠ gb697) ∧ (gb698 ≠ s_.2.2.2.2) ∧ (s_.2.2.2.2 ≠ gb698) ∧ (Below w.heap.size w w')) ?_ ?_
    ·
     ·
      skip
      rintro ⟨v701, v705, v709, v713, gb716⟩ w28 ⟨hS_, h0_, h1_, h2_, h3_, h4_, h5_, h6_, h7_, h8_, h9_, h10_, h11_, h12_, h13_, h14_, h15_⟩
      dsimp only at hS_ h0_ h1_ h2_ h3_ h4_ h5_ h6_ h7_ h8_ h9_ h10_ h11_ h12_ h13_ h14_ h15_
      have n0_ := Aside0.mk h0_
      have n1_ := Aside0.mk h1_
      have n2_ := Aside0.mk h2_
      have n3_ := Aside0.mk h3_
      have n4_ := Aside0.mk h4_
      have n5_ := Aside0.mk h5_
      have n6_ := Aside0.mk h6_
      have n7_ := Aside0.mk h7_
      have n8_ := Aside0.mk h8_
      have n9_ := Aside0.mk h9_
      have n10_ := Aside0.mk h10_
      have n11_ := Aside0.mk h11_
      have n12_ := Aside0.mk h12_
      have n13_ := Aside0.mk h13_
      have n14_ := Aside0.mk h14_
      have n15_ := Aside0.mk h15_
      clear HO0_1
      clear HO1_1
      clear BK697
      clear BK698
      clear HB
      clear h0_ h1_ h2_ h3_ h4_ h5_ h6_ h7_ h8_ h9_ h10_ h11_ h12_ h13_ h14_ h15_
      have HO0_1 := n0_
      have HO1_1 := n1_
      have HO702 := n2_
      have HO706 := n3_
      have HO710 := n4_
      have HO714 := n5_
      have BK697 := n6_
      have BK698 := n7_
      have BK716 := n8_
      have GW716 := n9_
      have GE716 := n10_
      have NB697_716 := n11_
      have NB716_697 := n12_
      have NB698_716 := n13_
      have NB716_698 := n14_
      have HB := n15_
      clear n0_ n1_ n2_ n3_ n4_ n5_ n6_ n7_ n8_ n9_ n10_ n11_ n12_ n13_ n14_ n15_
      have hHeld := hS_
      refine norm_ (a' := ?_) ?_ ?_
      rotate_left
      ·
       simp only [putAll, Act.put, List.setIfInBounds_toArray, List.set_cons_zero, List.set_cons_succ]
       rfl
      refine one_ (i := 7) (N := some 5) #[true, true, true, true, true, true, true, true, true, false, false] rfl rfl (one_of HT_.out (by kernel_rfl)) (by decide) (fun K hK => ?_)
      refine box_step ?hg (N := 5) ?hd (cs := #[.string (⟨#[]⟩ : ByteArray), .slice none 0 0]) (t := 24) ?hr ?_; (case hd => rfl); (case hg => rfl); (case hr => first | (go_simp; done) | (go_simp; rfl))
      intro gb715 hg w29 hbox hb
      have n0_ := Aside0.mk (Kd.V_below (Kd.V_elderB (Kd.V_go HO0_1.out) gb715 (Nat.le_of_eq hg.symm)) hb)
      have n1_ := Aside0.mk (Kd.V_below (Kd.V_elderB (Kd.V_go HO1_1.out) gb715 (Nat.le_of_eq hg.symm)) hb)
      have n2_ := Aside0.mk (Kd.N_below (Kd.N_elderB (Kd.N_go HO702.out) gb715 (Nat.le_of_eq hg.symm)) hb)
      have n3_ := Aside0.mk (Kd.R_below (Kd.R_go HO706.out) hb)
      have n4_ := Aside0.mk (Kd.R_below (Kd.R_go HO710.out) hb)
      have n5_ := Aside0.mk (Kd.R_below (Kd.R_go HO714.out) hb)
      have n6_ := Aside0.mk (blk_below (blk_go BK697.out) hb)
      have n7_ := Aside0.mk (blk_below (blk_go BK698.out) hb)
      have n8_ := Aside0.mk (blk_below (blk_go BK716.out) hb)
      have n9_ := Aside0.mk (below_step (below_go HB.out) hb)
      have n10_ := Aside0.mk (hbox)
      have n11_ := Aside0.mk ((by rw [hg]; exact (below_size (below_go HB.out)) : w.heap.size ≤ gb715))
      have n12_ := Aside0.mk ((by rw [hg]; exact (below_size (below_go HB.out)) : w.heap.size ≤ gb715))
      have n13_ := Aside0.mk ((by rw [hg]; exact Nat.ne_of_lt (blk_lt (g := gb697) (o := .cells #[.string a0_0, .slice A0_1 l0_1.length c0_1] 24 (0, 0)) (blk_go BK697.out)) : gb697 ≠ gb715))
      have n14_ := Aside0.mk (blk_apart hg (blk_go BK697.out) : gb715 ≠ gb697)
      have n15_ := Aside0.mk ((by rw [hg]; exact Nat.ne_of_lt (blk_lt (g := gb698) (o := .cells #[.string a1_0, .slice A1_1 l1_1.length c1_1] 24 (0, 0)) (blk_go BK698.out)) : gb698 ≠ gb715))
      have n16_ := Aside0.mk (blk_apart hg (blk_go BK698.out) : gb715 ≠ gb698)
      have n17_ := Aside0.mk ((by rw [hg]; exact Nat.ne_of_lt (blk_lt (g := gb716) (o := .cells #[.string (⟨#[]⟩ : ByteArray), .slice none 0 0] 24 (0, 0)) (blk_go BK716.out)) : gb716 ≠ gb715))
      have n18_ := Aside0.mk (blk_apart hg (blk_go BK716.out) : gb715 ≠ gb716)
      clear HO0_1
      clear HO1_1
      clear HO702
      clear HO706
      clear HO710
      clear HO714
      clear BK697
      clear BK698
      clear BK716
      clear HB
      have HO0_1 := n0_
      have HO1_1 := n1_
      have HO702 := n2_
      have HO706 := n3_
      have HO710 := n4_
      have HO714 := n5_
      have BK697 := n6_
      have BK698 := n7_
      have BK716 := n8_
      have HB := n9_
      have BK715 := n10_
      have GW715 := n11_
      have GE715 := n12_
      have NB697_715 := n13_
      have NB715_697 := n14_
      have NB698_715 := n15_
      have NB715_698 := n16_
      have NB716_715 := n17_
      have NB715_716 := n18_
      clear n0_ n1_ n2_ n3_ n4_ n5_ n6_ n7_ n8_ n9_ n10_ n11_ n12_ n13_ n14_ n15_ n16_ n17_ n18_
      clear hb hbox hg
      refine hK.out _ _ ⟨(blk_cell BK697.out 0).trans rfl, (blk_cell BK697.out 1).trans rfl, (blk_cell BK698.out 0).trans rfl, (blk_cell BK698.out 1).trans rfl⟩ (fun hHeld => ?_)
      clear hK K
      refine norm_ (a' := ?_) ?_ ?_
      rotate_left
      ·
       show Act.put _ (some 5) _ = _
       simp only [Act.put, List.setIfInBounds_toArray, List.set_cons_zero, List.set_cons_succ, i64_w, i32_w]
       rfl
      exact norm_ (by simp only [putAll, Act.put, List.setIfInBounds_toArray, List.set_cons_zero, List.set_cons_succ]; try rfl) (hJ2_3_4_6_7_8 (v701, v705, v709, v713, gb715, gb716) _ ⟨hHeld, (Kd.V_go (Kd.V_mono HO0_1.out (fun _ hk => ⟨hk.1.1, ⟨hk.1.2.1, ⟨hk.1.2.2.1, ⟨hk.1.2.2.2.1, ⟨hk.1.2.2.2.2.1, ⟨hk.1.2.2.2.2.2.1, ⟨hk.1.2.2.2.2.2.2.1, ⟨hk.2, hk.1.2.2.2.2.2.2.2⟩⟩⟩⟩⟩⟩⟩⟩))), (Kd.V_go (Kd.V_mono HO1_1.out (fun _ hk => ⟨hk.1.1, ⟨hk.1.2.1, ⟨hk.1.2.2.1, ⟨hk.1.2.2.2.1, ⟨hk.1.2.2.2.2.1, ⟨hk.1.2.2.2.2.2.1, ⟨hk.1.2.2.2.2.2.2.1, ⟨hk.2, hk.1.2.2.2.2.2.2.2⟩⟩⟩⟩⟩⟩⟩⟩))), (Kd.N_go (Kd.N_mono HO702.out (fun _ hk => ⟨hk.1.1, ⟨hk.1.2.1, ⟨hk.1.2.2.1, ⟨hk.1.2.2.2.1, ⟨hk.1.2.2.2.2.1, ⟨hk.1.2.2.2.2.2.1, ⟨hk.2, hk.1.2.2.2.2.2.2⟩⟩⟩⟩⟩⟩⟩))), (Kd.R_go HO706.out), (Kd.R_go HO710.out), (Kd.R_go HO714.out), (blk_go BK697.out), (blk_go BK698.out), (blk_go BK715.out), (blk_go BK716.out), GW715.out, GE715.out, NB697_715.out, NB715_697.out, NB698_715.out, NB715_698.out, NB716_715.out, NB715_716.out, GW716.out, GE716.out, NB697_716.out, NB716_697.out, NB698_716.out, NB716_698.out, (below_go HB.out)⟩)
    intro hJ2_3_4_6_8
    refine join_ (σ := Value × Value × Value × Nat × Nat) 3 #[true, true, true, true, true, true, false, true, true, false, false] (fun s_ => [(11, s_.1), (12, .agg #[.string t703, s_.2.1]), (13, .agg #[.string t707, s_.2.2.1]), (5, .pointer (some ⟨s_.2.2.2.1, 0, none⟩)), (6, .pointer (some ⟨s_.2.2.2.2, 0, none⟩))]) (fun s_ w' => (w'.cell? ⟨gb697, 0, none⟩ = some (.string a0_0) ∧ w'.cell? ⟨gb697, 1, none⟩ = some (.slice A0_1 l0_1.length c0_1) ∧ w'.cell? ⟨gb698, 0, none⟩ = some (.string a1_0) ∧ w'.cell? ⟨gb698, 1, none⟩ = some (.slice A1_1 l1_1.length c1_1)) ∧ (Kd.V k85 85 w' w.heap.size (fun k_ => ((P0_1_ k_ ∨ P1_1_ k_) ∨ w.heap.size ≤ k_) ∧ some k_ ≠ (s_.1 : Value).ownBlock ∧ some k_ ≠ (s_.2.1 : Value).ownBlock ∧ some k_ ≠ (s_.2.2.1 : Value).ownBlock ∧ k_ ≠ gb697 ∧ k_ ≠ gb698 ∧ k_ ≠ s_.2.2.2.1 ∧ k_ ≠ s_.2.2.2.2) (.slice A0_1 l0_1.length c0_1) l0_1) ∧ (Kd.V k85 85 w' w.heap.size (fun k_ => ((P0_1_ k_ ∨ P1_1_ k_) ∨ w.heap.size ≤ k_) ∧ some k_ ≠ (s_.1 : Value).ownBlock ∧ some k_ ≠ (s_.2.1 : Value).ownBlock ∧ some k_ ≠ (s_.2.2.1 : Value).ownBlock ∧ k_ ≠ gb697 ∧ k_ ≠ gb698 ∧ k_ ≠ s_.2.2.2.1 ∧ k_ ≠ s_.2.2.2.2) (.slice A1_1 l1_1.length c1_1) l1_1) ∧ (Kd.N k24 24 w' w.heap.size (fun k_ => ((P0_1_ k_ ∨ P1_1_ k_) ∨ w.heap.size ≤ k_) ∧ some k_ ≠ (s_.2.1 : Value).ownBlock ∧ some k_ ≠ (s_.2.2.1 : Value).ownBlock ∧ k_ ≠ gb697 ∧ k_ ≠ gb698 ∧ k_ ≠ s_.2.2.2.1 ∧ k_ ≠ s_.2.2.2.2) s_.1 y700) ∧ (Kd.R k85 85 w' w.heap.size (fun k_ => (w.heap.size ≤ k_) ∧ some k_ ≠ (s_.2.2.1 : Value).ownBlock) s_.2.1 t704) ∧ (Kd.R k85 85 w' w.heap.size (fun k_ => (w.heap.size ≤ k_) ∧ some k_ ≠ (s_.2.1 : Value).ownBlock) s_.2.2.1 t708) ∧ (w'.heap[gb697]? = some (.cells #[.string a0_0, .slice A0_1 l0_1.length c0_1] 24 (0, 0))) ∧ (w'.heap[gb698]? = some (.cells #[.string a1_0, .slice A1_1 l1_1.length c1_1] 24 (0, 0))) ∧ (w'.heap[s_.2.2.2.1]? = some (.cells #[.string (⟨#[]⟩ : ByteArray), .slice none 0 0] 24 (0, 0))) ∧ (w'.heap[s_.2.2.2.2]? = some (.cells #[.string (⟨#[]⟩ : ByteArray), .slice none 0 0] 24 (0, 0))) ∧ (w.heap.size ≤ s_.2.2.2.1) ∧ (w.heap.size ≤ s_.2.2.2.1) ∧ (gb697 ≠ s_.2.2.2.1) ∧ (s_.2.2.2.1 ≠ gb697) ∧ (gb698 ≠ s_.2.2.2.1) ∧ (s_.2.2.2.1 ≠ gb698) ∧ (s_.2.2.2.2 ≠ s_.2.2.2.1) ∧ (s_.2.2.2.1 ≠ s_.2.2.2.2) ∧ (w.heap.size ≤ s_.2.2.2.2) ∧ (w.heap.size ≤ s_.2.2.2.2) ∧ (gb697 ≠ s_.2.2.2.2) ∧ (s_.2.2.2.2 ≠ gb697) ∧ (gb698 ≠ s_.2.2.2.2) ∧ (s_.2.2.2.2 ≠ gb698) ∧ (Below w.heap.size w w')) ?_ ?_
    ·
     ·
      skip
      rintro ⟨v701, v705, v709, gb715, gb716⟩ w28 ⟨hS_, h0_, h1_, h2_, h3_, h4_, h5_, h6_, h7_, h8_, h9_, h10_, h11_, h12_, h13_, h14_, h15_, h16_, h17_, h18_, h19_, h20_, h21_, h22_, h23_⟩
      dsimp only at hS_ h0_ h1_ h2_ h3_ h4_ h5_ h6_ h7_ h8_ h9_ h10_ h11_ h12_ h13_ h14_ h15_ h16_ h17_ h18_ h19_ h20_ h21_ h22_ h23_
      have n0_ := Aside0.mk h0_
      have n1_ := Aside0.mk h1_
      have n2_ := Aside0.mk h2_
      have n3_ := Aside0.mk h3_
      have n4_ := Aside0.mk h4_
      have n5_ := Aside0.mk h5_
      have n6_ := Aside0.mk h6_
      have n7_ := Aside0.mk h7_
      have n8_ := Aside0.mk h8_
      have n9_ := Aside0.mk h9_
      have n10_ := Aside0.mk h10_
      have n11_ := Aside0.mk h11_
      have n12_ := Aside0.mk h12_
      have n13_ := Aside0.mk h13_
      have n14_ := Aside0.mk h14_
      have n15_ := Aside0.mk h15_
      have n16_ := Aside0.mk h16_
      have n17_ := Aside0.mk h17_
      have n18_ := Aside0.mk h18_
      have n19_ := Aside0.mk h19_
      have n20_ := Aside0.mk h20_
      have n21_ := Aside0.mk h21_
      have n22_ := Aside0.mk h22_
      have n23_ := Aside0.mk h23_
      clear HO0_1
      clear HO1_1
      clear BK697
      clear BK698
      clear HB
      clear h0_ h1_ h2_ h3_ h4_ h5_ h6_ h7_ h8_ h9_ h10_ h11_ h12_ h13_ h14_ h15_ h16_ h17_ h18_ h19_ h20_ h21_ h22_ h23_
      have HO0_1 := n0_
      have HO1_1 := n1_
      have HO702 := n2_
      have HO706 := n3_
      have HO710 := n4_
      have BK697 := n5_
      have BK698 := n6_
      have BK715 := n7_
      have BK716 := n8_
      have GW715 := n9_
      have GE715 := n10_
      have NB697_715 := n11_
      have NB715_697 := n12_
      have NB698_715 := n13_
      have NB715_698 := n14_
      have NB716_715 := n15_
      have NB715_716 := n16_
      have GW716 := n17_
      have GE716 := n18_
      have NB697_716 := n19_
      have NB716_697 := n20_
      have NB698_716 := n21_
      have NB716_698 := n22_
      have HB := n23_
      clear n0_ n1_ n2_ n3_ n4_ n5_ n6_ n7_ n8_ n9_ n10_ n11_ n12_ n13_ n14_ n15_ n16_ n17_ n18_ n19_ n20_ n21_ n22_ n23_
      have hHeld := hS_
      refine norm_ (a' := ?_) ?_ ?_
      rotate_left
      ·
       simp only [putAll, Act.put, List.setIfInBounds_toArray, List.set_cons_zero, List.set_cons_succ]
       rfl
      refine one_ (i := 6) (N := some 15) #[true, true, true, true, true, true, true, true, true, false, false] rfl rfl (one_of HT_.out (by kernel_rfl)) (by decide) (fun K hK => ?_)
      refine goes_ Try.func39 (by kernel_rfl) rfl #[.agg #[.string a0_0, .slice A0_1 l0_1.length c0_1]] (by rfl) rfl rfl (by (try simp only [List.map_toArray, List.map_cons, List.map_nil]); first | done | rfl | (simp only [List.length_drop, List.length_take]; rfl)) ?_
      with_reducible refine (percent_Decode.calls k a0_0 _ _ l0_1 t711 t712 _ ?side1 ?side2 A7.out).mono ?_
      (case side1 => repeat (first | exact (Kd.V_reads' HO0_1.out).2.2 | (with_reducible refine Kd.C_alloc ?_ _) | (with_reducible refine Kd.C_drewN ?_ _) | (with_reducible refine Kd.C_drew ?_)))
      (case side2 => exact (Kd.V_reads' HO0_1.out).2.1)
      rintro e w29 ⟨v713, rfl, ho0, hb⟩
      refine ⟨_, rfl, ?_⟩
      have n0_ := Aside0.mk (Kd.V_elder' (Kd.V_go HO0_1.out) (Kd.R_base ho0) hb)
      have n1_ := Aside0.mk (Kd.V_elder' (Kd.V_go HO1_1.out) (Kd.R_base ho0) hb)
      have n2_ := Aside0.mk (Kd.N_elder' (Kd.N_go HO702.out) (Kd.R_base ho0) hb)
      have n3_ := Aside0.mk (Kd.R_elder' (Kd.R_go HO706.out) (Kd.R_base ho0) hb)
      have n4_ := Aside0.mk (Kd.R_elder' (Kd.R_go HO710.out) (Kd.R_base ho0) hb)
      have n5_ := Aside0.mk (Kd.R_lower (Kd.R_new' (Kd.R_new' (Kd.R_newM (M := fun k_ => (w.heap.size ≤ k_)) ho0 (below_size (below_go HB.out)) (fun k_ h_ => h_)) (Kd.R_lt (Kd.R_go HO706.out))) (Kd.R_lt (Kd.R_go HO710.out))) (below_size (below_go HB.out)))
      have n6_ := Aside0.mk (blk_below (blk_go BK697.out) hb)
      have n7_ := Aside0.mk (blk_below (blk_go BK698.out) hb)
      have n8_ := Aside0.mk (blk_below (blk_go BK715.out) hb)
      have n9_ := Aside0.mk (blk_below (blk_go BK716.out) hb)
      have n10_ := Aside0.mk (below_step (below_go HB.out) hb)
      clear HO0_1
      clear HO1_1
      clear HO702
      clear HO706
      clear HO710
      clear BK697
      clear BK698
      clear BK715
      clear BK716
      clear HB
      have HO0_1 := n0_
      have HO1_1 := n1_
      have HO702 := n2_
      have HO706 := n3_
      have HO710 := n4_
      have HO714 := n5_
      have BK697 := n6_
      have BK698 := n7_
      have BK715 := n8_
      have BK716 := n9_
      have HB := n10_
      clear n0_ n1_ n2_ n3_ n4_ n5_ n6_ n7_ n8_ n9_ n10_
      (try clear hb)
      (try clear hb2)
      (try clear hk)
      (try clear hi)
      (try clear ho0)
      refine hK.out _ _ ⟨(blk_cell BK697.out 0).trans rfl, (blk_cell BK697.out 1).trans rfl, (blk_cell BK698.out 0).trans rfl, (blk_cell BK698.out 1).trans rfl⟩ (fun hHeld => ?_)
      clear hK K
      refine norm_ (a' := ?_) ?_ ?_
      rotate_left
      ·
       show Act.put _ (some 15) _ = _
       simp only [Act.put, List.setIfInBounds_toArray, List.set_cons_zero, List.set_cons_succ, i64_w, i32_w]
       rfl
      exact norm_ (by simp only [putAll, Act.put, List.setIfInBounds_toArray, List.set_cons_zero, List.set_cons_succ]; try rfl) (hJ2_3_4_6_7_8 (v701, v705, v709, v713, gb715, gb716) _ ⟨hHeld, (Kd.V_go (Kd.V_mono HO0_1.out (fun _ hk => ⟨hk.1.1, ⟨hk.1.2.1, ⟨hk.1.2.2.1, ⟨hk.1.2.2.2.1, ⟨hk.2, ⟨hk.1.2.2.2.2.1, ⟨hk.1.2.2.2.2.2.1, ⟨hk.1.2.2.2.2.2.2.1, hk.1.2.2.2.2.2.2.2⟩⟩⟩⟩⟩⟩⟩⟩))), (Kd.V_go (Kd.V_mono HO1_1.out (fun _ hk => ⟨hk.1.1, ⟨hk.1.2.1, ⟨hk.1.2.2.1, ⟨hk.1.2.2.2.1, ⟨hk.2, ⟨hk.1.2.2.2.2.1, ⟨hk.1.2.2.2.2.2.1, ⟨hk.1.2.2.2.2.2.2.1, hk.1.2.2.2.2.2.2.2⟩⟩⟩⟩⟩⟩⟩⟩))), (Kd.N_go (Kd.N_mono HO702.out (fun _ hk => ⟨hk.1.1, ⟨hk.1.2.1, ⟨hk.1.2.2.1, ⟨hk.2, ⟨hk.1.2.2.2.1, ⟨hk.1.2.2.2.2.1, ⟨hk.1.2.2.2.2.2.1, hk.1.2.2.2.2.2.2⟩⟩⟩⟩⟩⟩⟩))), (Kd.R_go (Kd.R_mono HO706.out (fun _ hk => ⟨hk.1.1, ⟨hk.1.2, hk.2⟩⟩))), (Kd.R_go (Kd.R_mono HO710.out (fun _ hk => ⟨hk.1.1, ⟨hk.1.2, hk.2⟩⟩))), (Kd.R_go (Kd.R_mono HO714.out (fun _ hk => ⟨hk.1.1.1, ⟨hk.1.2, hk.2⟩⟩))), (blk_go BK697.out), (blk_go BK698.out), (blk_go BK715.out), (blk_go BK716.out), GW715.out, GE715.out, NB697_715.out, NB715_697.out, NB698_715.out, NB715_698.out, NB716_715.out, NB715_716.out, GW716.out, GE716.out, NB697_716.out, NB716_697.out, NB698_716.out, NB716_698.out, (below_go HB.out)⟩)
    intro hJ2_3_4_7_8
    refine join_ (σ := Value × Value × Value × Value) 4 #[true, true, true, true, true, true, true, false, false, false, false] (fun s_ => [(11, s_.1), (12, .agg #[.string t703, s_.2.1]), (13, .agg #[.string t707, s_.2.2.1]), (15, .agg #[.string t711, s_.2.2.2])]) (fun s_ w' => (w'.cell? ⟨gb697, 0, none⟩ = some (.string a0_0) ∧ w'.cell? ⟨gb697, 1, none⟩ = some (.slice A0_1 l0_1.length c0_1) ∧ w'.cell? ⟨gb698, 0, none⟩ = some (.string a1_0) ∧ w'.cell? ⟨gb698, 1, none⟩ = some (.slice A1_1 l1_1.length c1_1)) ∧ (Kd.V k85 85 w' w.heap.size (fun k_ => ((P0_1_ k_ ∨ P1_1_ k_) ∨ w.heap.size ≤ k_) ∧ some k_ ≠ (s_.1 : Value).ownBlock ∧ some k_ ≠ (s_.2.1 : Value).ownBlock ∧ some k_ ≠ (s_.2.2.1 : Value).ownBlock ∧ some k_ ≠ (s_.2.2.2 : Value).ownBlock ∧ k_ ≠ gb697 ∧ k_ ≠ gb698) (.slice A0_1 l0_1.length c0_1) l0_1) ∧ (Kd.V k85 85 w' w.heap.size (fun k_ => ((P0_1_ k_ ∨ P1_1_ k_) ∨ w.heap.size ≤ k_) ∧ some k_ ≠ (s_.1 : Value).ownBlock ∧ some k_ ≠ (s_.2.1 : Value).ownBlock ∧ some k_ ≠ (s_.2.2.1 : Value).ownBlock ∧ some k_ ≠ (s_.2.2.2 : Value).ownBlock ∧ k_ ≠ gb697 ∧ k_ ≠ gb698) (.slice A1_1 l1_1.length c1_1) l1_1) ∧ (Kd.N k24 24 w' w.heap.size (fun k_ => ((P0_1_ k_ ∨ P1_1_ k_) ∨ w.heap.size ≤ k_) ∧ some k_ ≠ (s_.2.1 : Value).ownBlock ∧ some k_ ≠ (s_.2.2.1 : Value).ownBlock ∧ some k_ ≠ (s_.2.2.2 : Value).ownBlock ∧ k_ ≠ gb697 ∧ k_ ≠ gb698) s_.1 y700) ∧ (Kd.R k85 85 w' w.heap.size (fun k_ => (w.heap.size ≤ k_) ∧ some k_ ≠ (s_.2.2.1 : Value).ownBlock ∧ some k_ ≠ (s_.2.2.2 : Value).ownBlock) s_.2.1 t704) ∧ (Kd.R k85 85 w' w.heap.size (fun k_ => (w.heap.size ≤ k_) ∧ some k_ ≠ (s_.2.1 : Value).ownBlock ∧ some k_ ≠ (s_.2.2.2 : Value).ownBlock) s_.2.2.1 t708) ∧ (Kd.R k85 85 w' w.heap.size (fun k_ => (w.heap.size ≤ k_) ∧ some k_ ≠ (s_.2.1 : Value).ownBlock ∧ some k_ ≠ (s_.2.2.1 : Value).ownBlock) s_.2.2.2 t712) ∧ (w'.heap[gb697]? = some (.cells #[.string a0_0, .slice A0_1 l0_1.length c0_1] 24 (0, 0))) ∧ (w'.heap[gb698]? = some (.cells #[.string a1_0, .slice A1_1 l1_1.length c1_1] 24 (0, 0))) ∧ (Below w.heap.size w w')) ?_ ?_
    ·
     ·
      skip
      rintro ⟨v701, v705, v709, v713⟩ w27 ⟨hS_, h0_, h1_, h2_, h3_, h4_, h5_, h6_, h7_, h8_⟩
      dsimp only at hS_ h0_ h1_ h2_ h3_ h4_ h5_ h6_ h7_ h8_
      have n0_ := Aside0.mk h0_
      have n1_ := Aside0.mk h1_
      have n2_ := Aside0.mk h2_
      have n3_ := Aside0.mk h3_
      have n4_ := Aside0.mk h4_
      have n5_ := Aside0.mk h5_
      have n6_ := Aside0.mk h6_
      have n7_ := Aside0.mk h7_
      have n8_ := Aside0.mk h8_
      clear HO0_1
      clear HO1_1
      clear BK697
      clear BK698
      clear HB
      clear h0_ h1_ h2_ h3_ h4_ h5_ h6_ h7_ h8_
      have HO0_1 := n0_
      have HO1_1 := n1_
      have HO702 := n2_
      have HO706 := n3_
      have HO710 := n4_
      have HO714 := n5_
      have BK697 := n6_
      have BK698 := n7_
      have HB := n8_
      clear n0_ n1_ n2_ n3_ n4_ n5_ n6_ n7_ n8_
      have hHeld := hS_
      refine norm_ (a' := ?_) ?_ ?_
      rotate_left
      ·
       simp only [putAll, Act.put, List.setIfInBounds_toArray, List.set_cons_zero, List.set_cons_succ]
       rfl
      refine two_ (i := 7) (j := 8) (Ni := some 5) (Nj := some 6) #[true, true, true, true, true, true, true, true, false, false, false] #[true, true, true, true, true, true, true, false, true, false, false] rfl rfl rfl rfl (two_of HT_.out (by kernel_rfl)) (by decide) (by decide) (fun K hK => ?_) (fun K hK => ?_)
      ·
       skip
       refine box_step ?hg (N := 5) ?hd (cs := #[.string (⟨#[]⟩ : ByteArray), .slice none 0 0]) (t := 24) ?hr ?_; (case hd => rfl); (case hg => rfl); (case hr => first | (go_simp; done) | (go_simp; rfl))
       intro gb715 hg w28 hbox hb
       have n0_ := Aside0.mk (Kd.V_below (Kd.V_elderB (Kd.V_go HO0_1.out) gb715 (Nat.le_of_eq hg.symm)) hb)
       have n1_ := Aside0.mk (Kd.V_below (Kd.V_elderB (Kd.V_go HO1_1.out) gb715 (Nat.le_of_eq hg.symm)) hb)
       have n2_ := Aside0.mk (Kd.N_below (Kd.N_elderB (Kd.N_go HO702.out) gb715 (Nat.le_of_eq hg.symm)) hb)
       have n3_ := Aside0.mk (Kd.R_below (Kd.R_go HO706.out) hb)
       have n4_ := Aside0.mk (Kd.R_below (Kd.R_go HO710.out) hb)
       have n5_ := Aside0.mk (Kd.R_below (Kd.R_go HO714.out) hb)
       have n6_ := Aside0.mk (blk_below (blk_go BK697.out) hb)
       have n7_ := Aside0.mk (blk_below (blk_go BK698.out) hb)
       have n8_ := Aside0.mk (below_step (below_go HB.out) hb)
       have n9_ := Aside0.mk (hbox)
       have n10_ := Aside0.mk ((by rw [hg]; exact (below_size (below_go HB.out)) : w.heap.size ≤ gb715))
       have n11_ := Aside0.mk ((by rw [hg]; exact (below_size (below_go HB.out)) : w.heap.size ≤ gb715))
       have n12_ := Aside0.mk ((by rw [hg]; exact Nat.ne_of_lt (blk_lt (g := gb697) (o := .cells #[.string a0_0, .slice A0_1 l0_1.length c0_1] 24 (0, 0)) (blk_go BK697.out)) : gb697 ≠ gb715))
       have n13_ := Aside0.mk (blk_apart hg (blk_go BK697.out) : gb715 ≠ gb697)
       have n14_ := Aside0.mk ((by rw [hg]; exact Nat.ne_of_lt (blk_lt (g := gb698) (o := .cells #[.string a1_0, .slice A1_1 l1_1.length c1_1] 24 (0, 0)) (blk_go BK698.out)) : gb698 ≠ gb715))
       have n15_ := Aside0.mk (blk_apart hg (blk_go BK698.out) : gb715 ≠ gb698)
       clear HO0_1
       clear HO1_1
       clear HO702
       clear HO706
       clear HO710
       clear HO714
       clear BK697
       clear BK698
       clear HB
       have HO0_1 := n0_
       have HO1_1 := n1_
       have HO702 := n2_
       have HO706 := n3_
       have HO710 := n4_
       have HO714 := n5_
       have BK697 := n6_
       have BK698 := n7_
       have HB := n8_
       have BK715 := n9_
       have GW715 := n10_
       have GE715 := n11_
       have NB697_715 := n12_
       have NB715_697 := n13_
       have NB698_715 := n14_
       have NB715_698 := n15_
       clear n0_ n1_ n2_ n3_ n4_ n5_ n6_ n7_ n8_ n9_ n10_ n11_ n12_ n13_ n14_ n15_
       clear hb hbox hg
       refine hK.out _ _ ⟨(blk_cell BK697.out 0).trans rfl, (blk_cell BK697.out 1).trans rfl, (blk_cell BK698.out 0).trans rfl, (blk_cell BK698.out 1).trans rfl⟩ (fun hHeld => ?_)
       clear hK K
       refine norm_ (a' := ?_) ?_ ?_
       rotate_left
       ·
        show Act.put _ (some 5) _ = _
        simp only [Act.put, List.setIfInBounds_toArray, List.set_cons_zero, List.set_cons_succ, i64_w, i32_w]
        rfl
       exact norm_ (by simp only [putAll, Act.put, List.setIfInBounds_toArray, List.set_cons_zero, List.set_cons_succ]; try rfl) (hJ2_3_4_6_7 (v701, v705, v709, v713, gb715) _ ⟨hHeld, (Kd.V_go (Kd.V_mono HO0_1.out (fun _ hk => ⟨hk.1.1, ⟨hk.1.2.1, ⟨hk.1.2.2.1, ⟨hk.1.2.2.2.1, ⟨hk.1.2.2.2.2.1, ⟨hk.1.2.2.2.2.2.1, ⟨hk.1.2.2.2.2.2.2, hk.2⟩⟩⟩⟩⟩⟩⟩))), (Kd.V_go (Kd.V_mono HO1_1.out (fun _ hk => ⟨hk.1.1, ⟨hk.1.2.1, ⟨hk.1.2.2.1, ⟨hk.1.2.2.2.1, ⟨hk.1.2.2.2.2.1, ⟨hk.1.2.2.2.2.2.1, ⟨hk.1.2.2.2.2.2.2, hk.2⟩⟩⟩⟩⟩⟩⟩))), (Kd.N_go (Kd.N_mono HO702.out (fun _ hk => ⟨hk.1.1, ⟨hk.1.2.1, ⟨hk.1.2.2.1, ⟨hk.1.2.2.2.1, ⟨hk.1.2.2.2.2.1, ⟨hk.1.2.2.2.2.2, hk.2⟩⟩⟩⟩⟩⟩))), (Kd.R_go HO706.out), (Kd.R_go HO710.out), (Kd.R_go HO714.out), (blk_go BK697.out), (blk_go BK698.out), (blk_go BK715.out), GW715.out, GE715.out, NB697_715.out, NB715_697.out, NB698_715.out, NB715_698.out, (below_go HB.out)⟩)
      ·
       skip
       refine box_step ?hg (N := 6) ?hd (cs := #[.string (⟨#[]⟩ : ByteArray), .slice none 0 0]) (t := 24) ?hr ?_; (case hd => rfl); (case hg => rfl); (case hr => first | (go_simp; done) | (go_simp; rfl))
       intro gb716 hg w28 hbox hb
       have n0_ := Aside0.mk (Kd.V_below (Kd.V_elderB (Kd.V_go HO0_1.out) gb716 (Nat.le_of_eq hg.symm)) hb)
       have n1_ := Aside0.mk (Kd.V_below (Kd.V_elderB (Kd.V_go HO1_1.out) gb716 (Nat.le_of_eq hg.symm)) hb)
       have n2_ := Aside0.mk (Kd.N_below (Kd.N_elderB (Kd.N_go HO702.out) gb716 (Nat.le_of_eq hg.symm)) hb)
       have n3_ := Aside0.mk (Kd.R_below (Kd.R_go HO706.out) hb)
       have n4_ := Aside0.mk (Kd.R_below (Kd.R_go HO710.out) hb)
       have n5_ := Aside0.mk (Kd.R_below (Kd.R_go HO714.out) hb)
       have n6_ := Aside0.mk (blk_below (blk_go BK697.out) hb)
       have n7_ := Aside0.mk (blk_below (blk_go BK698.out) hb)
       have n8_ := Aside0.mk (below_step (below_go HB.out) hb)
       have n9_ := Aside0.mk (hbox)
       have n10_ := Aside0.mk ((by rw [hg]; exact (below_size (below_go HB.out)) : w.heap.size ≤ gb716))
       have n11_ := Aside0.mk ((by rw [hg]; exact (below_size (below_go HB.out)) : w.heap.size ≤ gb716))
       have n12_ := Aside0.mk ((by rw [hg]; exact Nat.ne_of_lt (blk_lt (g := gb697) (o := .cells #[.string a0_0, .slice A0_1 l0_1.length c0_1] 24 (0, 0)) (blk_go BK697.out)) : gb697 ≠ gb716))
       have n13_ := Aside0.mk (blk_apart hg (blk_go BK697.out) : gb716 ≠ gb697)
       have n14_ := Aside0.mk ((by rw [hg]; exact Nat.ne_of_lt (blk_lt (g := gb698) (o := .cells #[.string a1_0, .slice A1_1 l1_1.length c1_1] 24 (0, 0)) (blk_go BK698.out)) : gb698 ≠ gb716))
       have n15_ := Aside0.mk (blk_apart hg (blk_go BK698.out) : gb716 ≠ gb698)
       clear HO0_1
       clear HO1_1
       clear HO702
       clear HO706
       clear HO710
       clear HO714
       clear BK697
       clear BK698
       clear HB
       have HO0_1 := n0_
       have HO1_1 := n1_
       have HO702 := n2_
       have HO706 := n3_
       have HO710 := n4_
       have HO714 := n5_
       have BK697 := n6_
       have BK698 := n7_
       have HB := n8_
       have BK716 := n9_
       have GW716 := n10_
       have GE716 := n11_
       have NB697_716 := n12_
       have NB716_697 := n13_
       have NB698_716 := n14_
       have NB716_698 := n15_
       clear n0_ n1_ n2_ n3_ n4_ n5_ n6_ n7_ n8_ n9_ n10_ n11_ n12_ n13_ n14_ n15_
       clear hb hbox hg
       refine hK.out _ _ ⟨(blk_cell BK697.out 0).trans rfl, (blk_cell BK697.out 1).trans rfl, (blk_cell BK698.out 0).trans rfl, (blk_cell BK698.out 1).trans rfl⟩ (fun hHeld => ?_)
       clear hK K
       refine norm_ (a' := ?_) ?_ ?_
       rotate_left
       ·
        show Act.put _ (some 6) _ = _
        simp only [Act.put, List.setIfInBounds_toArray, List.set_cons_zero, List.set_cons_succ, i64_w, i32_w]
        rfl
       exact norm_ (by simp only [putAll, Act.put, List.setIfInBounds_toArray, List.set_cons_zero, List.set_cons_succ]; try rfl) (hJ2_3_4_6_8 (v701, v705, v709, v713, gb716) _ ⟨hHeld, (Kd.V_go (Kd.V_mono HO0_1.out (fun _ hk => ⟨hk.1.1, ⟨hk.1.2.1, ⟨hk.1.2.2.1, ⟨hk.1.2.2.2.1, ⟨hk.1.2.2.2.2.1, ⟨hk.1.2.2.2.2.2.1, ⟨hk.1.2.2.2.2.2.2, hk.2⟩⟩⟩⟩⟩⟩⟩))), (Kd.V_go (Kd.V_mono HO1_1.out (fun _ hk => ⟨hk.1.1, ⟨hk.1.2.1, ⟨hk.1.2.2.1, ⟨hk.1.2.2.2.1, ⟨hk.1.2.2.2.2.1, ⟨hk.1.2.2.2.2.2.1, ⟨hk.1.2.2.2.2.2.2, hk.2⟩⟩⟩⟩⟩⟩⟩))), (Kd.N_go (Kd.N_mono HO702.out (fun _ hk => ⟨hk.1.1, ⟨hk.1.2.1, ⟨hk.1.2.2.1, ⟨hk.1.2.2.2.1, ⟨hk.1.2.2.2.2.1, ⟨hk.1.2.2.2.2.2, hk.2⟩⟩⟩⟩⟩⟩))), (Kd.R_go HO706.out), (Kd.R_go HO710.out), (Kd.R_go HO714.out), (blk_go BK697.out), (blk_go BK698.out), (blk_go BK716.out), GW716.out, GE716.out, NB697_716.out, NB716_697.out, NB698_716.out, NB716_698.out, (below_go HB.out)⟩)
    intro hJ2_3_4_6
    refine join_ (σ := Value × Value × Value × Nat) 4 #[true, true, true, true, true, true, false, true, false, false, false] (fun s_ => [(11, s_.1), (12, .agg #[.string t703, s_.2.1]), (13, .agg #[.string t707, s_.2.2.1]), (5, .pointer (some ⟨s_.2.2.2, 0, none⟩))]) (fun s_ w' => (w'.cell? ⟨gb697, 0, none⟩ = some (.string a0_0) ∧ w'.cell? ⟨gb697, 1, none⟩ = some (.slice A0_1 l0_1.length c0_1) ∧ w'.cell? ⟨gb698, 0, none⟩ = some (.string a1_0) ∧ w'.cell? ⟨gb698, 1, none⟩ = some (.slice A1_1 l1_1.length c1_1)) ∧ (Kd.V k85 85 w' w.heap.size (fun k_ => ((P0_1_ k_ ∨ P1_1_ k_) ∨ w.heap.size ≤ k_) ∧ some k_ ≠ (s_.1 : Value).ownBlock ∧ some k_ ≠ (s_.2.1 : Value).ownBlock ∧ some k_ ≠ (s_.2.2.1 : Value).ownBlock ∧ k_ ≠ gb697 ∧ k_ ≠ gb698 ∧ k_ ≠ s_.2.2.2) (.slice A0_1 l0_1.length c0_1) l0_1) ∧ (Kd.V k85 85 w' w.heap.size (fun k_ => ((P0_1_ k_ ∨ P1_1_ k_) ∨ w.heap.size ≤ k_) ∧ some k_ ≠ (s_.1 : Value).ownBlock ∧ some k_ ≠ (s_.2.1 : Value).ownBlock ∧ some k_ ≠ (s_.2.2.1 : Value).ownBlock ∧ k_ ≠ gb697 ∧ k_ ≠ gb698 ∧ k_ ≠ s_.2.2.2) (.slice A1_1 l1_1.length c1_1) l1_1) ∧ (Kd.N k24 24 w' w.heap.size (fun k_ => ((P0_1_ k_ ∨ P1_1_ k_) ∨ w.heap.size ≤ k_) ∧ some k_ ≠ (s_.2.1 : Value).ownBlock ∧ some k_ ≠ (s_.2.2.1 : Value).ownBlock ∧ k_ ≠ gb697 ∧ k_ ≠ gb698 ∧ k_ ≠ s_.2.2.2) s_.1 y700) ∧ (Kd.R k85 85 w' w.heap.size (fun k_ => (w.heap.size ≤ k_) ∧ some k_ ≠ (s_.2.2.1 : Value).ownBlock) s_.2.1 t704) ∧ (Kd.R k85 85 w' w.heap.size (fun k_ => (w.heap.size ≤ k_) ∧ some k_ ≠ (s_.2.1 : Value).ownBlock) s_.2.2.1 t708) ∧ (w'.heap[gb697]? = some (.cells #[.string a0_0, .slice A0_1 l0_1.length c0_1] 24 (0, 0))) ∧ (w'.heap[gb698]? = some (.cells #[.string a1_0, .slice A1_1 l1_1.length c1_1] 24 (0, 0))) ∧ (w'.heap[s_.2.2.2]? = some (.cells #[.string (⟨#[]⟩ : ByteArray), .slice none 0 0] 24 (0, 0))) ∧ (w.heap.size ≤ s_.2.2.2) ∧ (w.heap.size ≤ s_.2.2.2) ∧ (gb697 ≠ s_.2.2.2) ∧ (s_.2.2.2 ≠ gb697) ∧ (gb698 ≠ s_.2.2.2) ∧ (s_.2.2.2 ≠ gb698) ∧ (Below w.heap.size w w')) ?_ ?_
    ·
     ·
      skip
      rintro ⟨v701, v705, v709, gb715⟩ w27 ⟨hS_, h0_, h1_, h2_, h3_, h4_, h5_, h6_, h7_, h8_, h9_, h10_, h11_, h12_, h13_, h14_⟩
      dsimp only at hS_ h0_ h1_ h2_ h3_ h4_ h5_ h6_ h7_ h8_ h9_ h10_ h11_ h12_ h13_ h14_
      have n0_ := Aside0.mk h0_
      have n1_ := Aside0.mk h1_
      have n2_ := Aside0.mk h2_
      have n3_ := Aside0.mk h3_
      have n4_ := Aside0.mk h4_
      have n5_ := Aside0.mk h5_
      have n6_ := Aside0.mk h6_
      have n7_ := Aside0.mk h7_
      have n8_ := Aside0.mk h8_
      have n9_ := Aside0.mk h9_
      have n10_ := Aside0.mk h10_
      have n11_ := Aside0.mk h11_
      have n12_ := Aside0.mk h12_
      have n13_ := Aside0.mk h13_
      have n14_ := Aside0.mk h14_
      clear HO0_1
      clear HO1_1
      clear BK697
      clear BK698
      clear HB
      clear h0_ h1_ h2_ h3_ h4_ h5_ h6_ h7_ h8_ h9_ h10_ h11_ h12_ h13_ h14_
      have HO0_1 := n0_
      have HO1_1 := n1_
      have HO702 := n2_
      have HO706 := n3_
      have HO710 := n4_
      have BK697 := n5_
      have BK698 := n6_
      have BK715 := n7_
      have GW715 := n8_
      have GE715 := n9_
      have NB697_715 := n10_
      have NB715_697 := n11_
      have NB698_715 := n12_
      have NB715_698 := n13_
      have HB := n14_
      clear n0_ n1_ n2_ n3_ n4_ n5_ n6_ n7_ n8_ n9_ n10_ n11_ n12_ n13_ n14_
      have hHeld := hS_
      refine norm_ (a' := ?_) ?_ ?_
      rotate_left
      ·
       simp only [putAll, Act.put, List.setIfInBounds_toArray, List.set_cons_zero, List.set_cons_succ]
       rfl
      refine two_ (i := 6) (j := 8) (Ni := some 15) (Nj := some 6) #[true, true, true, true, true, true, true, true, false, false, false] #[true, true, true, true, true, true, false, true, true, false, false] rfl rfl rfl rfl (two_of HT_.out (by kernel_rfl)) (by decide) (by decide) (fun K hK => ?_) (fun K hK => ?_)
      ·
       skip
       refine goes_ Try.func39 (by kernel_rfl) rfl #[.agg #[.string a0_0, .slice A0_1 l0_1.length c0_1]] (by rfl) rfl rfl (by (try simp only [List.map_toArray, List.map_cons, List.map_nil]); first | done | rfl | (simp only [List.length_drop, List.length_take]; rfl)) ?_
       with_reducible refine (percent_Decode.calls k a0_0 _ _ l0_1 t711 t712 _ ?side1 ?side2 A7.out).mono ?_
       (case side1 => repeat (first | exact (Kd.V_reads' HO0_1.out).2.2 | (with_reducible refine Kd.C_alloc ?_ _) | (with_reducible refine Kd.C_drewN ?_ _) | (with_reducible refine Kd.C_drew ?_)))
       (case side2 => exact (Kd.V_reads' HO0_1.out).2.1)
       rintro e w28 ⟨v713, rfl, ho0, hb⟩
       refine ⟨_, rfl, ?_⟩
       have n0_ := Aside0.mk (Kd.V_elder' (Kd.V_go HO0_1.out) (Kd.R_base ho0) hb)
       have n1_ := Aside0.mk (Kd.V_elder' (Kd.V_go HO1_1.out) (Kd.R_base ho0) hb)
       have n2_ := Aside0.mk (Kd.N_elder' (Kd.N_go HO702.out) (Kd.R_base ho0) hb)
       have n3_ := Aside0.mk (Kd.R_elder' (Kd.R_go HO706.out) (Kd.R_base ho0) hb)
       have n4_ := Aside0.mk (Kd.R_elder' (Kd.R_go HO710.out) (Kd.R_base ho0) hb)
       have n5_ := Aside0.mk (Kd.R_lower (Kd.R_new' (Kd.R_new' (Kd.R_newM (M := fun k_ => (w.heap.size ≤ k_)) ho0 (below_size (below_go HB.out)) (fun k_ h_ => h_)) (Kd.R_lt (Kd.R_go HO706.out))) (Kd.R_lt (Kd.R_go HO710.out))) (below_size (below_go HB.out)))
       have n6_ := Aside0.mk (blk_below (blk_go BK697.out) hb)
       have n7_ := Aside0.mk (blk_below (blk_go BK698.out) hb)
       have n8_ := Aside0.mk (blk_below (blk_go BK715.out) hb)
       have n9_ := Aside0.mk (below_step (below_go HB.out) hb)
       clear HO0_1
       clear HO1_1
       clear HO702
       clear HO706
       clear HO710
       clear BK697
       clear BK698
       clear BK715
       clear HB
       have HO0_1 := n0_
       have HO1_1 := n1_
       have HO702 := n2_
       have HO706 := n3_
       have HO710 := n4_
       have HO714 := n5_
       have BK697 := n6_
       have BK698 := n7_
       have BK715 := n8_
       have HB := n9_
       clear n0_ n1_ n2_ n3_ n4_ n5_ n6_ n7_ n8_ n9_
       (try clear hb)
       (try clear hb2)
       (try clear hk)
       (try clear hi)
       (try clear ho0)
       refine hK.out _ _ ⟨(blk_cell BK697.out 0).trans rfl, (blk_cell BK697.out 1).trans rfl, (blk_cell BK698.out 0).trans rfl, (blk_cell BK698.out 1).trans rfl⟩ (fun hHeld => ?_)
       clear hK K
       refine norm_ (a' := ?_) ?_ ?_
       rotate_left
       ·
        show Act.put _ (some 15) _ = _
        simp only [Act.put, List.setIfInBounds_toArray, List.set_cons_zero, List.set_cons_succ, i64_w, i32_w]
        rfl
       exact norm_ (by simp only [putAll, Act.put, List.setIfInBounds_toArray, List.set_cons_zero, List.set_cons_succ]; try rfl) (hJ2_3_4_6_7 (v701, v705, v709, v713, gb715) _ ⟨hHeld, (Kd.V_go (Kd.V_mono HO0_1.out (fun _ hk => ⟨hk.1.1, ⟨hk.1.2.1, ⟨hk.1.2.2.1, ⟨hk.1.2.2.2.1, ⟨hk.2, ⟨hk.1.2.2.2.2.1, ⟨hk.1.2.2.2.2.2.1, hk.1.2.2.2.2.2.2⟩⟩⟩⟩⟩⟩⟩))), (Kd.V_go (Kd.V_mono HO1_1.out (fun _ hk => ⟨hk.1.1, ⟨hk.1.2.1, ⟨hk.1.2.2.1, ⟨hk.1.2.2.2.1, ⟨hk.2, ⟨hk.1.2.2.2.2.1, ⟨hk.1.2.2.2.2.2.1, hk.1.2.2.2.2.2.2⟩⟩⟩⟩⟩⟩⟩))), (Kd.N_go (Kd.N_mono HO702.out (fun _ hk => ⟨hk.1.1, ⟨hk.1.2.1, ⟨hk.1.2.2.1, ⟨hk.2, ⟨hk.1.2.2.2.1, ⟨hk.1.2.2.2.2.1, hk.1.2.2.2.2.2⟩⟩⟩⟩⟩⟩))), (Kd.R_go (Kd.R_mono HO706.out (fun _ hk => ⟨hk.1.1, ⟨hk.1.2, hk.2⟩⟩))), (Kd.R_go (Kd.R_mono HO710.out (fun _ hk => ⟨hk.1.1, ⟨hk.1.2, hk.2⟩⟩))), (Kd.R_go (Kd.R_mono HO714.out (fun _ hk => ⟨hk.1.1.1, ⟨hk.1.2, hk.2⟩⟩))), (blk_go BK697.out), (blk_go BK698.out), (blk_go BK715.out), GW715.out, GE715.out, NB697_715.out, NB715_697.out, NB698_715.out, NB715_698.out, (below_go HB.out)⟩)
      ·
       skip
       refine box_step ?hg (N := 6) ?hd (cs := #[.string (⟨#[]⟩ : ByteArray), .slice none 0 0]) (t := 24) ?hr ?_; (case hd => rfl); (case hg => rfl); (case hr => first | (go_simp; done) | (go_simp; rfl))
       intro gb716 hg w28 hbox hb
       have n0_ := Aside0.mk (Kd.V_below (Kd.V_elderB (Kd.V_go HO0_1.out) gb716 (Nat.le_of_eq hg.symm)) hb)
       have n1_ := Aside0.mk (Kd.V_below (Kd.V_elderB (Kd.V_go HO1_1.out) gb716 (Nat.le_of_eq hg.symm)) hb)
       have n2_ := Aside0.mk (Kd.N_below (Kd.N_elderB (Kd.N_go HO702.out) gb716 (Nat.le_of_eq hg.symm)) hb)
       have n3_ := Aside0.mk (Kd.R_below (Kd.R_go HO706.out) hb)
       have n4_ := Aside0.mk (Kd.R_below (Kd.R_go HO710.out) hb)
       have n5_ := Aside0.mk (blk_below (blk_go BK697.out) hb)
       have n6_ := Aside0.mk (blk_below (blk_go BK698.out) hb)
       have n7_ := Aside0.mk (blk_below (blk_go BK715.out) hb)
       have n8_ := Aside0.mk (below_step (below_go HB.out) hb)
       have n9_ := Aside0.mk (hbox)
       have n10_ := Aside0.mk ((by rw [hg]; exact (below_size (below_go HB.out)) : w.heap.size ≤ gb716))
       have n11_ := Aside0.mk ((by rw [hg]; exact (below_size (below_go HB.out)) : w.heap.size ≤ gb716))
       have n12_ := Aside0.mk ((by rw [hg]; exact Nat.ne_of_lt (blk_lt (g := gb697) (o := .cells #[.string a0_0, .slice A0_1 l0_1.length c0_1] 24 (0, 0)) (blk_go BK697.out)) : gb697 ≠ gb716))
       have n13_ := Aside0.mk (blk_apart hg (blk_go BK697.out) : gb716 ≠ gb697)
       have n14_ := Aside0.mk ((by rw [hg]; exact Nat.ne_of_lt (blk_lt (g := gb698) (o := .cells #[.string a1_0, .slice A1_1 l1_1.length c1_1] 24 (0, 0)) (blk_go BK698.out)) : gb698 ≠ gb716))
       have n15_ := Aside0.mk (blk_apart hg (blk_go BK698.out) : gb716 ≠ gb698)
       have n16_ := Aside0.mk ((by rw [hg]; exact Nat.ne_of_lt (blk_lt (g := gb715) (o := .cells #[.string (⟨#[]⟩ : ByteArray), .slice none 0 0] 24 (0, 0)) (blk_go BK715.out)) : gb715 ≠ gb716))
       have n17_ := Aside0.mk (blk_apart hg (blk_go BK715.out) : gb716 ≠ gb715)
       clear HO0_1
       clear HO1_1
       clear HO702
       clear HO706
       clear HO710
       clear BK697
       clear BK698
       clear BK715
       clear HB
       have HO0_1 := n0_
       have HO1_1 := n1_
       have HO702 := n2_
       have HO706 := n3_
       have HO710 := n4_
       have BK697 := n5_
       have BK698 := n6_
       have BK715 := n7_
       have HB := n8_
       have BK716 := n9_
       have GW716 := n10_
       have GE716 := n11_
       have NB697_716 := n12_
       have NB716_697 := n13_
       have NB698_716 := n14_
       have NB716_698 := n15_
       have NB715_716 := n16_
       have NB716_715 := n17_
       clear n0_ n1_ n2_ n3_ n4_ n5_ n6_ n7_ n8_ n9_ n10_ n11_ n12_ n13_ n14_ n15_ n16_ n17_
       clear hb hbox hg
       refine hK.out _ _ ⟨(blk_cell BK697.out 0).trans rfl, (blk_cell BK697.out 1).trans rfl, (blk_cell BK698.out 0).trans rfl, (blk_cell BK698.out 1).trans rfl⟩ (fun hHeld => ?_)
       clear hK K
       refine norm_ (a' := ?_) ?_ ?_
       rotate_left
       ·
        show Act.put _ (some 6) _ = _
        simp only [Act.put, List.setIfInBounds_toArray, List.set_cons_zero, List.set_cons_succ, i64_w, i32_w]
        rfl
       exact norm_ (by simp only [putAll, Act.put, List.setIfInBounds_toArray, List.set_cons_zero, List.set_cons_succ]; try rfl) (hJ2_3_4_7_8 (v701, v705, v709, gb715, gb716) _ ⟨hHeld, (Kd.V_go (Kd.V_mono HO0_1.out (fun _ hk => ⟨hk.1.1, ⟨hk.1.2.1, ⟨hk.1.2.2.1, ⟨hk.1.2.2.2.1, ⟨hk.1.2.2.2.2.1, ⟨hk.1.2.2.2.2.2.1, ⟨hk.1.2.2.2.2.2.2, hk.2⟩⟩⟩⟩⟩⟩⟩))), (Kd.V_go (Kd.V_mono HO1_1.out (fun _ hk => ⟨hk.1.1, ⟨hk.1.2.1, ⟨hk.1.2.2.1, ⟨hk.1.2.2.2.1, ⟨hk.1.2.2.2.2.1, ⟨hk.1.2.2.2.2.2.1, ⟨hk.1.2.2.2.2.2.2, hk.2⟩⟩⟩⟩⟩⟩⟩))), (Kd.N_go (Kd.N_mono HO702.out (fun _ hk => ⟨hk.1.1, ⟨hk.1.2.1, ⟨hk.1.2.2.1, ⟨hk.1.2.2.2.1, ⟨hk.1.2.2.2.2.1, ⟨hk.1.2.2.2.2.2, hk.2⟩⟩⟩⟩⟩⟩))), (Kd.R_go HO706.out), (Kd.R_go HO710.out), (blk_go BK697.out), (blk_go BK698.out), (blk_go BK715.out), (blk_go BK716.out), GW715.out, GE715.out, NB697_715.out, NB715_697.out, NB698_715.out, NB715_698.out, NB716_715.out, NB715_716.out, GW716.out, GE716.out, NB697_716.out, NB716_697.out, NB698_716.out, NB716_698.out, (below_go HB.out)⟩)
    intro hJ2_3_4_7
    refine join_ (σ := Value × Value × Value × Nat) 4 #[true, true, true, true, true, true, false, false, true, false, false] (fun s_ => [(11, s_.1), (12, .agg #[.string t703, s_.2.1]), (13, .agg #[.string t707, s_.2.2.1]), (6, .pointer (some ⟨s_.2.2.2, 0, none⟩))]) (fun s_ w' => (w'.cell? ⟨gb697, 0, none⟩ = some (.string a0_0) ∧ w'.cell? ⟨gb697, 1, none⟩ = some (.slice A0_1 l0_1.length c0_1) ∧ w'.cell? ⟨gb698, 0, none⟩ = some (.string a1_0) ∧ w'.cell? ⟨gb698, 1, none⟩ = some (.slice A1_1 l1_1.length c1_1)) ∧ (Kd.V k85 85 w' w.heap.size (fun k_ => ((P0_1_ k_ ∨ P1_1_ k_) ∨ w.heap.size ≤ k_) ∧ some k_ ≠ (s_.1 : Value).ownBlock ∧ some k_ ≠ (s_.2.1 : Value).ownBlock ∧ some k_ ≠ (s_.2.2.1 : Value).ownBlock ∧ k_ ≠ gb697 ∧ k_ ≠ gb698 ∧ k_ ≠ s_.2.2.2) (.slice A0_1 l0_1.length c0_1) l0_1) ∧ (Kd.V k85 85 w' w.heap.size (fun k_ => ((P0_1_ k_ ∨ P1_1_ k_) ∨ w.heap.size ≤ k_) ∧ some k_ ≠ (s_.1 : Value).ownBlock ∧ some k_ ≠ (s_.2.1 : Value).ownBlock ∧ some k_ ≠ (s_.2.2.1 : Value).ownBlock ∧ k_ ≠ gb697 ∧ k_ ≠ gb698 ∧ k_ ≠ s_.2.2.2) (.slice A1_1 l1_1.length c1_1) l1_1) ∧ (Kd.N k24 24 w' w.heap.size (fun k_ => ((P0_1_ k_ ∨ P1_1_ k_) ∨ w.heap.size ≤ k_) ∧ some k_ ≠ (s_.2.1 : Value).ownBlock ∧ some k_ ≠ (s_.2.2.1 : Value).ownBlock ∧ k_ ≠ gb697 ∧ k_ ≠ gb698 ∧ k_ ≠ s_.2.2.2) s_.1 y700) ∧ (Kd.R k85 85 w' w.heap.size (fun k_ => (w.heap.size ≤ k_) ∧ some k_ ≠ (s_.2.2.1 : Value).ownBlock) s_.2.1 t704) ∧ (Kd.R k85 85 w' w.heap.size (fun k_ => (w.heap.size ≤ k_) ∧ some k_ ≠ (s_.2.1 : Value).ownBlock) s_.2.2.1 t708) ∧ (w'.heap[gb697]? = some (.cells #[.string a0_0, .slice A0_1 l0_1.length c0_1] 24 (0, 0))) ∧ (w'.heap[gb698]? = some (.cells #[.string a1_0, .slice A1_1 l1_1.length c1_1] 24 (0, 0))) ∧ (w'.heap[s_.2.2.2]? = some (.cells #[.string (⟨#[]⟩ : ByteArray), .slice none 0 0] 24 (0, 0))) ∧ (w.heap.size ≤ s_.2.2.2) ∧ (w.heap.size ≤ s_.2.2.2) ∧ (gb697 ≠ s_.2.2.2) ∧ (s_.2.2.2 ≠ gb697) ∧ (gb698 ≠ s_.2.2.2) ∧ (s_.2.2.2 ≠ gb698) ∧ (Below w.heap.size w w')) ?_ ?_
    ·
     ·
      skip
      rintro ⟨v701, v705, v709, gb716⟩ w27 ⟨hS_, h0_, h1_, h2_, h3_, h4_, h5_, h6_, h7_, h8_, h9_, h10_, h11_, h12_, h13_, h14_⟩
      dsimp only at hS_ h0_ h1_ h2_ h3_ h4_ h5_ h6_ h7_ h8_ h9_ h10_ h11_ h12_ h13_ h14_
      have n0_ := Aside0.mk h0_
      have n1_ := Aside0.mk h1_
      have n2_ := Aside0.mk h2_
      have n3_ := Aside0.mk h3_
      have n4_ := Aside0.mk h4_
      have n5_ := Aside0.mk h5_
      have n6_ := Aside0.mk h6_
      have n7_ := Aside0.mk h7_
      have n8_ := Aside0.mk h8_
      have n9_ := Aside0.mk h9_
      have n10_ := Aside0.mk h10_
      have n11_ := Aside0.mk h11_
      have n12_ := Aside0.mk h12_
      have n13_ := Aside0.mk h13_
      have n14_ := Aside0.mk h14_
      clear HO0_1
      clear HO1_1
      clear BK697
      clear BK698
      clear HB
      clear h0_ h1_ h2_ h3_ h4_ h5_ h6_ h7_ h8_ h9_ h10_ h11_ h12_ h13_ h14_
      have HO0_1 := n0_
      have HO1_1 := n1_
      have HO702 := n2_
      have HO706 := n3_
      have HO710 := n4_
      have BK697 := n5_
      have BK698 := n6_
      have BK716 := n7_
      have GW716 := n8_
      have GE716 := n9_
      have NB697_716 := n10_
      have NB716_697 := n11_
      have NB698_716 := n12_
      have NB716_698 := n13_
      have HB := n14_
      clear n0_ n1_ n2_ n3_ n4_ n5_ n6_ n7_ n8_ n9_ n10_ n11_ n12_ n13_ n14_
      have hHeld := hS_
      refine norm_ (a' := ?_) ?_ ?_
      rotate_left
      ·
       simp only [putAll, Act.put, List.setIfInBounds_toArray, List.set_cons_zero, List.set_cons_succ]
       rfl
      refine two_ (i := 6) (j := 7) (Ni := some 15) (Nj := some 5) #[true, true, true, true, true, true, true, false, true, false, false] #[true, true, true, true, true, true, false, true, true, false, false] rfl rfl rfl rfl (two_of HT_.out (by kernel_rfl)) (by decide) (by decide) (fun K hK => ?_) (fun K hK => ?_)
      ·
       skip
       refine goes_ Try.func39 (by kernel_rfl) rfl #[.agg #[.string a0_0, .slice A0_1 l0_1.length c0_1]] (by rfl) rfl rfl (by (try simp only [List.map_toArray, List.map_cons, List.map_nil]); first | done | rfl | (simp only [List.length_drop, List.length_take]; rfl)) ?_
       with_reducible refine (percent_Decode.calls k a0_0 _ _ l0_1 t711 t712 _ ?side1 ?side2 A7.out).mono ?_
       (case side1 => repeat (first | exact (Kd.V_reads' HO0_1.out).2.2 | (with_reducible refine Kd.C_alloc ?_ _) | (with_reducible refine Kd.C_drewN ?_ _) | (with_reducible refine Kd.C_drew ?_)))
       (case side2 => exact (Kd.V_reads' HO0_1.out).2.1)
       rintro e w28 ⟨v713, rfl, ho0, hb⟩
       refine ⟨_, rfl, ?_⟩
       have n0_ := Aside0.mk (Kd.V_elder' (Kd.V_go HO0_1.out) (Kd.R_base ho0) hb)
       have n1_ := Aside0.mk (Kd.V_elder' (Kd.V_go HO1_1.out) (Kd.R_base ho0) hb)
       have n2_ := Aside0.mk (Kd.N_elder' (Kd.N_go HO702.out) (Kd.R_base ho0) hb)
       have n3_ := Aside0.mk (Kd.R_elder' (Kd.R_go HO706.out) (Kd.R_base ho0) hb)
       have n4_ := Aside0.mk (Kd.R_elder' (Kd.R_go HO710.out) (Kd.R_base ho0) hb)
       have n5_ := Aside0.mk (Kd.R_lower (Kd.R_new' (Kd.R_new' (Kd.R_newM (M := fun k_ => (w.heap.size ≤ k_)) ho0 (below_size (below_go HB.out)) (fun k_ h_ => h_)) (Kd.R_lt (Kd.R_go HO706.out))) (Kd.R_lt (Kd.R_go HO710.out))) (below_size (below_go HB.out)))
       have n6_ := Aside0.mk (blk_below (blk_go BK697.out) hb)
       have n7_ := Aside0.mk (blk_below (blk_go BK698.out) hb)
       have n8_ := Aside0.mk (blk_below (blk_go BK716.out) hb)
       have n9_ := Aside0.mk (below_step (below_go HB.out) hb)
       clear HO0_1
       clear HO1_1
       clear HO702
       clear HO706
       clear HO710
       clear BK697
       clear BK698
       clear BK716
       clear HB
       have HO0_1 := n0_
       have HO1_1 := n1_
       have HO702 := n2_
       have HO706 := n3_
       have HO710 := n4_
       have HO714 := n5_
       have BK697 := n6_
       have BK698 := n7_
       have BK716 := n8_
       have HB := n9_
       clear n0_ n1_ n2_ n3_ n4_ n5_ n6_ n7_ n8_ n9_
       (try clear hb)
       (try clear hb2)
       (try clear hk)
       (try clear hi)
       (try clear ho0)
       refine hK.out _ _ ⟨(blk_cell BK697.out 0).trans rfl, (blk_cell BK697.out 1).trans rfl, (blk_cell BK698.out 0).trans rfl, (blk_cell BK698.out 1).trans rfl⟩ (fun hHeld => ?_)
       clear hK K
       refine norm_ (a' := ?_) ?_ ?_
       rotate_left
       ·
        show Act.put _ (some 15) _ = _
        simp only [Act.put, List.setIfInBounds_toArray, List.set_cons_zero, List.set_cons_succ, i64_w, i32_w]
        rfl
       exact norm_ (by simp only [putAll, Act.put, List.setIfInBounds_toArray, List.set_cons_zero, List.set_cons_succ]; try rfl) (hJ2_3_4_6_8 (v701, v705, v709, v713, gb716) _ ⟨hHeld, (Kd.V_go (Kd.V_mono HO0_1.out (fun _ hk => ⟨hk.1.1, ⟨hk.1.2.1, ⟨hk.1.2.2.1, ⟨hk.1.2.2.2.1, ⟨hk.2, ⟨hk.1.2.2.2.2.1, ⟨hk.1.2.2.2.2.2.1, hk.1.2.2.2.2.2.2⟩⟩⟩⟩⟩⟩⟩))), (Kd.V_go (Kd.V_mono HO1_1.out (fun _ hk => ⟨hk.1.1, ⟨hk.1.2.1, ⟨hk.1.2.2.1, ⟨hk.1.2.2.2.1, ⟨hk.2, ⟨hk.1.2.2.2.2.1, ⟨hk.1.2.2.2.2.2.1, hk.1.2.2.2.2.2.2⟩⟩⟩⟩⟩⟩⟩))), (Kd.N_go (Kd.N_mono HO702.out (fun _ hk => ⟨hk.1.1, ⟨hk.1.2.1, ⟨hk.1.2.2.1, ⟨hk.2, ⟨hk.1.2.2.2.1, ⟨hk.1.2.2.2.2.1, hk.1.2.2.2.2.2⟩⟩⟩⟩⟩⟩))), (Kd.R_go (Kd.R_mono HO706.out (fun _ hk => ⟨hk.1.1, ⟨hk.1.2, hk.2⟩⟩))), (Kd.R_go (Kd.R_mono HO710.out (fun _ hk => ⟨hk.1.1, ⟨hk.1.2, hk.2⟩⟩))), (Kd.R_go (Kd.R_mono HO714.out (fun _ hk => ⟨hk.1.1.1, ⟨hk.1.2, hk.2⟩⟩))), (blk_go BK697.out), (blk_go BK698.out), (blk_go BK716.out), GW716.out, GE716.out, NB697_716.out, NB716_697.out, NB698_716.out, NB716_698.out, (below_go HB.out)⟩)
      ·
       skip
       refine box_step ?hg (N := 5) ?hd (cs := #[.string (⟨#[]⟩ : ByteArray), .slice none 0 0]) (t := 24) ?hr ?_; (case hd => rfl); (case hg => rfl); (case hr => first | (go_simp; done) | (go_simp; rfl))
       intro gb715 hg w28 hbox hb
       have n0_ := Aside0.mk (Kd.V_below (Kd.V_elderB (Kd.V_go HO0_1.out) gb715 (Nat.le_of_eq hg.symm)) hb)
       have n1_ := Aside0.mk (Kd.V_below (Kd.V_elderB (Kd.V_go HO1_1.out) gb715 (Nat.le_of_eq hg.symm)) hb)
       have n2_ := Aside0.mk (Kd.N_below (Kd.N_elderB (Kd.N_go HO702.out) gb715 (Nat.le_of_eq hg.symm)) hb)
       have n3_ := Aside0.mk (Kd.R_below (Kd.R_go HO706.out) hb)
       have n4_ := Aside0.mk (Kd.R_below (Kd.R_go HO710.out) hb)
       have n5_ := Aside0.mk (blk_below (blk_go BK697.out) hb)
       have n6_ := Aside0.mk (blk_below (blk_go BK698.out) hb)
       have n7_ := Aside0.mk (blk_below (blk_go BK716.out) hb)
       have n8_ := Aside0.mk (below_step (below_go HB.out) hb)
       have n9_ := Aside0.mk (hbox)
       have n10_ := Aside0.mk ((by rw [hg]; exact (below_size (below_go HB.out)) : w.heap.size ≤ gb715))
       have n11_ := Aside0.mk ((by rw [hg]; exact (below_size (below_go HB.out)) : w.heap.size ≤ gb715))
       have n12_ := Aside0.mk ((by rw [hg]; exact Nat.ne_of_lt (blk_lt (g := gb697) (o := .cells #[.string a0_0, .slice A0_1 l0_1.length c0_1] 24 (0, 0)) (blk_go BK697.out)) : gb697 ≠ gb715))
       have n13_ := Aside0.mk (blk_apart hg (blk_go BK697.out) : gb715 ≠ gb697)
       have n14_ := Aside0.mk ((by rw [hg]; exact Nat.ne_of_lt (blk_lt (g := gb698) (o := .cells #[.string a1_0, .slice A1_1 l1_1.length c1_1] 24 (0, 0)) (blk_go BK698.out)) : gb698 ≠ gb715))
       have n15_ := Aside0.mk (blk_apart hg (blk_go BK698.out) : gb715 ≠ gb698)
       have n16_ := Aside0.mk ((by rw [hg]; exact Nat.ne_of_lt (blk_lt (g := gb716) (o := .cells #[.string (⟨#[]⟩ : ByteArray), .slice none 0 0] 24 (0, 0)) (blk_go BK716.out)) : gb716 ≠ gb715))
       have n17_ := Aside0.mk (blk_apart hg (blk_go BK716.out) : gb715 ≠ gb716)
       clear HO0_1
       clear HO1_1
       clear HO702
       clear HO706
       clear HO710
       clear BK697
       clear BK698
       clear BK716
       clear HB
       have HO0_1 := n0_
       have HO1_1 := n1_
       have HO702 := n2_
       have HO706 := n3_
       have HO710 := n4_
       have BK697 := n5_
       have BK698 := n6_
       have BK716 := n7_
       have HB := n8_
       have BK715 := n9_
       have GW715 := n10_
       have GE715 := n11_
       have NB697_715 := n12_
       have NB715_697 := n13_
       have NB698_715 := n14_
       have NB715_698 := n15_
       have NB716_715 := n16_
       have NB715_716 := n17_
       clear n0_ n1_ n2_ n3_ n4_ n5_ n6_ n7_ n8_ n9_ n10_ n11_ n12_ n13_ n14_ n15_ n16_ n17_
       clear hb hbox hg
       refine hK.out _ _ ⟨(blk_cell BK697.out 0).trans rfl, (blk_cell BK697.out 1).trans rfl, (blk_cell BK698.out 0).trans rfl, (blk_cell BK698.out 1).trans rfl⟩ (fun hHeld => ?_)
       clear hK K
       refine norm_ (a' := ?_) ?_ ?_
       rotate_left
       ·
        show Act.put _ (some 5) _ = _
        simp only [Act.put, List.setIfInBounds_toArray, List.set_cons_zero, List.set_cons_succ, i64_w, i32_w]
        rfl
       exact norm_ (by simp only [putAll, Act.put, List.setIfInBounds_toArray, List.set_cons_zero, List.set_cons_succ]; try rfl) (hJ2_3_4_7_8 (v701, v705, v709, gb715, gb716) _ ⟨hHeld, (Kd.V_go (Kd.V_mono HO0_1.out (fun _ hk => ⟨hk.1.1, ⟨hk.1.2.1, ⟨hk.1.2.2.1, ⟨hk.1.2.2.2.1, ⟨hk.1.2.2.2.2.1, ⟨hk.1.2.2.2.2.2.1, ⟨hk.2, hk.1.2.2.2.2.2.2⟩⟩⟩⟩⟩⟩⟩))), (Kd.V_go (Kd.V_mono HO1_1.out (fun _ hk => ⟨hk.1.1, ⟨hk.1.2.1, ⟨hk.1.2.2.1, ⟨hk.1.2.2.2.1, ⟨hk.1.2.2.2.2.1, ⟨hk.1.2.2.2.2.2.1, ⟨hk.2, hk.1.2.2.2.2.2.2⟩⟩⟩⟩⟩⟩⟩))), (Kd.N_go (Kd.N_mono HO702.out (fun _ hk => ⟨hk.1.1, ⟨hk.1.2.1, ⟨hk.1.2.2.1, ⟨hk.1.2.2.2.1, ⟨hk.1.2.2.2.2.1, ⟨hk.2, hk.1.2.2.2.2.2⟩⟩⟩⟩⟩⟩))), (Kd.R_go HO706.out), (Kd.R_go HO710.out), (blk_go BK697.out), (blk_go BK698.out), (blk_go BK715.out), (blk_go BK716.out), GW715.out, GE715.out, NB697_715.out, NB715_697.out, NB698_715.out, NB715_698.out, NB716_715.out, NB715_716.out, GW716.out, GE716.out, NB697_716.out, NB716_697.out, NB698_716.out, NB716_698.out, (below_go HB.out)⟩)
    intro hJ2_3_4_8
    refine join_ (σ := Value × Value × Nat × Nat) 4 #[true, true, true, true, false, true, false, true, true, false, false] (fun s_ => [(11, s_.1), (12, .agg #[.string t703, s_.2.1]), (5, .pointer (some ⟨s_.2.2.1, 0, none⟩)), (6, .pointer (some ⟨s_.2.2.2, 0, none⟩))]) (fun s_ w' => (w'.cell? ⟨gb697, 0, none⟩ = some (.string a0_0) ∧ w'.cell? ⟨gb697, 1, none⟩ = some (.slice A0_1 l0_1.length c0_1) ∧ w'.cell? ⟨gb698, 0, none⟩ = some (.string a1_0) ∧ w'.cell? ⟨gb698, 1, none⟩ = some (.slice A1_1 l1_1.length c1_1)) ∧ (Kd.V k85 85 w' w.heap.size (fun k_ => ((P0_1_ k_ ∨ P1_1_ k_) ∨ w.heap.size ≤ k_) ∧ some k_ ≠ (s_.1 : Value).ownBlock ∧ some k_ ≠ (s_.2.1 : Value).ownBlock ∧ k_ ≠ gb697 ∧ k_ ≠ gb698 ∧ k_ ≠ s_.2.2.1 ∧ k_ ≠ s_.2.2.2) (.slice A0_1 l0_1.length c0_1) l0_1) ∧ (Kd.V k85 85 w' w.heap.size (fun k_ => ((P0_1_ k_ ∨ P1_1_ k_) ∨ w.heap.size ≤ k_) ∧ some k_ ≠ (s_.1 : Value).ownBlock ∧ some k_ ≠ (s_.2.1 : Value).ownBlock ∧ k_ ≠ gb697 ∧ k_ ≠ gb698 ∧ k_ ≠ s_.2.2.1 ∧ k_ ≠ s_.2.2.2) (.slice A1_1 l1_1.length c1_1) l1_1) ∧ (Kd.N k24 24 w' w.heap.size (fun k_ => ((P0_1_ k_ ∨ P1_1_ k_) ∨ w.heap.size ≤ k_) ∧ some k_ ≠ (s_.2.1 : Value).ownBlock ∧ k_ ≠ gb697 ∧ k_ ≠ gb698 ∧ k_ ≠ s_.2.2.1 ∧ k_ ≠ s_.2.2.2) s_.1 y700) ∧ (Kd.R k85 85 w' w.heap.size (fun k_ => (w.heap.size ≤ k_)) s_.2.1 t704) ∧ (w'.heap[gb697]? = some (.cells #[.string a0_0, .slice A0_1 l0_1.length c0_1] 24 (0, 0))) ∧ (w'.heap[gb698]? = some (.cells #[.string a1_0, .slice A1_1 l1_1.length c1_1] 24 (0, 0))) ∧ (w'.heap[s_.2.2.1]? = some (.cells #[.string (⟨#[]⟩ : ByteArray), .slice none 0 0] 24 (0, 0))) ∧ (w'.heap[s_.2.2.2]? = some (.cells #[.string (⟨#[]⟩ : ByteArray), .slice none 0 0] 24 (0, 0))) ∧ (w.heap.size ≤ s_.2.2.1) ∧ (w.heap.size ≤ s_.2.2.1) ∧ (gb697 ≠ s_.2.2.1) ∧ (s_.2.2.1 ≠ gb697) ∧ (gb698 ≠ s_.2.2.1) ∧ (s_.2.2.1 ≠ gb698) ∧ (s_.2.2.2 ≠ s_.2.2.1) ∧ (s_.2.2.1 ≠ s_.2.2.2) ∧ (w.heap.size ≤ s_.2.2.2) ∧ (w.heap.size ≤ s_.2.2.2) ∧ (gb697 ≠ s_.2.2.2) ∧ (s_.2.2.2 ≠ gb697) ∧ (gb698 ≠ s_.2.2.2) ∧ (s_.2.2.2 ≠ gb698) ∧ (Below w.heap.size w w')) ?_ ?_
    ·
     ·
      skip
      rintro ⟨v701, v705, gb715, gb716⟩ w26 ⟨hS_, h0_, h1_, h2_, h3_, h4_, h5_, h6_, h7_, h8_, h9_, h10_, h11_, h12_, h13_, h14_, h15_, h16_, h17_, h18_, h19_, h20_, h21_, h22_⟩
      dsimp only at hS_ h0_ h1_ h2_ h3_ h4_ h5_ h6_ h7_ h8_ h9_ h10_ h11_ h12_ h13_ h14_ h15_ h16_ h17_ h18_ h19_ h20_ h21_ h22_
      have n0_ := Aside0.mk h0_
      have n1_ := Aside0.mk h1_
      have n2_ := Aside0.mk h2_
      have n3_ := Aside0.mk h3_
      have n4_ := Aside0.mk h4_
      have n5_ := Aside0.mk h5_
      have n6_ := Aside0.mk h6_
      have n7_ := Aside0.mk h7_
      have n8_ := Aside0.mk h8_
      have n9_ := Aside0.mk h9_
      have n10_ := Aside0.mk h10_
      have n11_ := Aside0.mk h11_
      have n12_ := Aside0.mk h12_
      have n13_ := Aside0.mk h13_
      have n14_ := Aside0.mk h14_
      have n15_ := Aside0.mk h15_
      have n16_ := Aside0.mk h16_
      have n17_ := Aside0.mk h17_
      have n18_ := Aside0.mk h18_
      have n19_ := Aside0.mk h19_
      have n20_ := Aside0.mk h20_
      have n21_ := Aside0.mk h21_
      have n22_ := Aside0.mk h22_
      clear HO0_1
      clear HO1_1
      clear BK697
      clear BK698
      clear HB
      clear h0_ h1_ h2_ h3_ h4_ h5_ h6_ h7_ h8_ h9_ h10_ h11_ h12_ h13_ h14_ h15_ h16_ h17_ h18_ h19_ h20_ h21_ h22_
      have HO0_1 := n0_
      have HO1_1 := n1_
      have HO702 := n2_
      have HO706 := n3_
      have BK697 := n4_
      have BK698 := n5_
      have BK715 := n6_
      have BK716 := n7_
      have GW715 := n8_
      have GE715 := n9_
      have NB697_715 := n10_
      have NB715_697 := n11_
      have NB698_715 := n12_
      have NB715_698 := n13_
      have NB716_715 := n14_
      have NB715_716 := n15_
      have GW716 := n16_
      have GE716 := n17_
      have NB697_716 := n18_
      have NB716_697 := n19_
      have NB698_716 := n20_
      have NB716_698 := n21_
      have HB := n22_
      clear n0_ n1_ n2_ n3_ n4_ n5_ n6_ n7_ n8_ n9_ n10_ n11_ n12_ n13_ n14_ n15_ n16_ n17_ n18_ n19_ n20_ n21_ n22_
      have hHeld := hS_
      obtain ⟨Ao27, co27, eo27⟩ := Kd.R_slice HO706.out
      (first | subst eo27 | (injection eo27 with f1_ f2_ f3_; have f4_ := f1_.symm; have f5_ := f3_.symm; clear f1_ f2_ f3_; subst f4_; subst f5_))
      refine norm_ (a' := ?_) ?_ ?_
      rotate_left
      ·
       simp only [putAll, Act.put, List.setIfInBounds_toArray, List.set_cons_zero, List.set_cons_succ]
       rfl
      refine one_ (i := 4) (N := some 13) #[true, true, true, true, true, true, false, true, true, false, false] rfl rfl (one_of HT_.out (by kernel_rfl)) (by decide) (fun K hK => ?_)
      refine goes_ Try.func38 (by kernel_rfl) rfl #[.agg #[.string t703, .slice Ao27 t704.length co27]] (by rfl) rfl rfl (by (try simp only [List.map_toArray, List.map_cons, List.map_nil]); first | done | rfl | (simp only [List.length_drop, List.length_take]; rfl)) ?_
      with_reducible refine (percent_Encode.calls k t703 _ _ t704 t707 t708 _ ?side1 ?side2 A6.out).mono ?_
      (case side1 => repeat (first | exact (Kd.R_reads' HO706.out).2.2 | (with_reducible refine Kd.C_alloc ?_ _) | (with_reducible refine Kd.C_drewN ?_ _) | (with_reducible refine Kd.C_drew ?_)))
      (case side2 => exact (Kd.R_reads' HO706.out).2.1)
      rintro e w28 ⟨v709, rfl, ho0, hb⟩
      refine ⟨_, rfl, ?_⟩
      have n0_ := Aside0.mk (Kd.V_elder' (Kd.V_go HO0_1.out) (Kd.R_base ho0) hb)
      have n1_ := Aside0.mk (Kd.V_elder' (Kd.V_go HO1_1.out) (Kd.R_base ho0) hb)
      have n2_ := Aside0.mk (Kd.N_elder' (Kd.N_go HO702.out) (Kd.R_base ho0) hb)
      have n3_ := Aside0.mk (Kd.R_elder' (Kd.R_go HO706.out) (Kd.R_base ho0) hb)
      have n4_ := Aside0.mk (Kd.R_lower (Kd.R_new' (Kd.R_newM (M := fun k_ => (w.heap.size ≤ k_)) ho0 (below_size (below_go HB.out)) (fun k_ h_ => h_)) (Kd.R_lt (Kd.R_go HO706.out))) (below_size (below_go HB.out)))
      have n5_ := Aside0.mk (blk_below (blk_go BK697.out) hb)
      have n6_ := Aside0.mk (blk_below (blk_go BK698.out) hb)
      have n7_ := Aside0.mk (blk_below (blk_go BK715.out) hb)
      have n8_ := Aside0.mk (blk_below (blk_go BK716.out) hb)
      have n9_ := Aside0.mk (below_step (below_go HB.out) hb)
      clear HO0_1
      clear HO1_1
      clear HO702
      clear HO706
      clear BK697
      clear BK698
      clear BK715
      clear BK716
      clear HB
      have HO0_1 := n0_
      have HO1_1 := n1_
      have HO702 := n2_
      have HO706 := n3_
      have HO710 := n4_
      have BK697 := n5_
      have BK698 := n6_
      have BK715 := n7_
      have BK716 := n8_
      have HB := n9_
      clear n0_ n1_ n2_ n3_ n4_ n5_ n6_ n7_ n8_ n9_
      (try clear hb)
      (try clear hb2)
      (try clear hk)
      (try clear hi)
      (try clear ho0)
      refine hK.out _ _ ⟨(blk_cell BK697.out 0).trans rfl, (blk_cell BK697.out 1).trans rfl, (blk_cell BK698.out 0).trans rfl, (blk_cell BK698.out 1).trans rfl⟩ (fun hHeld => ?_)
      clear hK K
      refine norm_ (a' := ?_) ?_ ?_
      rotate_left
      ·
       show Act.put _ (some 13) _ = _
       simp only [Act.put, List.setIfInBounds_toArray, List.set_cons_zero, List.set_cons_succ, i64_w, i32_w]
       rfl
      exact norm_ (by simp only [putAll, Act.put, List.setIfInBounds_toArray, List.set_cons_zero, List.set_cons_succ]; try rfl) (hJ2_3_4_7_8 (v701, .slice Ao27 t704.length co27, v709, gb715, gb716) _ ⟨hHeld, (Kd.V_go (Kd.V_mono HO0_1.out (fun _ hk => ⟨hk.1.1, ⟨hk.1.2.1, ⟨hk.1.2.2.1, ⟨hk.2, ⟨hk.1.2.2.2.1, ⟨hk.1.2.2.2.2.1, ⟨hk.1.2.2.2.2.2.1, hk.1.2.2.2.2.2.2⟩⟩⟩⟩⟩⟩⟩))), (Kd.V_go (Kd.V_mono HO1_1.out (fun _ hk => ⟨hk.1.1, ⟨hk.1.2.1, ⟨hk.1.2.2.1, ⟨hk.2, ⟨hk.1.2.2.2.1, ⟨hk.1.2.2.2.2.1, ⟨hk.1.2.2.2.2.2.1, hk.1.2.2.2.2.2.2⟩⟩⟩⟩⟩⟩⟩))), (Kd.N_go (Kd.N_mono HO702.out (fun _ hk => ⟨hk.1.1, ⟨hk.1.2.1, ⟨hk.2, ⟨hk.1.2.2.1, ⟨hk.1.2.2.2.1, ⟨hk.1.2.2.2.2.1, hk.1.2.2.2.2.2⟩⟩⟩⟩⟩⟩))), (Kd.R_go HO706.out), (Kd.R_go (Kd.R_mono HO710.out (fun _ hk => ⟨hk.1.1, hk.2⟩))), (blk_go BK697.out), (blk_go BK698.out), (blk_go BK715.out), (blk_go BK716.out), GW715.out, GE715.out, NB697_715.out, NB715_697.out, NB698_715.out, NB715_698.out, NB716_715.out, NB715_716.out, GW716.out, GE716.out, NB697_716.out, NB716_697.out, NB698_716.out, NB716_698.out, (below_go HB.out)⟩)
    intro hJ2_3_7_8
    refine join_ (σ := Value × Value × Value) 5 #[true, true, true, true, true, true, false, false, false, false, false] (fun s_ => [(11, s_.1), (12, .agg #[.string t703, s_.2.1]), (13, .agg #[.string t707, s_.2.2])]) (fun s_ w' => (w'.cell? ⟨gb697, 0, none⟩ = some (.string a0_0) ∧ w'.cell? ⟨gb697, 1, none⟩ = some (.slice A0_1 l0_1.length c0_1) ∧ w'.cell? ⟨gb698, 0, none⟩ = some (.string a1_0) ∧ w'.cell? ⟨gb698, 1, none⟩ = some (.slice A1_1 l1_1.length c1_1)) ∧ (Kd.V k85 85 w' w.heap.size (fun k_ => ((P0_1_ k_ ∨ P1_1_ k_) ∨ w.heap.size ≤ k_) ∧ some k_ ≠ (s_.1 : Value).ownBlock ∧ some k_ ≠ (s_.2.1 : Value).ownBlock ∧ some k_ ≠ (s_.2.2 : Value).ownBlock ∧ k_ ≠ gb697 ∧ k_ ≠ gb698) (.slice A0_1 l0_1.length c0_1) l0_1) ∧ (Kd.V k85 85 w' w.heap.size (fun k_ => ((P0_1_ k_ ∨ P1_1_ k_) ∨ w.heap.size ≤ k_) ∧ some k_ ≠ (s_.1 : Value).ownBlock ∧ some k_ ≠ (s_.2.1 : Value).ownBlock ∧ some k_ ≠ (s_.2.2 : Value).ownBlock ∧ k_ ≠ gb697 ∧ k_ ≠ gb698) (.slice A1_1 l1_1.length c1_1) l1_1) ∧ (Kd.N k24 24 w' w.heap.size (fun k_ => ((P0_1_ k_ ∨ P1_1_ k_) ∨ w.heap.size ≤ k_) ∧ some k_ ≠ (s_.2.1 : Value).ownBlock ∧ some k_ ≠ (s_.2.2 : Value).ownBlock ∧ k_ ≠ gb697 ∧ k_ ≠ gb698) s_.1 y700) ∧ (Kd.R k85 85 w' w.heap.size (fun k_ => (w.heap.size ≤ k_) ∧ some k_ ≠ (s_.2.2 : Value).ownBlock) s_.2.1 t704) ∧ (Kd.R k85 85 w' w.heap.size (fun k_ => (w.heap.size ≤ k_) ∧ some k_ ≠ (s_.2.1 : Value).ownBlock) s_.2.2 t708) ∧ (w'.heap[gb697]? = some (.cells #[.string a0_0, .slice A0_1 l0_1.length c0_1] 24 (0, 0))) ∧ (w'.heap[gb698]? = some (.cells #[.string a1_0, .slice A1_1 l1_1.length c1_1] 24 (0, 0))) ∧ (Below w.heap.size w w')) ?_ ?_
    ·
     ·
      skip
      rintro ⟨v701, v705, v709⟩ w26 ⟨hS_, h0_, h1_, h2_, h3_, h4_, h5_, h6_, h7_⟩
      dsimp only at hS_ h0_ h1_ h2_ h3_ h4_ h5_ h6_ h7_
      have n0_ := Aside0.mk h0_
      have n1_ := Aside0.mk h1_
      have n2_ := Aside0.mk h2_
      have n3_ := Aside0.mk h3_
      have n4_ := Aside0.mk h4_
      have n5_ := Aside0.mk h5_
      have n6_ := Aside0.mk h6_
      have n7_ := Aside0.mk h7_
      clear HO0_1
      clear HO1_1
      clear BK697
      clear BK698
      clear HB
      clear h0_ h1_ h2_ h3_ h4_ h5_ h6_ h7_
      have HO0_1 := n0_
      have HO1_1 := n1_
      have HO702 := n2_
      have HO706 := n3_
      have HO710 := n4_
      have BK697 := n5_
      have BK698 := n6_
      have HB := n7_
      clear n0_ n1_ n2_ n3_ n4_ n5_ n6_ n7_
      have hHeld := hS_
      refine norm_ (a' := ?_) ?_ ?_
      rotate_left
      ·
       simp only [putAll, Act.put, List.setIfInBounds_toArray, List.set_cons_zero, List.set_cons_succ]
       rfl
      refine three_ (i := 6) (j := 7) (k := 8) (Ni := some 15) (Nj := some 5) (Nk := some 6) #[true, true, true, true, true, true, true, false, false, false, false] #[true, true, true, true, true, true, false, true, false, false, false] #[true, true, true, true, true, true, false, false, true, false, false] rfl rfl rfl rfl rfl rfl (three_of HT_.out (by kernel_rfl)) (by decide) (by decide) (by decide) (fun K hK => ?_) (fun K hK => ?_) (fun K hK => ?_)
      ·
       skip
       refine goes_ Try.func39 (by kernel_rfl) rfl #[.agg #[.string a0_0, .slice A0_1 l0_1.length c0_1]] (by rfl) rfl rfl (by (try simp only [List.map_toArray, List.map_cons, List.map_nil]); first | done | rfl | (simp only [List.length_drop, List.length_take]; rfl)) ?_
       with_reducible refine (percent_Decode.calls k a0_0 _ _ l0_1 t711 t712 _ ?side1 ?side2 A7.out).mono ?_
       (case side1 => repeat (first | exact (Kd.V_reads' HO0_1.out).2.2 | (with_reducible refine Kd.C_alloc ?_ _) | (with_reducible refine Kd.C_drewN ?_ _) | (with_reducible refine Kd.C_drew ?_)))
       (case side2 => exact (Kd.V_reads' HO0_1.out).2.1)
       rintro e w27 ⟨v713, rfl, ho0, hb⟩
       refine ⟨_, rfl, ?_⟩
       have n0_ := Aside0.mk (Kd.V_elder' (Kd.V_go HO0_1.out) (Kd.R_base ho0) hb)
       have n1_ := Aside0.mk (Kd.V_elder' (Kd.V_go HO1_1.out) (Kd.R_base ho0) hb)
       have n2_ := Aside0.mk (Kd.N_elder' (Kd.N_go HO702.out) (Kd.R_base ho0) hb)
       have n3_ := Aside0.mk (Kd.R_elder' (Kd.R_go HO706.out) (Kd.R_base ho0) hb)
       have n4_ := Aside0.mk (Kd.R_elder' (Kd.R_go HO710.out) (Kd.R_base ho0) hb)
       have n5_ := Aside0.mk (Kd.R_lower (Kd.R_new' (Kd.R_new' (Kd.R_newM (M := fun k_ => (w.heap.size ≤ k_)) ho0 (below_size (below_go HB.out)) (fun k_ h_ => h_)) (Kd.R_lt (Kd.R_go HO706.out))) (Kd.R_lt (Kd.R_go HO710.out))) (below_size (below_go HB.out)))
       have n6_ := Aside0.mk (blk_below (blk_go BK697.out) hb)
       have n7_ := Aside0.mk (blk_below (blk_go BK698.out) hb)
       have n8_ := Aside0.mk (below_step (below_go HB.out) hb)
       clear HO0_1
       clear HO1_1
       clear HO702
       clear HO706
       clear HO710
       clear BK697
       clear BK698
       clear HB
       have HO0_1 := n0_
       have HO1_1 := n1_
       have HO702 := n2_
       have HO706 := n3_
       have HO710 := n4_
       have HO714 := n5_
       have BK697 := n6_
       have BK698 := n7_
       have HB := n8_
       clear n0_ n1_ n2_ n3_ n4_ n5_ n6_ n7_ n8_
       (try clear hb)
       (try clear hb2)
       (try clear hk)
       (try clear hi)
       (try clear ho0)
       refine hK.out _ _ ⟨(blk_cell BK697.out 0).trans rfl, (blk_cell BK697.out 1).trans rfl, (blk_cell BK698.out 0).trans rfl, (blk_cell BK698.out 1).trans rfl⟩ (fun hHeld => ?_)
       clear hK K
       refine norm_ (a' := ?_) ?_ ?_
       rotate_left
       ·
        show Act.put _ (some 15) _ = _
        simp only [Act.put, List.setIfInBounds_toArray, List.set_cons_zero, List.set_cons_succ, i64_w, i32_w]
        rfl
       exact norm_ (by simp only [putAll, Act.put, List.setIfInBounds_toArray, List.set_cons_zero, List.set_cons_succ]; try rfl) (hJ2_3_4_6 (v701, v705, v709, v713) _ ⟨hHeld, (Kd.V_go (Kd.V_mono HO0_1.out (fun _ hk => ⟨hk.1.1, ⟨hk.1.2.1, ⟨hk.1.2.2.1, ⟨hk.1.2.2.2.1, ⟨hk.2, ⟨hk.1.2.2.2.2.1, hk.1.2.2.2.2.2⟩⟩⟩⟩⟩⟩))), (Kd.V_go (Kd.V_mono HO1_1.out (fun _ hk => ⟨hk.1.1, ⟨hk.1.2.1, ⟨hk.1.2.2.1, ⟨hk.1.2.2.2.1, ⟨hk.2, ⟨hk.1.2.2.2.2.1, hk.1.2.2.2.2.2⟩⟩⟩⟩⟩⟩))), (Kd.N_go (Kd.N_mono HO702.out (fun _ hk => ⟨hk.1.1, ⟨hk.1.2.1, ⟨hk.1.2.2.1, ⟨hk.2, ⟨hk.1.2.2.2.1, hk.1.2.2.2.2⟩⟩⟩⟩⟩))), (Kd.R_go (Kd.R_mono HO706.out (fun _ hk => ⟨hk.1.1, ⟨hk.1.2, hk.2⟩⟩))), (Kd.R_go (Kd.R_mono HO710.out (fun _ hk => ⟨hk.1.1, ⟨hk.1.2, hk.2⟩⟩))), (Kd.R_go (Kd.R_mono HO714.out (fun _ hk => ⟨hk.1.1.1, ⟨hk.1.2, hk.2⟩⟩))), (blk_go BK697.out), (blk_go BK698.out), (below_go HB.out)⟩)
      ·
       skip
       refine box_step ?hg (N := 5) ?hd (cs := #[.string (⟨#[]⟩ : ByteArray), .slice none 0 0]) (t := 24) ?hr ?_; (case hd => rfl); (case hg => rfl); (case hr => first | (go_simp; done) | (go_simp; rfl))
       intro gb715 hg w27 hbox hb
       have n0_ := Aside0.mk (Kd.V_below (Kd.V_elderB (Kd.V_go HO0_1.out) gb715 (Nat.le_of_eq hg.symm)) hb)
       have n1_ := Aside0.mk (Kd.V_below (Kd.V_elderB (Kd.V_go HO1_1.out) gb715 (Nat.le_of_eq hg.symm)) hb)
       have n2_ := Aside0.mk (Kd.N_below (Kd.N_elderB (Kd.N_go HO702.out) gb715 (Nat.le_of_eq hg.symm)) hb)
       have n3_ := Aside0.mk (Kd.R_below (Kd.R_go HO706.out) hb)
       have n4_ := Aside0.mk (Kd.R_below (Kd.R_go HO710.out) hb)
       have n5_ := Aside0.mk (blk_below (blk_go BK697.out) hb)
       have n6_ := Aside0.mk (blk_below (blk_go BK698.out) hb)
       have n7_ := Aside0.mk (below_step (below_go HB.out) hb)
       have n8_ := Aside0.mk (hbox)
       have n9_ := Aside0.mk ((by rw [hg]; exact (below_size (below_go HB.out)) : w.heap.size ≤ gb715))
       have n10_ := Aside0.mk ((by rw [hg]; exact (below_size (below_go HB.out)) : w.heap.size ≤ gb715))
       have n11_ := Aside0.mk ((by rw [hg]; exact Nat.ne_of_lt (blk_lt (g := gb697) (o := .cells #[.string a0_0, .slice A0_1 l0_1.length c0_1] 24 (0, 0)) (blk_go BK697.out)) : gb697 ≠ gb715))
       have n12_ := Aside0.mk (blk_apart hg (blk_go BK697.out) : gb715 ≠ gb697)
       have n13_ := Aside0.mk ((by rw [hg]; exact Nat.ne_of_lt (blk_lt (g := gb698) (o := .cells #[.string a1_0, .slice A1_1 l1_1.length c1_1] 24 (0, 0)) (blk_go BK698.out)) : gb698 ≠ gb715))
       have n14_ := Aside0.mk (blk_apart hg (blk_go BK698.out) : gb715 ≠ gb698)
       clear HO0_1
       clear HO1_1
       clear HO702
       clear HO706
       clear HO710
       clear BK697
       clear BK698
       clear HB
       have HO0_1 := n0_
       have HO1_1 := n1_
       have HO702 := n2_
       have HO706 := n3_
       have HO710 := n4_
       have BK697 := n5_
       have BK698 := n6_
       have HB := n7_
       have BK715 := n8_
       have GW715 := n9_
       have GE715 := n10_
       have NB697_715 := n11_
       have NB715_697 := n12_
       have NB698_715 := n13_
       have NB715_698 := n14_
       clear n0_ n1_ n2_ n3_ n4_ n5_ n6_ n7_ n8_ n9_ n10_ n11_ n12_ n13_ n14_
       clear hb hbox hg
       refine hK.out _ _ ⟨(blk_cell BK697.out 0).trans rfl, (blk_cell BK697.out 1).trans rfl, (blk_cell BK698.out 0).trans rfl, (blk_cell BK698.out 1).trans rfl⟩ (fun hHeld => ?_)
       clear hK K
       refine norm_ (a' := ?_) ?_ ?_
       rotate_left
       ·
        show Act.put _ (some 5) _ = _
        simp only [Act.put, List.setIfInBounds_toArray, List.set_cons_zero, List.set_cons_succ, i64_w, i32_w]
        rfl
       exact norm_ (by simp only [putAll, Act.put, List.setIfInBounds_toArray, List.set_cons_zero, List.set_cons_succ]; try rfl) (hJ2_3_4_7 (v701, v705, v709, gb715) _ ⟨hHeld, (Kd.V_go (Kd.V_mono HO0_1.out (fun _ hk => ⟨hk.1.1, ⟨hk.1.2.1, ⟨hk.1.2.2.1, ⟨hk.1.2.2.2.1, ⟨hk.1.2.2.2.2.1, ⟨hk.1.2.2.2.2.2, hk.2⟩⟩⟩⟩⟩⟩))), (Kd.V_go (Kd.V_mono HO1_1.out (fun _ hk => ⟨hk.1.1, ⟨hk.1.2.1, ⟨hk.1.2.2.1, ⟨hk.1.2.2.2.1, ⟨hk.1.2.2.2.2.1, ⟨hk.1.2.2.2.2.2, hk.2⟩⟩⟩⟩⟩⟩))), (Kd.N_go (Kd.N_mono HO702.out (fun _ hk => ⟨hk.1.1, ⟨hk.1.2.1, ⟨hk.1.2.2.1, ⟨hk.1.2.2.2.1, ⟨hk.1.2.2.2.2, hk.2⟩⟩⟩⟩⟩))), (Kd.R_go HO706.out), (Kd.R_go HO710.out), (blk_go BK697.out), (blk_go BK698.out), (blk_go BK715.out), GW715.out, GE715.out, NB697_715.out, NB715_697.out, NB698_715.out, NB715_698.out, (below_go HB.out)⟩)
      ·
       skip
       refine box_step ?hg (N := 6) ?hd (cs := #[.string (⟨#[]⟩ : ByteArray), .slice none 0 0]) (t := 24) ?hr ?_; (case hd => rfl); (case hg => rfl); (case hr => first | (go_simp; done) | (go_simp; rfl))
       intro gb716 hg w27 hbox hb
       have n0_ := Aside0.mk (Kd.V_below (Kd.V_elderB (Kd.V_go HO0_1.out) gb716 (Nat.le_of_eq hg.symm)) hb)
       have n1_ := Aside0.mk (Kd.V_below (Kd.V_elderB (Kd.V_go HO1_1.out) gb716 (Nat.le_of_eq hg.symm)) hb)
       have n2_ := Aside0.mk (Kd.N_below (Kd.N_elderB (Kd.N_go HO702.out) gb716 (Nat.le_of_eq hg.symm)) hb)
       have n3_ := Aside0.mk (Kd.R_below (Kd.R_go HO706.out) hb)
       have n4_ := Aside0.mk (Kd.R_below (Kd.R_go HO710.out) hb)
       have n5_ := Aside0.mk (blk_below (blk_go BK697.out) hb)
       have n6_ := Aside0.mk (blk_below (blk_go BK698.out) hb)
       have n7_ := Aside0.mk (below_step (below_go HB.out) hb)
       have n8_ := Aside0.mk (hbox)
       have n9_ := Aside0.mk ((by rw [hg]; exact (below_size (below_go HB.out)) : w.heap.size ≤ gb716))
       have n10_ := Aside0.mk ((by rw [hg]; exact (below_size (below_go HB.out)) : w.heap.size ≤ gb716))
       have n11_ := Aside0.mk ((by rw [hg]; exact Nat.ne_of_lt (blk_lt (g := gb697) (o := .cells #[.string a0_0, .slice A0_1 l0_1.length c0_1] 24 (0, 0)) (blk_go BK697.out)) : gb697 ≠ gb716))
       have n12_ := Aside0.mk (blk_apart hg (blk_go BK697.out) : gb716 ≠ gb697)
       have n13_ := Aside0.mk ((by rw [hg]; exact Nat.ne_of_lt (blk_lt (g := gb698) (o := .cells #[.string a1_0, .slice A1_1 l1_1.length c1_1] 24 (0, 0)) (blk_go BK698.out)) : gb698 ≠ gb716))
       have n14_ := Aside0.mk (blk_apart hg (blk_go BK698.out) : gb716 ≠ gb698)
       clear HO0_1
       clear HO1_1
       clear HO702
       clear HO706
       clear HO710
       clear BK697
       clear BK698
       clear HB
       have HO0_1 := n0_
       have HO1_1 := n1_
       have HO702 := n2_
       have HO706 := n3_
       have HO710 := n4_
       have BK697 := n5_
       have BK698 := n6_
       have HB := n7_
       have BK716 := n8_
       have GW716 := n9_
       have GE716 := n10_
       have NB697_716 := n11_
       have NB716_697 := n12_
       have NB698_716 := n13_
       have NB716_698 := n14_
       clear n0_ n1_ n2_ n3_ n4_ n5_ n6_ n7_ n8_ n9_ n10_ n11_ n12_ n13_ n14_
       clear hb hbox hg
       refine hK.out _ _ ⟨(blk_cell BK697.out 0).trans rfl, (blk_cell BK697.out 1).trans rfl, (blk_cell BK698.out 0).trans rfl, (blk_cell BK698.out 1).trans rfl⟩ (fun hHeld => ?_)
       clear hK K
       refine norm_ (a' := ?_) ?_ ?_
       rotate_left
       ·
        show Act.put _ (some 6) _ = _
        simp only [Act.put, List.setIfInBounds_toArray, List.set_cons_zero, List.set_cons_succ, i64_w, i32_w]
        rfl
       exact norm_ (by simp only [putAll, Act.put, List.setIfInBounds_toArray, List.set_cons_zero, List.set_cons_succ]; try rfl) (hJ2_3_4_8 (v701, v705, v709, gb716) _ ⟨hHeld, (Kd.V_go (Kd.V_mono HO0_1.out (fun _ hk => ⟨hk.1.1, ⟨hk.1.2.1, ⟨hk.1.2.2.1, ⟨hk.1.2.2.2.1, ⟨hk.1.2.2.2.2.1, ⟨hk.1.2.2.2.2.2, hk.2⟩⟩⟩⟩⟩⟩))), (Kd.V_go (Kd.V_mono HO1_1.out (fun _ hk => ⟨hk.1.1, ⟨hk.1.2.1, ⟨hk.1.2.2.1, ⟨hk.1.2.2.2.1, ⟨hk.1.2.2.2.2.1, ⟨hk.1.2.2.2.2.2, hk.2⟩⟩⟩⟩⟩⟩))), (Kd.N_go (Kd.N_mono HO702.out (fun _ hk => ⟨hk.1.1, ⟨hk.1.2.1, ⟨hk.1.2.2.1, ⟨hk.1.2.2.2.1, ⟨hk.1.2.2.2.2, hk.2⟩⟩⟩⟩⟩))), (Kd.R_go HO706.out), (Kd.R_go HO710.out), (blk_go BK697.out), (blk_go BK698.out), (blk_go BK716.out), GW716.out, GE716.out, NB697_716.out, NB716_697.out, NB698_716.out, NB716_698.out, (below_go HB.out)⟩)
    intro hJ2_3_4
    refine join_ (σ := Value × Value × Nat) 5 #[true, true, true, true, false, true, false, true, false, false, false] (fun s_ => [(11, s_.1), (12, .agg #[.string t703, s_.2.1]), (5, .pointer (some ⟨s_.2.2, 0, none⟩))]) (fun s_ w' => (w'.cell? ⟨gb697, 0, none⟩ = some (.string a0_0) ∧ w'.cell? ⟨gb697, 1, none⟩ = some (.slice A0_1 l0_1.length c0_1) ∧ w'.cell? ⟨gb698, 0, none⟩ = some (.string a1_0) ∧ w'.cell? ⟨gb698, 1, none⟩ = some (.slice A1_1 l1_1.length c1_1)) ∧ (Kd.V k85 85 w' w.heap.size (fun k_ => ((P0_1_ k_ ∨ P1_1_ k_) ∨ w.heap.size ≤ k_) ∧ some k_ ≠ (s_.1 : Value).ownBlock ∧ some k_ ≠ (s_.2.1 : Value).ownBlock ∧ k_ ≠ gb697 ∧ k_ ≠ gb698 ∧ k_ ≠ s_.2.2) (.slice A0_1 l0_1.length c0_1) l0_1) ∧ (Kd.V k85 85 w' w.heap.size (fun k_ => ((P0_1_ k_ ∨ P1_1_ k_) ∨ w.heap.size ≤ k_) ∧ some k_ ≠ (s_.1 : Value).ownBlock ∧ some k_ ≠ (s_.2.1 : Value).ownBlock ∧ k_ ≠ gb697 ∧ k_ ≠ gb698 ∧ k_ ≠ s_.2.2) (.slice A1_1 l1_1.length c1_1) l1_1) ∧ (Kd.N k24 24 w' w.heap.size (fun k_ => ((P0_1_ k_ ∨ P1_1_ k_) ∨ w.heap.size ≤ k_) ∧ some k_ ≠ (s_.2.1 : Value).ownBlock ∧ k_ ≠ gb697 ∧ k_ ≠ gb698 ∧ k_ ≠ s_.2.2) s_.1 y700) ∧ (Kd.R k85 85 w' w.heap.size (fun k_ => (w.heap.size ≤ k_)) s_.2.1 t704) ∧ (w'.heap[gb697]? = some (.cells #[.string a0_0, .slice A0_1 l0_1.length c0_1] 24 (0, 0))) ∧ (w'.heap[gb698]? = some (.cells #[.string a1_0, .slice A1_1 l1_1.length c1_1] 24 (0, 0))) ∧ (w'.heap[s_.2.2]? = some (.cells #[.string (⟨#[]⟩ : ByteArray), .slice none 0 0] 24 (0, 0))) ∧ (w.heap.size ≤ s_.2.2) ∧ (w.heap.size ≤ s_.2.2) ∧ (gb697 ≠ s_.2.2) ∧ (s_.2.2 ≠ gb697) ∧ (gb698 ≠ s_.2.2) ∧ (s_.2.2 ≠ gb698) ∧ (Below w.heap.size w w')) ?_ ?_
    ·
     ·
      skip
      rintro ⟨v701, v705, gb715⟩ w25 ⟨hS_, h0_, h1_, h2_, h3_, h4_, h5_, h6_, h7_, h8_, h9_, h10_, h11_, h12_, h13_⟩
      dsimp only at hS_ h0_ h1_ h2_ h3_ h4_ h5_ h6_ h7_ h8_ h9_ h10_ h11_ h12_ h13_
      have n0_ := Aside0.mk h0_
      have n1_ := Aside0.mk h1_
      have n2_ := Aside0.mk h2_
      have n3_ := Aside0.mk h3_
      have n4_ := Aside0.mk h4_
      have n5_ := Aside0.mk h5_
      have n6_ := Aside0.mk h6_
      have n7_ := Aside0.mk h7_
      have n8_ := Aside0.mk h8_
      have n9_ := Aside0.mk h9_
      have n10_ := Aside0.mk h10_
      have n11_ := Aside0.mk h11_
      have n12_ := Aside0.mk h12_
      have n13_ := Aside0.mk h13_
      clear HO0_1
      clear HO1_1
      clear BK697
      clear BK698
      clear HB
      clear h0_ h1_ h2_ h3_ h4_ h5_ h6_ h7_ h8_ h9_ h10_ h11_ h12_ h13_
      have HO0_1 := n0_
      have HO1_1 := n1_
      have HO702 := n2_
      have HO706 := n3_
      have BK697 := n4_
      have BK698 := n5_
      have BK715 := n6_
      have GW715 := n7_
      have GE715 := n8_
      have NB697_715 := n9_
      have NB715_697 := n10_
      have NB698_715 := n11_
      have NB715_698 := n12_
      have HB := n13_
      clear n0_ n1_ n2_ n3_ n4_ n5_ n6_ n7_ n8_ n9_ n10_ n11_ n12_ n13_
      have hHeld := hS_
      obtain ⟨Ao26, co26, eo26⟩ := Kd.R_slice HO706.out
      (first | subst eo26 | (injection eo26 with f1_ f2_ f3_; have f4_ := f1_.symm; have f5_ := f3_.symm; clear f1_ f2_ f3_; subst f4_; subst f5_))
      refine norm_ (a' := ?_) ?_ ?_
      rotate_left
      ·
       simp only [putAll, Act.put, List.setIfInBounds_toArray, List.set_cons_zero, List.set_cons_succ]
       rfl
      refine two_ (i := 4) (j := 8) (Ni := some 13) (Nj := some 6) #[true, true, true, true, true, true, false, true, false, false, false] #[true, true, true, true, false, true, false, true, true, false, false] rfl rfl rfl rfl (two_of HT_.out (by kernel_rfl)) (by decide) (by decide) (fun K hK => ?_) (fun K hK => ?_)
      ·
       skip
       refine goes_ Try.func38 (by kernel_rfl) rfl #[.agg #[.string t703, .slice Ao26 t704.length co26]] (by rfl) rfl rfl (by (try simp only [List.map_toArray, List.map_cons, List.map_nil]); first | done | rfl | (simp only [List.length_drop, List.length_take]; rfl)) ?_
       with_reducible refine (percent_Encode.calls k t703 _ _ t704 t707 t708 _ ?side1 ?side2 A6.out).mono ?_
       (case side1 => repeat (first | exact (Kd.R_reads' HO706.out).2.2 | (with_reducible refine Kd.C_alloc ?_ _) | (with_reducible refine Kd.C_drewN ?_ _) | (with_reducible refine Kd.C_drew ?_)))
       (case side2 => exact (Kd.R_reads' HO706.out).2.1)
       rintro e w27 ⟨v709, rfl, ho0, hb⟩
       refine ⟨_, rfl, ?_⟩
       have n0_ := Aside0.mk (Kd.V_elder' (Kd.V_go HO0_1.out) (Kd.R_base ho0) hb)
       have n1_ := Aside0.mk (Kd.V_elder' (Kd.V_go HO1_1.out) (Kd.R_base ho0) hb)
       have n2_ := Aside0.mk (Kd.N_elder' (Kd.N_go HO702.out) (Kd.R_base ho0) hb)
       have n3_ := Aside0.mk (Kd.R_elder' (Kd.R_go HO706.out) (Kd.R_base ho0) hb)
       have n4_ := Aside0.mk (Kd.R_lower (Kd.R_new' (Kd.R_newM (M := fun k_ => (w.heap.size ≤ k_)) ho0 (below_size (below_go HB.out)) (fun k_ h_ => h_)) (Kd.R_lt (Kd.R_go HO706.out))) (below_size (below_go HB.out)))
       have n5_ := Aside0.mk (blk_below (blk_go BK697.out) hb)
       have n6_ := Aside0.mk (blk_below (blk_go BK698.out) hb)
       have n7_ := Aside0.mk (blk_below (blk_go BK715.out) hb)
       have n8_ := Aside0.mk (below_step (below_go HB.out) hb)
       clear HO0_1
       clear HO1_1
       clear HO702
       clear HO706
       clear BK697
       clear BK698
       clear BK715
       clear HB
       have HO0_1 := n0_
       have HO1_1 := n1_
       have HO702 := n2_
       have HO706 := n3_
       have HO710 := n4_
       have BK697 := n5_
       have BK698 := n6_
       have BK715 := n7_
       have HB := n8_
       clear n0_ n1_ n2_ n3_ n4_ n5_ n6_ n7_ n8_
       (try clear hb)
       (try clear hb2)
       (try clear hk)
       (try clear hi)
       (try clear ho0)
       refine hK.out _ _ ⟨(blk_cell BK697.out 0).trans rfl, (blk_cell BK697.out 1).trans rfl, (blk_cell BK698.out 0).trans rfl, (blk_cell BK698.out 1).trans rfl⟩ (fun hHeld => ?_)
       clear hK K
       refine norm_ (a' := ?_) ?_ ?_
       rotate_left
       ·
        show Act.put _ (some 13) _ = _
        simp only [Act.put, List.setIfInBounds_toArray, List.set_cons_zero, List.set_cons_succ, i64_w, i32_w]
        rfl
       exact norm_ (by simp only [putAll, Act.put, List.setIfInBounds_toArray, List.set_cons_zero, List.set_cons_succ]; try rfl) (hJ2_3_4_7 (v701, .slice Ao26 t704.length co26, v709, gb715) _ ⟨hHeld, (Kd.V_go (Kd.V_mono HO0_1.out (fun _ hk => ⟨hk.1.1, ⟨hk.1.2.1, ⟨hk.1.2.2.1, ⟨hk.2, ⟨hk.1.2.2.2.1, ⟨hk.1.2.2.2.2.1, hk.1.2.2.2.2.2⟩⟩⟩⟩⟩⟩))), (Kd.V_go (Kd.V_mono HO1_1.out (fun _ hk => ⟨hk.1.1, ⟨hk.1.2.1, ⟨hk.1.2.2.1, ⟨hk.2, ⟨hk.1.2.2.2.1, ⟨hk.1.2.2.2.2.1, hk.1.2.2.2.2.2⟩⟩⟩⟩⟩⟩))), (Kd.N_go (Kd.N_mono HO702.out (fun _ hk => ⟨hk.1.1, ⟨hk.1.2.1, ⟨hk.2, ⟨hk.1.2.2.1, ⟨hk.1.2.2.2.1, hk.1.2.2.2.2⟩⟩⟩⟩⟩))), (Kd.R_go HO706.out), (Kd.R_go (Kd.R_mono HO710.out (fun _ hk => ⟨hk.1.1, hk.2⟩))), (blk_go BK697.out), (blk_go BK698.out), (blk_go BK715.out), GW715.out, GE715.out, NB697_715.out, NB715_697.out, NB698_715.out, NB715_698.out, (below_go HB.out)⟩)
      ·
       skip
       refine box_step ?hg (N := 6) ?hd (cs := #[.string (⟨#[]⟩ : ByteArray), .slice none 0 0]) (t := 24) ?hr ?_; (case hd => rfl); (case hg => rfl); (case hr => first | (go_simp; done) | (go_simp; rfl))
       intro gb716 hg w26 hbox hb
       have n0_ := Aside0.mk (Kd.V_below (Kd.V_elderB (Kd.V_go HO0_1.out) gb716 (Nat.le_of_eq hg.symm)) hb)
       have n1_ := Aside0.mk (Kd.V_below (Kd.V_elderB (Kd.V_go HO1_1.out) gb716 (Nat.le_of_eq hg.symm)) hb)
       have n2_ := Aside0.mk (Kd.N_below (Kd.N_elderB (Kd.N_go HO702.out) gb716 (Nat.le_of_eq hg.symm)) hb)
       have n3_ := Aside0.mk (Kd.R_below (Kd.R_go HO706.out) hb)
       have n4_ := Aside0.mk (blk_below (blk_go BK697.out) hb)
       have n5_ := Aside0.mk (blk_below (blk_go BK698.out) hb)
       have n6_ := Aside0.mk (blk_below (blk_go BK715.out) hb)
       have n7_ := Aside0.mk (below_step (below_go HB.out) hb)
       have n8_ := Aside0.mk (hbox)
       have n9_ := Aside0.mk ((by rw [hg]; exact (below_size (below_go HB.out)) : w.heap.size ≤ gb716))
       have n10_ := Aside0.mk ((by rw [hg]; exact (below_size (below_go HB.out)) : w.heap.size ≤ gb716))
       have n11_ := Aside0.mk ((by rw [hg]; exact Nat.ne_of_lt (blk_lt (g := gb697) (o := .cells #[.string a0_0, .slice A0_1 l0_1.length c0_1] 24 (0, 0)) (blk_go BK697.out)) : gb697 ≠ gb716))
       have n12_ := Aside0.mk (blk_apart hg (blk_go BK697.out) : gb716 ≠ gb697)
       have n13_ := Aside0.mk ((by rw [hg]; exact Nat.ne_of_lt (blk_lt (g := gb698) (o := .cells #[.string a1_0, .slice A1_1 l1_1.length c1_1] 24 (0, 0)) (blk_go BK698.out)) : gb698 ≠ gb716))
       have n14_ := Aside0.mk (blk_apart hg (blk_go BK698.out) : gb716 ≠ gb698)
       have n15_ := Aside0.mk ((by rw [hg]; exact Nat.ne_of_lt (blk_lt (g := gb715) (o := .cells #[.string (⟨#[]⟩ : ByteArray), .slice none 0 0] 24 (0, 0)) (blk_go BK715.out)) : gb715 ≠ gb716))
       have n16_ := Aside0.mk (blk_apart hg (blk_go BK715.out) : gb716 ≠ gb715)
       clear HO0_1
       clear HO1_1
       clear HO702
       clear HO706
       clear BK697
       clear BK698
       clear BK715
       clear HB
       have HO0_1 := n0_
       have HO1_1 := n1_
       have HO702 := n2_
       have HO706 := n3_
       have BK697 := n4_
       have BK698 := n5_
       have BK715 := n6_
       have HB := n7_
       have BK716 := n8_
       have GW716 := n9_
       have GE716 := n10_
       have NB697_716 := n11_
       have NB716_697 := n12_
       have NB698_716 := n13_
       have NB716_698 := n14_
       have NB715_716 := n15_
       have NB716_715 := n16_
       clear n0_ n1_ n2_ n3_ n4_ n5_ n6_ n7_ n8_ n9_ n10_ n11_ n12_ n13_ n14_ n15_ n16_
       clear hb hbox hg
       refine hK.out _ _ ⟨(blk_cell BK697.out 0).trans rfl, (blk_cell BK697.out 1).trans rfl, (blk_cell BK698.out 0).trans rfl, (blk_cell BK698.out 1).trans rfl⟩ (fun hHeld => ?_)
       clear hK K
       refine norm_ (a' := ?_) ?_ ?_
       rotate_left
       ·
        show Act.put _ (some 6) _ = _
        simp only [Act.put, List.setIfInBounds_toArray, List.set_cons_zero, List.set_cons_succ, i64_w, i32_w]
        rfl
       exact norm_ (by simp only [putAll, Act.put, List.setIfInBounds_toArray, List.set_cons_zero, List.set_cons_succ]; try rfl) (hJ2_3_7_8 (v701, (.slice Ao26 t704.length co26), gb715, gb716) _ ⟨hHeld, (Kd.V_go (Kd.V_mono HO0_1.out (fun _ hk => ⟨hk.1.1, ⟨hk.1.2.1, ⟨hk.1.2.2.1, ⟨hk.1.2.2.2.1, ⟨hk.1.2.2.2.2.1, ⟨hk.1.2.2.2.2.2, hk.2⟩⟩⟩⟩⟩⟩))), (Kd.V_go (Kd.V_mono HO1_1.out (fun _ hk => ⟨hk.1.1, ⟨hk.1.2.1, ⟨hk.1.2.2.1, ⟨hk.1.2.2.2.1, ⟨hk.1.2.2.2.2.1, ⟨hk.1.2.2.2.2.2, hk.2⟩⟩⟩⟩⟩⟩))), (Kd.N_go (Kd.N_mono HO702.out (fun _ hk => ⟨hk.1.1, ⟨hk.1.2.1, ⟨hk.1.2.2.1, ⟨hk.1.2.2.2.1, ⟨hk.1.2.2.2.2, hk.2⟩⟩⟩⟩⟩))), (Kd.R_go HO706.out), (blk_go BK697.out), (blk_go BK698.out), (blk_go BK715.out), (blk_go BK716.out), GW715.out, GE715.out, NB697_715.out, NB715_697.out, NB698_715.out, NB715_698.out, NB716_715.out, NB715_716.out, GW716.out, GE716.out, NB697_716.out, NB716_697.out, NB698_716.out, NB716_698.out, (below_go HB.out)⟩)
    intro hJ2_3_7
    refine join_ (σ := Value × Value × Nat) 5 #[true, true, true, true, false, true, false, false, true, false, false] (fun s_ => [(11, s_.1), (12, .agg #[.string t703, s_.2.1]), (6, .pointer (some ⟨s_.2.2, 0, none⟩))]) (fun s_ w' => (w'.cell? ⟨gb697, 0, none⟩ = some (.string a0_0) ∧ w'.cell? ⟨gb697, 1, none⟩ = some (.slice A0_1 l0_1.length c0_1) ∧ w'.cell? ⟨gb698, 0, none⟩ = some (.string a1_0) ∧ w'.cell? ⟨gb698, 1, none⟩ = some (.slice A1_1 l1_1.length c1_1)) ∧ (Kd.V k85 85 w' w.heap.size (fun k_ => ((P0_1_ k_ ∨ P1_1_ k_) ∨ w.heap.size ≤ k_) ∧ some k_ ≠ (s_.1 : Value).ownBlock ∧ some k_ ≠ (s_.2.1 : Value).ownBlock ∧ k_ ≠ gb697 ∧ k_ ≠ gb698 ∧ k_ ≠ s_.2.2) (.slice A0_1 l0_1.length c0_1) l0_1) ∧ (Kd.V k85 85 w' w.heap.size (fun k_ => ((P0_1_ k_ ∨ P1_1_ k_) ∨ w.heap.size ≤ k_) ∧ some k_ ≠ (s_.1 : Value).ownBlock ∧ some k_ ≠ (s_.2.1 : Value).ownBlock ∧ k_ ≠ gb697 ∧ k_ ≠ gb698 ∧ k_ ≠ s_.2.2) (.slice A1_1 l1_1.length c1_1) l1_1) ∧ (Kd.N k24 24 w' w.heap.size (fun k_ => ((P0_1_ k_ ∨ P1_1_ k_) ∨ w.heap.size ≤ k_) ∧ some k_ ≠ (s_.2.1 : Value).ownBlock ∧ k_ ≠ gb697 ∧ k_ ≠ gb698 ∧ k_ ≠ s_.2.2) s_.1 y700) ∧ (Kd.R k85 85 w' w.heap.size (fun k_ => (w.heap.size ≤ k_)) s_.2.1 t704) ∧ (w'.heap[gb697]? = some (.cells #[.string a0_0, .slice A0_1 l0_1.length c0_1] 24 (0, 0))) ∧ (w'.heap[gb698]? = some (.cells #[.string a1_0, .slice A1_1 l1_1.length c1_1] 24 (0, 0))) ∧ (w'.heap[s_.2.2]? = some (.cells #[.string (⟨#[]⟩ : ByteArray), .slice none 0 0] 24 (0, 0))) ∧ (w.heap.size ≤ s_.2.2) ∧ (w.heap.size ≤ s_.2.2) ∧ (gb697 ≠ s_.2.2) ∧ (s_.2.2 ≠ gb697) ∧ (gb698 ≠ s_.2.2) ∧ (s_.2.2 ≠ gb698) ∧ (Below w.heap.size w w')) ?_ ?_
    ·
     ·
      skip
      rintro ⟨v701, v705, gb716⟩ w25 ⟨hS_, h0_, h1_, h2_, h3_, h4_, h5_, h6_, h7_, h8_, h9_, h10_, h11_, h12_, h13_⟩
      dsimp only at hS_ h0_ h1_ h2_ h3_ h4_ h5_ h6_ h7_ h8_ h9_ h10_ h11_ h12_ h13_
      have n0_ := Aside0.mk h0_
      have n1_ := Aside0.mk h1_
      have n2_ := Aside0.mk h2_
      have n3_ := Aside0.mk h3_
      have n4_ := Aside0.mk h4_
      have n5_ := Aside0.mk h5_
      have n6_ := Aside0.mk h6_
      have n7_ := Aside0.mk h7_
      have n8_ := Aside0.mk h8_
      have n9_ := Aside0.mk h9_
      have n10_ := Aside0.mk h10_
      have n11_ := Aside0.mk h11_
      have n12_ := Aside0.mk h12_
      have n13_ := Aside0.mk h13_
      clear HO0_1
      clear HO1_1
      clear BK697
      clear BK698
      clear HB
      clear h0_ h1_ h2_ h3_ h4_ h5_ h6_ h7_ h8_ h9_ h10_ h11_ h12_ h13_
      have HO0_1 := n0_
      have HO1_1 := n1_
      have HO702 := n2_
      have HO706 := n3_
      have BK697 := n4_
      have BK698 := n5_
      have BK716 := n6_
      have GW716 := n7_
      have GE716 := n8_
      have NB697_716 := n9_
      have NB716_697 := n10_
      have NB698_716 := n11_
      have NB716_698 := n12_
      have HB := n13_
      clear n0_ n1_ n2_ n3_ n4_ n5_ n6_ n7_ n8_ n9_ n10_ n11_ n12_ n13_
      have hHeld := hS_
      obtain ⟨Ao26, co26, eo26⟩ := Kd.R_slice HO706.out
      (first | subst eo26 | (injection eo26 with f1_ f2_ f3_; have f4_ := f1_.symm; have f5_ := f3_.symm; clear f1_ f2_ f3_; subst f4_; subst f5_))
      refine norm_ (a' := ?_) ?_ ?_
      rotate_left
      ·
       simp only [putAll, Act.put, List.setIfInBounds_toArray, List.set_cons_zero, List.set_cons_succ]
       rfl
      refine two_ (i := 4) (j := 7) (Ni := some 13) (Nj := some 5) #[true, true, true, true, true, true, false, false, true, false, false] #[true, true, true, true, false, true, false, true, true, false, false] rfl rfl rfl rfl (two_of HT_.out (by kernel_rfl)) (by decide) (by decide) (fun K hK => ?_) (fun K hK => ?_)
      ·
       skip
       refine goes_ Try.func38 (by kernel_rfl) rfl #[.agg #[.string t703, .slice Ao26 t704.length co26]] (by rfl) rfl rfl (by (try simp only [List.map_toArray, List.map_cons, List.map_nil]); first | done | rfl | (simp only [List.length_drop, List.length_take]; rfl)) ?_
       with_reducible refine (percent_Encode.calls k t703 _ _ t704 t707 t708 _ ?side1 ?side2 A6.out).mono ?_
       (case side1 => repeat (first | exact (Kd.R_reads' HO706.out).2.2 | (with_reducible refine Kd.C_alloc ?_ _) | (with_reducible refine Kd.C_drewN ?_ _) | (with_reducible refine Kd.C_drew ?_)))
       (case side2 => exact (Kd.R_reads' HO706.out).2.1)
       rintro e w27 ⟨v709, rfl, ho0, hb⟩
       refine ⟨_, rfl, ?_⟩
       have n0_ := Aside0.mk (Kd.V_elder' (Kd.V_go HO0_1.out) (Kd.R_base ho0) hb)
       have n1_ := Aside0.mk (Kd.V_elder' (Kd.V_go HO1_1.out) (Kd.R_base ho0) hb)
       have n2_ := Aside0.mk (Kd.N_elder' (Kd.N_go HO702.out) (Kd.R_base ho0) hb)
       have n3_ := Aside0.mk (Kd.R_elder' (Kd.R_go HO706.out) (Kd.R_base ho0) hb)
       have n4_ := Aside0.mk (Kd.R_lower (Kd.R_new' (Kd.R_newM (M := fun k_ => (w.heap.size ≤ k_)) ho0 (below_size (below_go HB.out)) (fun k_ h_ => h_)) (Kd.R_lt (Kd.R_go HO706.out))) (below_size (below_go HB.out)))
       have n5_ := Aside0.mk (blk_below (blk_go BK697.out) hb)
       have n6_ := Aside0.mk (blk_below (blk_go BK698.out) hb)
       have n7_ := Aside0.mk (blk_below (blk_go BK716.out) hb)
       have n8_ := Aside0.mk (below_step (below_go HB.out) hb)
       clear HO0_1
       clear HO1_1
       clear HO702
       clear HO706
       clear BK697
       clear BK698
       clear BK716
       clear HB
       have HO0_1 := n0_
       have HO1_1 := n1_
       have HO702 := n2_
       have HO706 := n3_
       have HO710 := n4_
       have BK697 := n5_
       have BK698 := n6_
       have BK716 := n7_
       have HB := n8_
       clear n0_ n1_ n2_ n3_ n4_ n5_ n6_ n7_ n8_
       (try clear hb)
       (try clear hb2)
       (try clear hk)
       (try clear hi)
       (try clear ho0)
       refine hK.out _ _ ⟨(blk_cell BK697.out 0).trans rfl, (blk_cell BK697.out 1).trans rfl, (blk_cell BK698.out 0).trans rfl, (blk_cell BK698.out 1).trans rfl⟩ (fun hHeld => ?_)
       clear hK K
       refine norm_ (a' := ?_) ?_ ?_
       rotate_left
       ·
        show Act.put _ (some 13) _ = _
        simp only [Act.put, List.setIfInBounds_toArray, List.set_cons_zero, List.set_cons_succ, i64_w, i32_w]
        rfl
       exact norm_ (by simp only [putAll, Act.put, List.setIfInBounds_toArray, List.set_cons_zero, List.set_cons_succ]; try rfl) (hJ2_3_4_8 (v701, .slice Ao26 t704.length co26, v709, gb716) _ ⟨hHeld, (Kd.V_go (Kd.V_mono HO0_1.out (fun _ hk => ⟨hk.1.1, ⟨hk.1.2.1, ⟨hk.1.2.2.1, ⟨hk.2, ⟨hk.1.2.2.2.1, ⟨hk.1.2.2.2.2.1, hk.1.2.2.2.2.2⟩⟩⟩⟩⟩⟩))), (Kd.V_go (Kd.V_mono HO1_1.out (fun _ hk => ⟨hk.1.1, ⟨hk.1.2.1, ⟨hk.1.2.2.1, ⟨hk.2, ⟨hk.1.2.2.2.1, ⟨hk.1.2.2.2.2.1, hk.1.2.2.2.2.2⟩⟩⟩⟩⟩⟩))), (Kd.N_go (Kd.N_mono HO702.out (fun _ hk => ⟨hk.1.1, ⟨hk.1.2.1, ⟨hk.2, ⟨hk.1.2.2.1, ⟨hk.1.2.2.2.1, hk.1.2.2.2.2⟩⟩⟩⟩⟩))), (Kd.R_go HO706.out), (Kd.R_go (Kd.R_mono HO710.out (fun _ hk => ⟨hk.1.1, hk.2⟩))), (blk_go BK697.out), (blk_go BK698.out), (blk_go BK716.out), GW716.out, GE716.out, NB697_716.out, NB716_697.out, NB698_716.out, NB716_698.out, (below_go HB.out)⟩)
      ·
       skip
       refine box_step ?hg (N := 5) ?hd (cs := #[.string (⟨#[]⟩ : ByteArray), .slice none 0 0]) (t := 24) ?hr ?_; (case hd => rfl); (case hg => rfl); (case hr => first | (go_simp; done) | (go_simp; rfl))
       intro gb715 hg w26 hbox hb
       have n0_ := Aside0.mk (Kd.V_below (Kd.V_elderB (Kd.V_go HO0_1.out) gb715 (Nat.le_of_eq hg.symm)) hb)
       have n1_ := Aside0.mk (Kd.V_below (Kd.V_elderB (Kd.V_go HO1_1.out) gb715 (Nat.le_of_eq hg.symm)) hb)
       have n2_ := Aside0.mk (Kd.N_below (Kd.N_elderB (Kd.N_go HO702.out) gb715 (Nat.le_of_eq hg.symm)) hb)
       have n3_ := Aside0.mk (Kd.R_below (Kd.R_go HO706.out) hb)
       have n4_ := Aside0.mk (blk_below (blk_go BK697.out) hb)
       have n5_ := Aside0.mk (blk_below (blk_go BK698.out) hb)
       have n6_ := Aside0.mk (blk_below (blk_go BK716.out) hb)
       have n7_ := Aside0.mk (below_step (below_go HB.out) hb)
       have n8_ := Aside0.mk (hbox)
       have n9_ := Aside0.mk ((by rw [hg]; exact (below_size (below_go HB.out)) : w.heap.size ≤ gb715))
       have n10_ := Aside0.mk ((by rw [hg]; exact (below_size (below_go HB.out)) : w.heap.size ≤ gb715))
       have n11_ := Aside0.mk ((by rw [hg]; exact Nat.ne_of_lt (blk_lt (g := gb697) (o := .cells #[.string a0_0, .slice A0_1 l0_1.length c0_1] 24 (0, 0)) (blk_go BK697.out)) : gb697 ≠ gb715))
       have n12_ := Aside0.mk (blk_apart hg (blk_go BK697.out) : gb715 ≠ gb697)
       have n13_ := Aside0.mk ((by rw [hg]; exact Nat.ne_of_lt (blk_lt (g := gb698) (o := .cells #[.string a1_0, .slice A1_1 l1_1.length c1_1] 24 (0, 0)) (blk_go BK698.out)) : gb698 ≠ gb715))
       have n14_ := Aside0.mk (blk_apart hg (blk_go BK698.out) : gb715 ≠ gb698)
       have n15_ := Aside0.mk ((by rw [hg]; exact Nat.ne_of_lt (blk_lt (g := gb716) (o := .cells #[.string (⟨#[]⟩ : ByteArray), .slice none 0 0] 24 (0, 0)) (blk_go BK716.out)) : gb716 ≠ gb715))
       have n16_ := Aside0.mk (blk_apart hg (blk_go BK716.out) : gb715 ≠ gb716)
       clear HO0_1
       clear HO1_1
       clear HO702
       clear HO706
       clear BK697
       clear BK698
       clear BK716
       clear HB
       have HO0_1 := n0_
       have HO1_1 := n1_
       have HO702 := n2_
       have HO706 := n3_
       have BK697 := n4_
       have BK698 := n5_
       have BK716 := n6_
       have HB := n7_
       have BK715 := n8_
       have GW715 := n9_
       have GE715 := n10_
       have NB697_715 := n11_
       have NB715_697 := n12_
       have NB698_715 := n13_
       have NB715_698 := n14_
       have NB716_715 := n15_
       have NB715_716 := n16_
       clear n0_ n1_ n2_ n3_ n4_ n5_ n6_ n7_ n8_ n9_ n10_ n11_ n12_ n13_ n14_ n15_ n16_
       clear hb hbox hg
       refine hK.out _ _ ⟨(blk_cell BK697.out 0).trans rfl, (blk_cell BK697.out 1).trans rfl, (blk_cell BK698.out 0).trans rfl, (blk_cell BK698.out 1).trans rfl⟩ (fun hHeld => ?_)
       clear hK K
       refine norm_ (a' := ?_) ?_ ?_
       rotate_left
       ·
        show Act.put _ (some 5) _ = _
        simp only [Act.put, List.setIfInBounds_toArray, List.set_cons_zero, List.set_cons_succ, i64_w, i32_w]
        rfl
       exact norm_ (by simp only [putAll, Act.put, List.setIfInBounds_toArray, List.set_cons_zero, List.set_cons_succ]; try rfl) (hJ2_3_7_8 (v701, (.slice Ao26 t704.length co26), gb715, gb716) _ ⟨hHeld, (Kd.V_go (Kd.V_mono HO0_1.out (fun _ hk => ⟨hk.1.1, ⟨hk.1.2.1, ⟨hk.1.2.2.1, ⟨hk.1.2.2.2.1, ⟨hk.1.2.2.2.2.1, ⟨hk.2, hk.1.2.2.2.2.2⟩⟩⟩⟩⟩⟩))), (Kd.V_go (Kd.V_mono HO1_1.out (fun _ hk => ⟨hk.1.1, ⟨hk.1.2.1, ⟨hk.1.2.2.1, ⟨hk.1.2.2.2.1, ⟨hk.1.2.2.2.2.1, ⟨hk.2, hk.1.2.2.2.2.2⟩⟩⟩⟩⟩⟩))), (Kd.N_go (Kd.N_mono HO702.out (fun _ hk => ⟨hk.1.1, ⟨hk.1.2.1, ⟨hk.1.2.2.1, ⟨hk.1.2.2.2.1, ⟨hk.2, hk.1.2.2.2.2⟩⟩⟩⟩⟩))), (Kd.R_go HO706.out), (blk_go BK697.out), (blk_go BK698.out), (blk_go BK715.out), (blk_go BK716.out), GW715.out, GE715.out, NB697_715.out, NB715_697.out, NB698_715.out, NB715_698.out, NB716_715.out, NB715_716.out, GW716.out, GE716.out, NB697_716.out, NB716_697.out, NB698_716.out, NB716_698.out, (below_go HB.out)⟩)
    intro hJ2_3_8
    refine join_ (σ := Value × Nat × Nat) 5 #[true, true, true, false, false, true, false, true, true, false, false] (fun s_ => [(11, s_.1), (5, .pointer (some ⟨s_.2.1, 0, none⟩)), (6, .pointer (some ⟨s_.2.2, 0, none⟩))]) (fun s_ w' => (w'.cell? ⟨gb697, 0, none⟩ = some (.string a0_0) ∧ w'.cell? ⟨gb697, 1, none⟩ = some (.slice A0_1 l0_1.length c0_1) ∧ w'.cell? ⟨gb698, 0, none⟩ = some (.string a1_0) ∧ w'.cell? ⟨gb698, 1, none⟩ = some (.slice A1_1 l1_1.length c1_1)) ∧ (Kd.V k85 85 w' w.heap.size (fun k_ => ((P0_1_ k_ ∨ P1_1_ k_) ∨ w.heap.size ≤ k_) ∧ some k_ ≠ (s_.1 : Value).ownBlock ∧ k_ ≠ gb697 ∧ k_ ≠ gb698 ∧ k_ ≠ s_.2.1 ∧ k_ ≠ s_.2.2) (.slice A0_1 l0_1.length c0_1) l0_1) ∧ (Kd.V k85 85 w' w.heap.size (fun k_ => ((P0_1_ k_ ∨ P1_1_ k_) ∨ w.heap.size ≤ k_) ∧ some k_ ≠ (s_.1 : Value).ownBlock ∧ k_ ≠ gb697 ∧ k_ ≠ gb698 ∧ k_ ≠ s_.2.1 ∧ k_ ≠ s_.2.2) (.slice A1_1 l1_1.length c1_1) l1_1) ∧ (Kd.N k24 24 w' w.heap.size (fun k_ => ((P0_1_ k_ ∨ P1_1_ k_) ∨ w.heap.size ≤ k_) ∧ k_ ≠ gb697 ∧ k_ ≠ gb698 ∧ k_ ≠ s_.2.1 ∧ k_ ≠ s_.2.2) s_.1 y700) ∧ (w'.heap[gb697]? = some (.cells #[.string a0_0, .slice A0_1 l0_1.length c0_1] 24 (0, 0))) ∧ (w'.heap[gb698]? = some (.cells #[.string a1_0, .slice A1_1 l1_1.length c1_1] 24 (0, 0))) ∧ (w'.heap[s_.2.1]? = some (.cells #[.string (⟨#[]⟩ : ByteArray), .slice none 0 0] 24 (0, 0))) ∧ (w'.heap[s_.2.2]? = some (.cells #[.string (⟨#[]⟩ : ByteArray), .slice none 0 0] 24 (0, 0))) ∧ (w.heap.size ≤ s_.2.1) ∧ (w.heap.size ≤ s_.2.1) ∧ (gb697 ≠ s_.2.1) ∧ (s_.2.1 ≠ gb697) ∧ (gb698 ≠ s_.2.1) ∧ (s_.2.1 ≠ gb698) ∧ (s_.2.2 ≠ s_.2.1) ∧ (s_.2.1 ≠ s_.2.2) ∧ (w.heap.size ≤ s_.2.2) ∧ (w.heap.size ≤ s_.2.2) ∧ (gb697 ≠ s_.2.2) ∧ (s_.2.2 ≠ gb697) ∧ (gb698 ≠ s_.2.2) ∧ (s_.2.2 ≠ gb698) ∧ (Below w.heap.size w w')) ?_ ?_
    ·
     ·
      skip
      rintro ⟨v701, gb715, gb716⟩ w24 ⟨hS_, h0_, h1_, h2_, h3_, h4_, h5_, h6_, h7_, h8_, h9_, h10_, h11_, h12_, h13_, h14_, h15_, h16_, h17_, h18_, h19_, h20_, h21_⟩
      dsimp only at hS_ h0_ h1_ h2_ h3_ h4_ h5_ h6_ h7_ h8_ h9_ h10_ h11_ h12_ h13_ h14_ h15_ h16_ h17_ h18_ h19_ h20_ h21_
      have n0_ := Aside0.mk h0_
      have n1_ := Aside0.mk h1_
      have n2_ := Aside0.mk h2_
      have n3_ := Aside0.mk h3_
      have n4_ := Aside0.mk h4_
      have n5_ := Aside0.mk h5_
      have n6_ := Aside0.mk h6_
      have n7_ := Aside0.mk h7_
      have n8_ := Aside0.mk h8_
      have n9_ := Aside0.mk h9_
      have n10_ := Aside0.mk h10_
      have n11_ := Aside0.mk h11_
      have n12_ := Aside0.mk h12_
      have n13_ := Aside0.mk h13_
      have n14_ := Aside0.mk h14_
      have n15_ := Aside0.mk h15_
      have n16_ := Aside0.mk h16_
      have n17_ := Aside0.mk h17_
      have n18_ := Aside0.mk h18_
      have n19_ := Aside0.mk h19_
      have n20_ := Aside0.mk h20_
      have n21_ := Aside0.mk h21_
      clear HO0_1
      clear HO1_1
      clear BK697
      clear BK698
      clear HB
      clear h0_ h1_ h2_ h3_ h4_ h5_ h6_ h7_ h8_ h9_ h10_ h11_ h12_ h13_ h14_ h15_ h16_ h17_ h18_ h19_ h20_ h21_
      have HO0_1 := n0_
      have HO1_1 := n1_
      have HO702 := n2_
      have BK697 := n3_
      have BK698 := n4_
      have BK715 := n5_
      have BK716 := n6_
      have GW715 := n7_
      have GE715 := n8_
      have NB697_715 := n9_
      have NB715_697 := n10_
      have NB698_715 := n11_
      have NB715_698 := n12_
      have NB716_715 := n13_
      have NB715_716 := n14_
      have GW716 := n15_
      have GE716 := n16_
      have NB697_716 := n17_
      have NB716_697 := n18_
      have NB698_716 := n19_
      have NB716_698 := n20_
      have HB := n21_
      clear n0_ n1_ n2_ n3_ n4_ n5_ n6_ n7_ n8_ n9_ n10_ n11_ n12_ n13_ n14_ n15_ n16_ n17_ n18_ n19_ n20_ n21_
      have hHeld := hS_
      obtain ⟨Ao25, co25, eo25⟩ := Kd.N_slice HO702.out
      (first | subst eo25 | (injection eo25 with f1_ f2_ f3_; have f4_ := f1_.symm; have f5_ := f3_.symm; clear f1_ f2_ f3_; subst f4_; subst f5_))
      refine norm_ (a' := ?_) ?_ ?_
      rotate_left
      ·
       simp only [putAll, Act.put, List.setIfInBounds_toArray, List.set_cons_zero, List.set_cons_succ]
       rfl
      refine one_ (i := 3) (N := some 12) #[true, true, true, true, false, true, false, true, true, false, false] rfl rfl (one_of HT_.out (by kernel_rfl)) (by decide) (fun K hK => ?_)
      refine goes_ Try.func47 (by kernel_rfl) rfl #[.slice Ao25 y700.length co25] (by rfl) rfl rfl (by (try simp only [List.map_toArray, List.map_cons, List.map_nil]); first | done | rfl | (simp only [List.length_drop, List.length_take]; rfl)) ?_
      with_reducible refine (mark_Cat.calls k _ _ y700 t703 t704 _ ?side1 ?side2 A5.out).mono ?_
      (case side1 => repeat (first | exact (Kd.N_reads' HO702.out).2.2 | (with_reducible refine Kd.C_alloc ?_ _) | (with_reducible refine Kd.C_drewN ?_ _) | (with_reducible refine Kd.C_drew ?_)))
      (case side2 => exact (Kd.N_reads' HO702.out).2.1)
      rintro e w26 ⟨v705, rfl, ho0, hb⟩
      refine ⟨_, rfl, ?_⟩
      have n0_ := Aside0.mk (Kd.V_elder' (Kd.V_go HO0_1.out) (Kd.R_base ho0) hb)
      have n1_ := Aside0.mk (Kd.V_elder' (Kd.V_go HO1_1.out) (Kd.R_base ho0) hb)
      have n2_ := Aside0.mk (Kd.N_elder' (Kd.N_go HO702.out) (Kd.R_base ho0) hb)
      have n3_ := Aside0.mk (Kd.R_lower (Kd.R_newM (M := fun k_ => (w.heap.size ≤ k_)) ho0 (below_size (below_go HB.out)) (fun k_ h_ => h_)) (below_size (below_go HB.out)))
      have n4_ := Aside0.mk (blk_below (blk_go BK697.out) hb)
      have n5_ := Aside0.mk (blk_below (blk_go BK698.out) hb)
      have n6_ := Aside0.mk (blk_below (blk_go BK715.out) hb)
      have n7_ := Aside0.mk (blk_below (blk_go BK716.out) hb)
      have n8_ := Aside0.mk (below_step (below_go HB.out) hb)
      clear HO0_1
      clear HO1_1
      clear HO702
      clear BK697
      clear BK698
      clear BK715
      clear BK716
      clear HB
      have HO0_1 := n0_
      have HO1_1 := n1_
      have HO702 := n2_
      have HO706 := n3_
      have BK697 := n4_
      have BK698 := n5_
      have BK715 := n6_
      have BK716 := n7_
      have HB := n8_
      clear n0_ n1_ n2_ n3_ n4_ n5_ n6_ n7_ n8_
      (try clear hb)
      (try clear hb2)
      (try clear hk)
      (try clear hi)
      (try clear ho0)
      refine hK.out _ _ ⟨(blk_cell BK697.out 0).trans rfl, (blk_cell BK697.out 1).trans rfl, (blk_cell BK698.out 0).trans rfl, (blk_cell BK698.out 1).trans rfl⟩ (fun hHeld => ?_)
      clear hK K
      refine norm_ (a' := ?_) ?_ ?_
      rotate_left
      ·
       show Act.put _ (some 12) _ = _
       simp only [Act.put, List.setIfInBounds_toArray, List.set_cons_zero, List.set_cons_succ, i64_w, i32_w]
       rfl
      exact norm_ (by simp only [putAll, Act.put, List.setIfInBounds_toArray, List.set_cons_zero, List.set_cons_succ]; try rfl) (hJ2_3_7_8 (.slice Ao25 y700.length co25, v705, gb715, gb716) _ ⟨hHeld, (Kd.V_go (Kd.V_mono HO0_1.out (fun _ hk => ⟨hk.1.1, ⟨hk.1.2.1, ⟨hk.2, ⟨hk.1.2.2.1, ⟨hk.1.2.2.2.1, ⟨hk.1.2.2.2.2.1, hk.1.2.2.2.2.2⟩⟩⟩⟩⟩⟩))), (Kd.V_go (Kd.V_mono HO1_1.out (fun _ hk => ⟨hk.1.1, ⟨hk.1.2.1, ⟨hk.2, ⟨hk.1.2.2.1, ⟨hk.1.2.2.2.1, ⟨hk.1.2.2.2.2.1, hk.1.2.2.2.2.2⟩⟩⟩⟩⟩⟩))), (Kd.N_go (Kd.N_mono HO702.out (fun _ hk => ⟨hk.1.1, ⟨hk.2, ⟨hk.1.2.1, ⟨hk.1.2.2.1, ⟨hk.1.2.2.2.1, hk.1.2.2.2.2⟩⟩⟩⟩⟩))), (Kd.R_go (Kd.R_mono HO706.out (fun _ hk => hk.1))), (blk_go BK697.out), (blk_go BK698.out), (blk_go BK715.out), (blk_go BK716.out), GW715.out, GE715.out, NB697_715.out, NB715_697.out, NB698_715.out, NB715_698.out, NB716_715.out, NB715_716.out, GW716.out, GE716.out, NB697_716.out, NB716_697.out, NB698_716.out, NB716_698.out, (below_go HB.out)⟩)
    intro hJ2_7_8
    refine join_ (σ := Value × Value) 6 #[true, true, true, true, false, true, false, false, false, false, false] (fun s_ => [(11, s_.1), (12, .agg #[.string t703, s_.2])]) (fun s_ w' => (w'.cell? ⟨gb697, 0, none⟩ = some (.string a0_0) ∧ w'.cell? ⟨gb697, 1, none⟩ = some (.slice A0_1 l0_1.length c0_1) ∧ w'.cell? ⟨gb698, 0, none⟩ = some (.string a1_0) ∧ w'.cell? ⟨gb698, 1, none⟩ = some (.slice A1_1 l1_1.length c1_1)) ∧ (Kd.V k85 85 w' w.heap.size (fun k_ => ((P0_1_ k_ ∨ P1_1_ k_) ∨ w.heap.size ≤ k_) ∧ some k_ ≠ (s_.1 : Value).ownBlock ∧ some k_ ≠ (s_.2 : Value).ownBlock ∧ k_ ≠ gb697 ∧ k_ ≠ gb698) (.slice A0_1 l0_1.length c0_1) l0_1) ∧ (Kd.V k85 85 w' w.heap.size (fun k_ => ((P0_1_ k_ ∨ P1_1_ k_) ∨ w.heap.size ≤ k_) ∧ some k_ ≠ (s_.1 : Value).ownBlock ∧ some k_ ≠ (s_.2 : Value).ownBlock ∧ k_ ≠ gb697 ∧ k_ ≠ gb698) (.slice A1_1 l1_1.length c1_1) l1_1) ∧ (Kd.N k24 24 w' w.heap.size (fun k_ => ((P0_1_ k_ ∨ P1_1_ k_) ∨ w.heap.size ≤ k_) ∧ some k_ ≠ (s_.2 : Value).ownBlock ∧ k_ ≠ gb697 ∧ k_ ≠ gb698) s_.1 y700) ∧ (Kd.R k85 85 w' w.heap.size (fun k_ => (w.heap.size ≤ k_)) s_.2 t704) ∧ (w'.heap[gb697]? = some (.cells #[.string a0_0, .slice A0_1 l0_1.length c0_1] 24 (0, 0))) ∧ (w'.heap[gb698]? = some (.cells #[.string a1_0, .slice A1_1 l1_1.length c1_1] 24 (0, 0))) ∧ (Below w.heap.size w w')) ?_ ?_
    ·
     ·
      skip
      rintro ⟨v701, v705⟩ w24 ⟨hS_, h0_, h1_, h2_, h3_, h4_, h5_, h6_⟩
      dsimp only at hS_ h0_ h1_ h2_ h3_ h4_ h5_ h6_
      have n0_ := Aside0.mk h0_
      have n1_ := Aside0.mk h1_
      have n2_ := Aside0.mk h2_
      have n3_ := Aside0.mk h3_
      have n4_ := Aside0.mk h4_
      have n5_ := Aside0.mk h5_
      have n6_ := Aside0.mk h6_
      clear HO0_1
      clear HO1_1
      clear BK697
      clear BK698
      clear HB
      clear h0_ h1_ h2_ h3_ h4_ h5_ h6_
      have HO0_1 := n0_
      have HO1_1 := n1_
      have HO702 := n2_
      have HO706 := n3_
      have BK697 := n4_
      have BK698 := n5_
      have HB := n6_
      clear n0_ n1_ n2_ n3_ n4_ n5_ n6_
      have hHeld := hS_
      obtain ⟨Ao25, co25, eo25⟩ := Kd.R_slice HO706.out
      (first | subst eo25 | (injection eo25 with f1_ f2_ f3_; have f4_ := f1_.symm; have f5_ := f3_.symm; clear f1_ f2_ f3_; subst f4_; subst f5_))
      refine norm_ (a' := ?_) ?_ ?_
      rotate_left
      ·
       simp only [putAll, Act.put, List.setIfInBounds_toArray, List.set_cons_zero, List.set_cons_succ]
       rfl
      refine three_ (i := 4) (j := 7) (k := 8) (Ni := some 13) (Nj := some 5) (Nk := some 6) #[true, true, true, true, true, true, false, false, false, false, false] #[true, true, true, true, false, true, false, true, false, false, false] #[true, true, true, true, false, true, false, false, true, false, false] rfl rfl rfl rfl rfl rfl (three_of HT_.out (by kernel_rfl)) (by decide) (by decide) (by decide) (fun K hK => ?_) (fun K hK => ?_) (fun K hK => ?_)
      ·
       skip
       refine goes_ Try.func38 (by kernel_rfl) rfl #[.agg #[.string t703, .slice Ao25 t704.length co25]] (by rfl) rfl rfl (by (try simp only [List.map_toArray, List.map_cons, List.map_nil]); first | done | rfl | (simp only [List.length_drop, List.length_take]; rfl)) ?_
       with_reducible refine (percent_Encode.calls k t703 _ _ t704 t707 t708 _ ?side1 ?side2 A6.out).mono ?_
       (case side1 => repeat (first | exact (Kd.R_reads' HO706.out).2.2 | (with_reducible refine Kd.C_alloc ?_ _) | (with_reducible refine Kd.C_drewN ?_ _) | (with_reducible refine Kd.C_drew ?_)))
       (case side2 => exact (Kd.R_reads' HO706.out).2.1)
       rintro e w26 ⟨v709, rfl, ho0, hb⟩
       refine ⟨_, rfl, ?_⟩
       have n0_ := Aside0.mk (Kd.V_elder' (Kd.V_go HO0_1.out) (Kd.R_base ho0) hb)
       have n1_ := Aside0.mk (Kd.V_elder' (Kd.V_go HO1_1.out) (Kd.R_base ho0) hb)
       have n2_ := Aside0.mk (Kd.N_elder' (Kd.N_go HO702.out) (Kd.R_base ho0) hb)
       have n3_ := Aside0.mk (Kd.R_elder' (Kd.R_go HO706.out) (Kd.R_base ho0) hb)
       have n4_ := Aside0.mk (Kd.R_lower (Kd.R_new' (Kd.R_newM (M := fun k_ => (w.heap.size ≤ k_)) ho0 (below_size (below_go HB.out)) (fun k_ h_ => h_)) (Kd.R_lt (Kd.R_go HO706.out))) (below_size (below_go HB.out)))
       have n5_ := Aside0.mk (blk_below (blk_go BK697.out) hb)
       have n6_ := Aside0.mk (blk_below (blk_go BK698.out) hb)
       have n7_ := Aside0.mk (below_step (below_go HB.out) hb)
       clear HO0_1
       clear HO1_1
       clear HO702
       clear HO706
       clear BK697
       clear BK698
       clear HB
       have HO0_1 := n0_
       have HO1_1 := n1_
       have HO702 := n2_
       have HO706 := n3_
       have HO710 := n4_
       have BK697 := n5_
       have BK698 := n6_
       have HB := n7_
       clear n0_ n1_ n2_ n3_ n4_ n5_ n6_ n7_
       (try clear hb)
       (try clear hb2)
       (try clear hk)
       (try clear hi)
       (try clear ho0)
       refine hK.out _ _ ⟨(blk_cell BK697.out 0).trans rfl, (blk_cell BK697.out 1).trans rfl, (blk_cell BK698.out 0).trans rfl, (blk_cell BK698.out 1).trans rfl⟩ (fun hHeld => ?_)
       clear hK K
       refine norm_ (a' := ?_) ?_ ?_
       rotate_left
       ·
        show Act.put _ (some 13) _ = _
        simp only [Act.put, List.setIfInBounds_toArray, List.set_cons_zero, List.set_cons_succ, i64_w, i32_w]
        rfl
       exact norm_ (by simp only [putAll, Act.put, List.setIfInBounds_toArray, List.set_cons_zero, List.set_cons_succ]; try rfl) (hJ2_3_4 (v701, .slice Ao25 t704.length co25, v709) _ ⟨hHeld, (Kd.V_go (Kd.V_mono HO0_1.out (fun _ hk => ⟨hk.1.1, ⟨hk.1.2.1, ⟨hk.1.2.2.1, ⟨hk.2, ⟨hk.1.2.2.2.1, hk.1.2.2.2.2⟩⟩⟩⟩⟩))), (Kd.V_go (Kd.V_mono HO1_1.out (fun _ hk => ⟨hk.1.1, ⟨hk.1.2.1, ⟨hk.1.2.2.1, ⟨hk.2, ⟨hk.1.2.2.2.1, hk.1.2.2.2.2⟩⟩⟩⟩⟩))), (Kd.N_go (Kd.N_mono HO702.out (fun _ hk => ⟨hk.1.1, ⟨hk.1.2.1, ⟨hk.2, ⟨hk.1.2.2.1, hk.1.2.2.2⟩⟩⟩⟩))), (Kd.R_go HO706.out), (Kd.R_go (Kd.R_mono HO710.out (fun _ hk => ⟨hk.1.1, hk.2⟩))), (blk_go BK697.out), (blk_go BK698.out), (below_go HB.out)⟩)
      ·
       skip
       refine box_step ?hg (N := 5) ?hd (cs := #[.string (⟨#[]⟩ : ByteArray), .slice none 0 0]) (t := 24) ?hr ?_; (case hd => rfl); (case hg => rfl); (case hr => first | (go_simp; done) | (go_simp; rfl))
       intro gb715 hg w25 hbox hb
       have n0_ := Aside0.mk (Kd.V_below (Kd.V_elderB (Kd.V_go HO0_1.out) gb715 (Nat.le_of_eq hg.symm)) hb)
       have n1_ := Aside0.mk (Kd.V_below (Kd.V_elderB (Kd.V_go HO1_1.out) gb715 (Nat.le_of_eq hg.symm)) hb)
       have n2_ := Aside0.mk (Kd.N_below (Kd.N_elderB (Kd.N_go HO702.out) gb715 (Nat.le_of_eq hg.symm)) hb)
       have n3_ := Aside0.mk (Kd.R_below (Kd.R_go HO706.out) hb)
       have n4_ := Aside0.mk (blk_below (blk_go BK697.out) hb)
       have n5_ := Aside0.mk (blk_below (blk_go BK698.out) hb)
       have n6_ := Aside0.mk (below_step (below_go HB.out) hb)
       have n7_ := Aside0.mk (hbox)
       have n8_ := Aside0.mk ((by rw [hg]; exact (below_size (below_go HB.out)) : w.heap.size ≤ gb715))
       have n9_ := Aside0.mk ((by rw [hg]; exact (below_size (below_go HB.out)) : w.heap.size ≤ gb715))
       have n10_ := Aside0.mk ((by rw [hg]; exact Nat.ne_of_lt (blk_lt (g := gb697) (o := .cells #[.string a0_0, .slice A0_1 l0_1.length c0_1] 24 (0, 0)) (blk_go BK697.out)) : gb697 ≠ gb715))
       have n11_ := Aside0.mk (blk_apart hg (blk_go BK697.out) : gb715 ≠ gb697)
       have n12_ := Aside0.mk ((by rw [hg]; exact Nat.ne_of_lt (blk_lt (g := gb698) (o := .cells #[.string a1_0, .slice A1_1 l1_1.length c1_1] 24 (0, 0)) (blk_go BK698.out)) : gb698 ≠ gb715))
       have n13_ := Aside0.mk (blk_apart hg (blk_go BK698.out) : gb715 ≠ gb698)
       clear HO0_1
       clear HO1_1
       clear HO702
       clear HO706
       clear BK697
       clear BK698
       clear HB
       have HO0_1 := n0_
       have HO1_1 := n1_
       have HO702 := n2_
       have HO706 := n3_
       have BK697 := n4_
       have BK698 := n5_
       have HB := n6_
       have BK715 := n7_
       have GW715 := n8_
       have GE715 := n9_
       have NB697_715 := n10_
       have NB715_697 := n11_
       have NB698_715 := n12_
       have NB715_698 := n13_
       clear n0_ n1_ n2_ n3_ n4_ n5_ n6_ n7_ n8_ n9_ n10_ n11_ n12_ n13_
       clear hb hbox hg
       refine hK.out _ _ ⟨(blk_cell BK697.out 0).trans rfl, (blk_cell BK697.out 1).trans rfl, (blk_cell BK698.out 0).trans rfl, (blk_cell BK698.out 1).trans rfl⟩ (fun hHeld => ?_)
       clear hK K
       refine norm_ (a' := ?_) ?_ ?_
       rotate_left
       ·
        show Act.put _ (some 5) _ = _
        simp only [Act.put, List.setIfInBounds_toArray, List.set_cons_zero, List.set_cons_succ, i64_w, i32_w]
        rfl
       exact norm_ (by simp only [putAll, Act.put, List.setIfInBounds_toArray, List.set_cons_zero, List.set_cons_succ]; try rfl) (hJ2_3_7 (v701, (.slice Ao25 t704.length co25), gb715) _ ⟨hHeld, (Kd.V_go (Kd.V_mono HO0_1.out (fun _ hk => ⟨hk.1.1, ⟨hk.1.2.1, ⟨hk.1.2.2.1, ⟨hk.1.2.2.2.1, ⟨hk.1.2.2.2.2, hk.2⟩⟩⟩⟩⟩))), (Kd.V_go (Kd.V_mono HO1_1.out (fun _ hk => ⟨hk.1.1, ⟨hk.1.2.1, ⟨hk.1.2.2.1, ⟨hk.1.2.2.2.1, ⟨hk.1.2.2.2.2, hk.2⟩⟩⟩⟩⟩))), (Kd.N_go (Kd.N_mono HO702.out (fun _ hk => ⟨hk.1.1, ⟨hk.1.2.1, ⟨hk.1.2.2.1, ⟨hk.1.2.2.2, hk.2⟩⟩⟩⟩))), (Kd.R_go HO706.out), (blk_go BK697.out), (blk_go BK698.out), (blk_go BK715.out), GW715.out, GE715.out, NB697_715.out, NB715_697.out, NB698_715.out, NB715_698.out, (below_go HB.out)⟩)
      ·
       skip
       refine box_step ?hg (N := 6) ?hd (cs := #[.string (⟨#[]⟩ : ByteArray), .slice none 0 0]) (t := 24) ?hr ?_; (case hd => rfl); (case hg => rfl); (case hr => first | (go_simp; done) | (go_simp; rfl))
       intro gb716 hg w25 hbox hb
       have n0_ := Aside0.mk (Kd.V_below (Kd.V_elderB (Kd.V_go HO0_1.out) gb716 (Nat.le_of_eq hg.symm)) hb)
       have n1_ := Aside0.mk (Kd.V_below (Kd.V_elderB (Kd.V_go HO1_1.out) gb716 (Nat.le_of_eq hg.symm)) hb)
       have n2_ := Aside0.mk (Kd.N_below (Kd.N_elderB (Kd.N_go HO702.out) gb716 (Nat.le_of_eq hg.symm)) hb)
       have n3_ := Aside0.mk (Kd.R_below (Kd.R_go HO706.out) hb)
       have n4_ := Aside0.mk (blk_below (blk_go BK697.out) hb)
       have n5_ := Aside0.mk (blk_below (blk_go BK698.out) hb)
       have n6_ := Aside0.mk (below_step (below_go HB.out) hb)
       have n7_ := Aside0.mk (hbox)
       have n8_ := Aside0.mk ((by rw [hg]; exact (below_size (below_go HB.out)) : w.heap.size ≤ gb716))
       have n9_ := Aside0.mk ((by rw [hg]; exact (below_size (below_go HB.out)) : w.heap.size ≤ gb716))
       have n10_ := Aside0.mk ((by rw [hg]; exact Nat.ne_of_lt (blk_lt (g := gb697) (o := .cells #[.string a0_0, .slice A0_1 l0_1.length c0_1] 24 (0, 0)) (blk_go BK697.out)) : gb697 ≠ gb716))
       have n11_ := Aside0.mk (blk_apart hg (blk_go BK697.out) : gb716 ≠ gb697)
       have n12_ := Aside0.mk ((by rw [hg]; exact Nat.ne_of_lt (blk_lt (g := gb698) (o := .cells #[.string a1_0, .slice A1_1 l1_1.length c1_1] 24 (0, 0)) (blk_go BK698.out)) : gb698 ≠ gb716))
       have n13_ := Aside0.mk (blk_apart hg (blk_go BK698.out) : gb716 ≠ gb698)
       clear HO0_1
       clear HO1_1
       clear HO702
       clear HO706
       clear BK697
       clear BK698
       clear HB
       have HO0_1 := n0_
       have HO1_1 := n1_
       have HO702 := n2_
       have HO706 := n3_
       have BK697 := n4_
       have BK698 := n5_
       have HB := n6_
       have BK716 := n7_
       have GW716 := n8_
       have GE716 := n9_
       have NB697_716 := n10_
       have NB716_697 := n11_
       have NB698_716 := n12_
       have NB716_698 := n13_
       clear n0_ n1_ n2_ n3_ n4_ n5_ n6_ n7_ n8_ n9_ n10_ n11_ n12_ n13_
       clear hb hbox hg
       refine hK.out _ _ ⟨(blk_cell BK697.out 0).trans rfl, (blk_cell BK697.out 1).trans rfl, (blk_cell BK698.out 0).trans rfl, (blk_cell BK698.out 1).trans rfl⟩ (fun hHeld => ?_)
       clear hK K
       refine norm_ (a' := ?_) ?_ ?_
       rotate_left
       ·
        show Act.put _ (some 6) _ = _
        simp only [Act.put, List.setIfInBounds_toArray, List.set_cons_zero, List.set_cons_succ, i64_w, i32_w]
        rfl
       exact norm_ (by simp only [putAll, Act.put, List.setIfInBounds_toArray, List.set_cons_zero, List.set_cons_succ]; try rfl) (hJ2_3_8 (v701, (.slice Ao25 t704.length co25), gb716) _ ⟨hHeld, (Kd.V_go (Kd.V_mono HO0_1.out (fun _ hk => ⟨hk.1.1, ⟨hk.1.2.1, ⟨hk.1.2.2.1, ⟨hk.1.2.2.2.1, ⟨hk.1.2.2.2.2, hk.2⟩⟩⟩⟩⟩))), (Kd.V_go (Kd.V_mono HO1_1.out (fun _ hk => ⟨hk.1.1, ⟨hk.1.2.1, ⟨hk.1.2.2.1, ⟨hk.1.2.2.2.1, ⟨hk.1.2.2.2.2, hk.2⟩⟩⟩⟩⟩))), (Kd.N_go (Kd.N_mono HO702.out (fun _ hk => ⟨hk.1.1, ⟨hk.1.2.1, ⟨hk.1.2.2.1, ⟨hk.1.2.2.2, hk.2⟩⟩⟩⟩))), (Kd.R_go HO706.out), (blk_go BK697.out), (blk_go BK698.out), (blk_go BK716.out), GW716.out, GE716.out, NB697_716.out, NB716_697.out, NB698_716.out, NB716_698.out, (below_go HB.out)⟩)
    intro hJ2_3
    refine join_ (σ := Value × Nat) 6 #[true, true, true, false, false, true, false, true, false, false, false] (fun s_ => [(11, s_.1), (5, .pointer (some ⟨s_.2, 0, none⟩))]) (fun s_ w' => (w'.cell? ⟨gb697, 0, none⟩ = some (.string a0_0) ∧ w'.cell? ⟨gb697, 1, none⟩ = some (.slice A0_1 l0_1.length c0_1) ∧ w'.cell? ⟨gb698, 0, none⟩ = some (.string a1_0) ∧ w'.cell? ⟨gb698, 1, none⟩ = some (.slice A1_1 l1_1.length c1_1)) ∧ (Kd.V k85 85 w' w.heap.size (fun k_ => ((P0_1_ k_ ∨ P1_1_ k_) ∨ w.heap.size ≤ k_) ∧ some k_ ≠ (s_.1 : Value).ownBlock ∧ k_ ≠ gb697 ∧ k_ ≠ gb698 ∧ k_ ≠ s_.2) (.slice A0_1 l0_1.length c0_1) l0_1) ∧ (Kd.V k85 85 w' w.heap.size (fun k_ => ((P0_1_ k_ ∨ P1_1_ k_) ∨ w.heap.size ≤ k_) ∧ some k_ ≠ (s_.1 : Value).ownBlock ∧ k_ ≠ gb697 ∧ k_ ≠ gb698 ∧ k_ ≠ s_.2) (.slice A1_1 l1_1.length c1_1) l1_1) ∧ (Kd.N k24 24 w' w.heap.size (fun k_ => ((P0_1_ k_ ∨ P1_1_ k_) ∨ w.heap.size ≤ k_) ∧ k_ ≠ gb697 ∧ k_ ≠ gb698 ∧ k_ ≠ s_.2) s_.1 y700) ∧ (w'.heap[gb697]? = some (.cells #[.string a0_0, .slice A0_1 l0_1.length c0_1] 24 (0, 0))) ∧ (w'.heap[gb698]? = some (.cells #[.string a1_0, .slice A1_1 l1_1.length c1_1] 24 (0, 0))) ∧ (w'.heap[s_.2]? = some (.cells #[.string (⟨#[]⟩ : ByteArray), .slice none 0 0] 24 (0, 0))) ∧ (w.heap.size ≤ s_.2) ∧ (w.heap.size ≤ s_.2) ∧ (gb697 ≠ s_.2) ∧ (s_.2 ≠ gb697) ∧ (gb698 ≠ s_.2) ∧ (s_.2 ≠ gb698) ∧ (Below w.heap.size w w')) ?_ ?_
    ·
     ·
      skip
      rintro ⟨v701, gb715⟩ w23 ⟨hS_, h0_, h1_, h2_, h3_, h4_, h5_, h6_, h7_, h8_, h9_, h10_, h11_, h12_⟩
      dsimp only at hS_ h0_ h1_ h2_ h3_ h4_ h5_ h6_ h7_ h8_ h9_ h10_ h11_ h12_
      have n0_ := Aside0.mk h0_
      have n1_ := Aside0.mk h1_
      have n2_ := Aside0.mk h2_
      have n3_ := Aside0.mk h3_
      have n4_ := Aside0.mk h4_
      have n5_ := Aside0.mk h5_
      have n6_ := Aside0.mk h6_
      have n7_ := Aside0.mk h7_
      have n8_ := Aside0.mk h8_
      have n9_ := Aside0.mk h9_
      have n10_ := Aside0.mk h10_
      have n11_ := Aside0.mk h11_
      have n12_ := Aside0.mk h12_
      clear HO0_1
      clear HO1_1
      clear BK697
      clear BK698
      clear HB
      clear h0_ h1_ h2_ h3_ h4_ h5_ h6_ h7_ h8_ h9_ h10_ h11_ h12_
      have HO0_1 := n0_
      have HO1_1 := n1_
      have HO702 := n2_
      have BK697 := n3_
      have BK698 := n4_
      have BK715 := n5_
      have GW715 := n6_
      have GE715 := n7_
      have NB697_715 := n8_
      have NB715_697 := n9_
      have NB698_715 := n10_
      have NB715_698 := n11_
      have HB := n12_
      clear n0_ n1_ n2_ n3_ n4_ n5_ n6_ n7_ n8_ n9_ n10_ n11_ n12_
      have hHeld := hS_
      obtain ⟨Ao24, co24, eo24⟩ := Kd.N_slice HO702.out
      (first | subst eo24 | (injection eo24 with f1_ f2_ f3_; have f4_ := f1_.symm; have f5_ := f3_.symm; clear f1_ f2_ f3_; subst f4_; subst f5_))
      refine norm_ (a' := ?_) ?_ ?_
      rotate_left
      ·
       simp only [putAll, Act.put, List.setIfInBounds_toArray, List.set_cons_zero, List.set_cons_succ]
       rfl
      refine two_ (i := 3) (j := 8) (Ni := some 12) (Nj := some 6) #[true, true, true, true, false, true, false, true, false, false, false] #[true, true, true, false, false, true, false, true, true, false, false] rfl rfl rfl rfl (two_of HT_.out (by kernel_rfl)) (by decide) (by decide) (fun K hK => ?_) (fun K hK => ?_)
      ·
       skip
       refine goes_ Try.func47 (by kernel_rfl) rfl #[.slice Ao24 y700.length co24] (by rfl) rfl rfl (by (try simp only [List.map_toArray, List.map_cons, List.map_nil]); first | done | rfl | (simp only [List.length_drop, List.length_take]; rfl)) ?_
       with_reducible refine (mark_Cat.calls k _ _ y700 t703 t704 _ ?side1 ?side2 A5.out).mono ?_
       (case side1 => repeat (first | exact (Kd.N_reads' HO702.out).2.2 | (with_reducible refine Kd.C_alloc ?_ _) | (with_reducible refine Kd.C_drewN ?_ _) | (with_reducible refine Kd.C_drew ?_)))
       (case side2 => exact (Kd.N_reads' HO702.out).2.1)
       rintro e w25 ⟨v705, rfl, ho0, hb⟩
       refine ⟨_, rfl, ?_⟩
       have n0_ := Aside0.mk (Kd.V_elder' (Kd.V_go HO0_1.out) (Kd.R_base ho0) hb)
       have n1_ := Aside0.mk (Kd.V_elder' (Kd.V_go HO1_1.out) (Kd.R_base ho0) hb)
       have n2_ := Aside0.mk (Kd.N_elder' (Kd.N_go HO702.out) (Kd.R_base ho0) hb)
       have n3_ := Aside0.mk (Kd.R_lower (Kd.R_newM (M := fun k_ => (w.heap.size ≤ k_)) ho0 (below_size (below_go HB.out)) (fun k_ h_ => h_)) (below_size (below_go HB.out)))
       have n4_ := Aside0.mk (blk_below (blk_go BK697.out) hb)
       have n5_ := Aside0.mk (blk_below (blk_go BK698.out) hb)
       have n6_ := Aside0.mk (blk_below (blk_go BK715.out) hb)
       have n7_ := Aside0.mk (below_step (below_go HB.out) hb)
       clear HO0_1
       clear HO1_1
       clear HO702
       clear BK697
       clear BK698
       clear BK715
       clear HB
       have HO0_1 := n0_
       have HO1_1 := n1_
       have HO702 := n2_
       have HO706 := n3_
       have BK697 := n4_
       have BK698 := n5_
       have BK715 := n6_
       have HB := n7_
       clear n0_ n1_ n2_ n3_ n4_ n5_ n6_ n7_
       (try clear hb)
       (try clear hb2)
       (try clear hk)
       (try clear hi)
       (try clear ho0)
       refine hK.out _ _ ⟨(blk_cell BK697.out 0).trans rfl, (blk_cell BK697.out 1).trans rfl, (blk_cell BK698.out 0).trans rfl, (blk_cell BK698.out 1).trans rfl⟩ (fun hHeld => ?_)
       clear hK K
       refine norm_ (a' := ?_) ?_ ?_
       rotate_left
       ·
        show Act.put _ (some 12) _ = _
        simp only [Act.put, List.setIfInBounds_toArray, List.set_cons_zero, List.set_cons_succ, i64_w, i32_w]
        rfl
       exact norm_ (by simp only [putAll, Act.put, List.setIfInBounds_toArray, List.set_cons_zero, List.set_cons_succ]; try rfl) (hJ2_3_7 (.slice Ao24 y700.length co24, v705, gb715) _ ⟨hHeld, (Kd.V_go (Kd.V_mono HO0_1.out (fun _ hk => ⟨hk.1.1, ⟨hk.1.2.1, ⟨hk.2, ⟨hk.1.2.2.1, ⟨hk.1.2.2.2.1, hk.1.2.2.2.2⟩⟩⟩⟩⟩))), (Kd.V_go (Kd.V_mono HO1_1.out (fun _ hk => ⟨hk.1.1, ⟨hk.1.2.1, ⟨hk.2, ⟨hk.1.2.2.1, ⟨hk.1.2.2.2.1, hk.1.2.2.2.2⟩⟩⟩⟩⟩))), (Kd.N_go (Kd.N_mono HO702.out (fun _ hk => ⟨hk.1.1, ⟨hk.2, ⟨hk.1.2.1, ⟨hk.1.2.2.1, hk.1.2.2.2⟩⟩⟩⟩))), (Kd.R_go (Kd.R_mono HO706.out (fun _ hk => hk.1))), (blk_go BK697.out), (blk_go BK698.out), (blk_go BK715.out), GW715.out, GE715.out, NB697_715.out, NB715_697.out, NB698_715.out, NB715_698.out, (below_go HB.out)⟩)
      ·
       skip
       refine box_step ?hg (N := 6) ?hd (cs := #[.string (⟨#[]⟩ : ByteArray), .slice none 0 0]) (t := 24) ?hr ?_; (case hd => rfl); (case hg => rfl); (case hr => first | (go_simp; done) | (go_simp; rfl))
       intro gb716 hg w24 hbox hb
       have n0_ := Aside0.mk (Kd.V_below (Kd.V_elderB (Kd.V_go HO0_1.out) gb716 (Nat.le_of_eq hg.symm)) hb)
       have n1_ := Aside0.mk (Kd.V_below (Kd.V_elderB (Kd.V_go HO1_1.out) gb716 (Nat.le_of_eq hg.symm)) hb)
       have n2_ := Aside0.mk (Kd.N_below (Kd.N_elderB (Kd.N_go HO702.out) gb716 (Nat.le_of_eq hg.symm)) hb)
       have n3_ := Aside0.mk (blk_below (blk_go BK697.out) hb)
       have n4_ := Aside0.mk (blk_below (blk_go BK698.out) hb)
       have n5_ := Aside0.mk (blk_below (blk_go BK715.out) hb)
       have n6_ := Aside0.mk (below_step (below_go HB.out) hb)
       have n7_ := Aside0.mk (hbox)
       have n8_ := Aside0.mk ((by rw [hg]; exact (below_size (below_go HB.out)) : w.heap.size ≤ gb716))
       have n9_ := Aside0.mk ((by rw [hg]; exact (below_size (below_go HB.out)) : w.heap.size ≤ gb716))
       have n10_ := Aside0.mk ((by rw [hg]; exact Nat.ne_of_lt (blk_lt (g := gb697) (o := .cells #[.string a0_0, .slice A0_1 l0_1.length c0_1] 24 (0, 0)) (blk_go BK697.out)) : gb697 ≠ gb716))
       have n11_ := Aside0.mk (blk_apart hg (blk_go BK697.out) : gb716 ≠ gb697)
       have n12_ := Aside0.mk ((by rw [hg]; exact Nat.ne_of_lt (blk_lt (g := gb698) (o := .cells #[.string a1_0, .slice A1_1 l1_1.length c1_1] 24 (0, 0)) (blk_go BK698.out)) : gb698 ≠ gb716))
       have n13_ := Aside0.mk (blk_apart hg (blk_go BK698.out) : gb716 ≠ gb698)
       have n14_ := Aside0.mk ((by rw [hg]; exact Nat.ne_of_lt (blk_lt (g := gb715) (o := .cells #[.string (⟨#[]⟩ : ByteArray), .slice none 0 0] 24 (0, 0)) (blk_go BK715.out)) : gb715 ≠ gb716))
       have n15_ := Aside0.mk (blk_apart hg (blk_go BK715.out) : gb716 ≠ gb715)
       clear HO0_1
       clear HO1_1
       clear HO702
       clear BK697
       clear BK698
       clear BK715
       clear HB
       have HO0_1 := n0_
       have HO1_1 := n1_
       have HO702 := n2_
       have BK697 := n3_
       have BK698 := n4_
       have BK715 := n5_
       have HB := n6_
       have BK716 := n7_
       have GW716 := n8_
       have GE716 := n9_
       have NB697_716 := n10_
       have NB716_697 := n11_
       have NB698_716 := n12_
       have NB716_698 := n13_
       have NB715_716 := n14_
       have NB716_715 := n15_
       clear n0_ n1_ n2_ n3_ n4_ n5_ n6_ n7_ n8_ n9_ n10_ n11_ n12_ n13_ n14_ n15_
       clear hb hbox hg
       refine hK.out _ _ ⟨(blk_cell BK697.out 0).trans rfl, (blk_cell BK697.out 1).trans rfl, (blk_cell BK698.out 0).trans rfl, (blk_cell BK698.out 1).trans rfl⟩ (fun hHeld => ?_)
       clear hK K
       refine norm_ (a' := ?_) ?_ ?_
       rotate_left
       ·
        show Act.put _ (some 6) _ = _
        simp only [Act.put, List.setIfInBounds_toArray, List.set_cons_zero, List.set_cons_succ, i64_w, i32_w]
        rfl
       exact norm_ (by simp only [putAll, Act.put, List.setIfInBounds_toArray, List.set_cons_zero, List.set_cons_succ]; try rfl) (hJ2_7_8 ((.slice Ao24 y700.length co24), gb715, gb716) _ ⟨hHeld, (Kd.V_go (Kd.V_mono HO0_1.out (fun _ hk => ⟨hk.1.1, ⟨hk.1.2.1, ⟨hk.1.2.2.1, ⟨hk.1.2.2.2.1, ⟨hk.1.2.2.2.2, hk.2⟩⟩⟩⟩⟩))), (Kd.V_go (Kd.V_mono HO1_1.out (fun _ hk => ⟨hk.1.1, ⟨hk.1.2.1, ⟨hk.1.2.2.1, ⟨hk.1.2.2.2.1, ⟨hk.1.2.2.2.2, hk.2⟩⟩⟩⟩⟩))), (Kd.N_go (Kd.N_mono HO702.out (fun _ hk => ⟨hk.1.1, ⟨hk.1.2.1, ⟨hk.1.2.2.1, ⟨hk.1.2.2.2, hk.2⟩⟩⟩⟩))), (blk_go BK697.out), (blk_go BK698.out), (blk_go BK715.out), (blk_go BK716.out), GW715.out, GE715.out, NB697_715.out, NB715_697.out, NB698_715.out, NB715_698.out, NB716_715.out, NB715_716.out, GW716.out, GE716.out, NB697_716.out, NB716_697.out, NB698_716.out, NB716_698.out, (below_go HB.out)⟩)
    intro hJ2_7
    refine join_ (σ := Value × Nat) 6 #[true, true, true, false, false, true, false, false, true, false, false] (fun s_ => [(11, s_.1), (6, .pointer (some ⟨s_.2, 0, none⟩))]) (fun s_ w' => (w'.cell? ⟨gb697, 0, none⟩ = some (.string a0_0) ∧ w'.cell? ⟨gb697, 1, none⟩ = some (.slice A0_1 l0_1.length c0_1) ∧ w'.cell? ⟨gb698, 0, none⟩ = some (.string a1_0) ∧ w'.cell? ⟨gb698, 1, none⟩ = some (.slice A1_1 l1_1.length c1_1)) ∧ (Kd.V k85 85 w' w.heap.size (fun k_ => ((P0_1_ k_ ∨ P1_1_ k_) ∨ w.heap.size ≤ k_) ∧ some k_ ≠ (s_.1 : Value).ownBlock ∧ k_ ≠ gb697 ∧ k_ ≠ gb698 ∧ k_ ≠ s_.2) (.slice A0_1 l0_1.length c0_1) l0_1) ∧ (Kd.V k85 85 w' w.heap.size (fun k_ => ((P0_1_ k_ ∨ P1_1_ k_) ∨ w.heap.size ≤ k_) ∧ some k_ ≠ (s_.1 : Value).ownBlock ∧ k_ ≠ gb697 ∧ k_ ≠ gb698 ∧ k_ ≠ s_.2) (.slice A1_1 l1_1.length c1_1) l1_1) ∧ (Kd.N k24 24 w' w.heap.size (fun k_ => ((P0_1_ k_ ∨ P1_1_ k_) ∨ w.heap.size ≤ k_) ∧ k_ ≠ gb697 ∧ k_ ≠ gb698 ∧ k_ ≠ s_.2) s_.1 y700) ∧ (w'.heap[gb697]? = some (.cells #[.string a0_0, .slice A0_1 l0_1.length c0_1] 24 (0, 0))) ∧ (w'.heap[gb698]? = some (.cells #[.string a1_0, .slice A1_1 l1_1.length c1_1] 24 (0, 0))) ∧ (w'.heap[s_.2]? = some (.cells #[.string (⟨#[]⟩ : ByteArray), .slice none 0 0] 24 (0, 0))) ∧ (w.heap.size ≤ s_.2) ∧ (w.heap.size ≤ s_.2) ∧ (gb697 ≠ s_.2) ∧ (s_.2 ≠ gb697) ∧ (gb698 ≠ s_.2) ∧ (s_.2 ≠ gb698) ∧ (Below w.heap.size w w')) ?_ ?_
    ·
     ·
      skip
      rintro ⟨v701, gb716⟩ w23 ⟨hS_, h0_, h1_, h2_, h3_, h4_, h5_, h6_, h7_, h8_, h9_, h10_, h11_, h12_⟩
      dsimp only at hS_ h0_ h1_ h2_ h3_ h4_ h5_ h6_ h7_ h8_ h9_ h10_ h11_ h12_
      have n0_ := Aside0.mk h0_
      have n1_ := Aside0.mk h1_
      have n2_ := Aside0.mk h2_
      have n3_ := Aside0.mk h3_
      have n4_ := Aside0.mk h4_
      have n5_ := Aside0.mk h5_
      have n6_ := Aside0.mk h6_
      have n7_ := Aside0.mk h7_
      have n8_ := Aside0.mk h8_
      have n9_ := Aside0.mk h9_
      have n10_ := Aside0.mk h10_
      have n11_ := Aside0.mk h11_
      have n12_ := Aside0.mk h12_
      clear HO0_1
      clear HO1_1
      clear BK697
      clear BK698
      clear HB
      clear h0_ h1_ h2_ h3_ h4_ h5_ h6_ h7_ h8_ h9_ h10_ h11_ h12_
      have HO0_1 := n0_
      have HO1_1 := n1_
      have HO702 := n2_
      have BK697 := n3_
      have BK698 := n4_
      have BK716 := n5_
      have GW716 := n6_
      have GE716 := n7_
      have NB697_716 := n8_
      have NB716_697 := n9_
      have NB698_716 := n10_
      have NB716_698 := n11_
      have HB := n12_
      clear n0_ n1_ n2_ n3_ n4_ n5_ n6_ n7_ n8_ n9_ n10_ n11_ n12_
      have hHeld := hS_
      obtain ⟨Ao24, co24, eo24⟩ := Kd.N_slice HO702.out
      (first | subst eo24 | (injection eo24 with f1_ f2_ f3_; have f4_ := f1_.symm; have f5_ := f3_.symm; clear f1_ f2_ f3_; subst f4_; subst f5_))
      refine norm_ (a' := ?_) ?_ ?_
      rotate_left
      ·
       simp only [putAll, Act.put, List.setIfInBounds_toArray, List.set_cons_zero, List.set_cons_succ]
       rfl
      refine two_ (i := 3) (j := 7) (Ni := some 12) (Nj := some 5) #[true, true, true, true, false, true, false, false, true, false, false] #[true, true, true, false, false, true, false, true, true, false, false] rfl rfl rfl rfl (two_of HT_.out (by kernel_rfl)) (by decide) (by decide) (fun K hK => ?_) (fun K hK => ?_)
      ·
       skip
       refine goes_ Try.func47 (by kernel_rfl) rfl #[.slice Ao24 y700.length co24] (by rfl) rfl rfl (by (try simp only [List.map_toArray, List.map_cons, List.map_nil]); first | done | rfl | (simp only [List.length_drop, List.length_take]; rfl)) ?_
       with_reducible refine (mark_Cat.calls k _ _ y700 t703 t704 _ ?side1 ?side2 A5.out).mono ?_
       (case side1 => repeat (first | exact (Kd.N_reads' HO702.out).2.2 | (with_reducible refine Kd.C_alloc ?_ _) | (with_reducible refine Kd.C_drewN ?_ _) | (with_reducible refine Kd.C_drew ?_)))
       (case side2 => exact (Kd.N_reads' HO702.out).2.1)
       rintro e w25 ⟨v705, rfl, ho0, hb⟩
       refine ⟨_, rfl, ?_⟩
       have n0_ := Aside0.mk (Kd.V_elder' (Kd.V_go HO0_1.out) (Kd.R_base ho0) hb)
       have n1_ := Aside0.mk (Kd.V_elder' (Kd.V_go HO1_1.out) (Kd.R_base ho0) hb)
       have n2_ := Aside0.mk (Kd.N_elder' (Kd.N_go HO702.out) (Kd.R_base ho0) hb)
       have n3_ := Aside0.mk (Kd.R_lower (Kd.R_newM (M := fun k_ => (w.heap.size ≤ k_)) ho0 (below_size (below_go HB.out)) (fun k_ h_ => h_)) (below_size (below_go HB.out)))
       have n4_ := Aside0.mk (blk_below (blk_go BK697.out) hb)
       have n5_ := Aside0.mk (blk_below (blk_go BK698.out) hb)
       have n6_ := Aside0.mk (blk_below (blk_go BK716.out) hb)
       have n7_ := Aside0.mk (below_step (below_go HB.out) hb)
       clear HO0_1
       clear HO1_1
       clear HO702
       clear BK697
       clear BK698
       clear BK716
       clear HB
       have HO0_1 := n0_
       have HO1_1 := n1_
       have HO702 := n2_
       have HO706 := n3_
       have BK697 := n4_
       have BK698 := n5_
       have BK716 := n6_
       have HB := n7_
       clear n0_ n1_ n2_ n3_ n4_ n5_ n6_ n7_
       (try clear hb)
       (try clear hb2)
       (try clear hk)
       (try clear hi)
       (try clear ho0)
       refine hK.out _ _ ⟨(blk_cell BK697.out 0).trans rfl, (blk_cell BK697.out 1).trans rfl, (blk_cell BK698.out 0).trans rfl, (blk_cell BK698.out 1).trans rfl⟩ (fun hHeld => ?_)
       clear hK K
       refine norm_ (a' := ?_) ?_ ?_
       rotate_left
       ·
        show Act.put _ (some 12) _ = _
        simp only [Act.put, List.setIfInBounds_toArray, List.set_cons_zero, List.set_cons_succ, i64_w, i32_w]
        rfl
       exact norm_ (by simp only [putAll, Act.put, List.setIfInBounds_toArray, List.set_cons_zero, List.set_cons_succ]; try rfl) (hJ2_3_8 (.slice Ao24 y700.length co24, v705, gb716) _ ⟨hHeld, (Kd.V_go (Kd.V_mono HO0_1.out (fun _ hk => ⟨hk.1.1, ⟨hk.1.2.1, ⟨hk.2, ⟨hk.1.2.2.1, ⟨hk.1.2.2.2.1, hk.1.2.2.2.2⟩⟩⟩⟩⟩))), (Kd.V_go (Kd.V_mono HO1_1.out (fun _ hk => ⟨hk.1.1, ⟨hk.1.2.1, ⟨hk.2, ⟨hk.1.2.2.1, ⟨hk.1.2.2.2.1, hk.1.2.2.2.2⟩⟩⟩⟩⟩))), (Kd.N_go (Kd.N_mono HO702.out (fun _ hk => ⟨hk.1.1, ⟨hk.2, ⟨hk.1.2.1, ⟨hk.1.2.2.1, hk.1.2.2.2⟩⟩⟩⟩))), (Kd.R_go (Kd.R_mono HO706.out (fun _ hk => hk.1))), (blk_go BK697.out), (blk_go BK698.out), (blk_go BK716.out), GW716.out, GE716.out, NB697_716.out, NB716_697.out, NB698_716.out, NB716_698.out, (below_go HB.out)⟩)
      ·
       skip
       refine box_step ?hg (N := 5) ?hd (cs := #[.string (⟨#[]⟩ : ByteArray), .slice none 0 0]) (t := 24) ?hr ?_; (case hd => rfl); (case hg => rfl); (case hr => first | (go_simp; done) | (go_simp; rfl))
       intro gb715 hg w24 hbox hb
       have n0_ := Aside0.mk (Kd.V_below (Kd.V_elderB (Kd.V_go HO0_1.out) gb715 (Nat.le_of_eq hg.symm)) hb)
       have n1_ := Aside0.mk (Kd.V_below (Kd.V_elderB (Kd.V_go HO1_1.out) gb715 (Nat.le_of_eq hg.symm)) hb)
       have n2_ := Aside0.mk (Kd.N_below (Kd.N_elderB (Kd.N_go HO702.out) gb715 (Nat.le_of_eq hg.symm)) hb)
       have n3_ := Aside0.mk (blk_below (blk_go BK697.out) hb)
       have n4_ := Aside0.mk (blk_below (blk_go BK698.out) hb)
       have n5_ := Aside0.mk (blk_below (blk_go BK716.out) hb)
       have n6_ := Aside0.mk (below_step (below_go HB.out) hb)
       have n7_ := Aside0.mk (hbox)
       have n8_ := Aside0.mk ((by rw [hg]; exact (below_size (below_go HB.out)) : w.heap.size ≤ gb715))
       have n9_ := Aside0.mk ((by rw [hg]; exact (below_size (below_go HB.out)) : w.heap.size ≤ gb715))
       have n10_ := Aside0.mk ((by rw [hg]; exact Nat.ne_of_lt (blk_lt (g := gb697) (o := .cells #[.string a0_0, .slice A0_1 l0_1.length c0_1] 24 (0, 0)) (blk_go BK697.out)) : gb697 ≠ gb715))
       have n11_ := Aside0.mk (blk_apart hg (blk_go BK697.out) : gb715 ≠ gb697)
       have n12_ := Aside0.mk ((by rw [hg]; exact Nat.ne_of_lt (blk_lt (g := gb698) (o := .cells #[.string a1_0, .slice A1_1 l1_1.length c1_1] 24 (0, 0)) (blk_go BK698.out)) : gb698 ≠ gb715))
       have n13_ := Aside0.mk (blk_apart hg (blk_go BK698.out) : gb715 ≠ gb698)
       have n14_ := Aside0.mk ((by rw [hg]; exact Nat.ne_of_lt (blk_lt (g := gb716) (o := .cells #[.string (⟨#[]⟩ : ByteArray), .slice none 0 0] 24 (0, 0)) (blk_go BK716.out)) : gb716 ≠ gb715))
       have n15_ := Aside0.mk (blk_apart hg (blk_go BK716.out) : gb715 ≠ gb716)
       clear HO0_1
       clear HO1_1
       clear HO702
       clear BK697
       clear BK698
       clear BK716
       clear HB
       have HO0_1 := n0_
       have HO1_1 := n1_
       have HO702 := n2_
       have BK697 := n3_
       have BK698 := n4_
       have BK716 := n5_
       have HB := n6_
       have BK715 := n7_
       have GW715 := n8_
       have GE715 := n9_
       have NB697_715 := n10_
       have NB715_697 := n11_
       have NB698_715 := n12_
       have NB715_698 := n13_
       have NB716_715 := n14_
       have NB715_716 := n15_
       clear n0_ n1_ n2_ n3_ n4_ n5_ n6_ n7_ n8_ n9_ n10_ n11_ n12_ n13_ n14_ n15_
       clear hb hbox hg
       refine hK.out _ _ ⟨(blk_cell BK697.out 0).trans rfl, (blk_cell BK697.out 1).trans rfl, (blk_cell BK698.out 0).trans rfl, (blk_cell BK698.out 1).trans rfl⟩ (fun hHeld => ?_)
       clear hK K
       refine norm_ (a' := ?_) ?_ ?_
       rotate_left
       ·
        show Act.put _ (some 5) _ = _
        simp only [Act.put, List.setIfInBounds_toArray, List.set_cons_zero, List.set_cons_succ, i64_w, i32_w]
        rfl
       exact norm_ (by simp only [putAll, Act.put, List.setIfInBounds_toArray, List.set_cons_zero, List.set_cons_succ]; try rfl) (hJ2_7_8 ((.slice Ao24 y700.length co24), gb715, gb716) _ ⟨hHeld, (Kd.V_go (Kd.V_mono HO0_1.out (fun _ hk => ⟨hk.1.1, ⟨hk.1.2.1, ⟨hk.1.2.2.1, ⟨hk.1.2.2.2.1, ⟨hk.2, hk.1.2.2.2.2⟩⟩⟩⟩⟩))), (Kd.V_go (Kd.V_mono HO1_1.out (fun _ hk => ⟨hk.1.1, ⟨hk.1.2.1, ⟨hk.1.2.2.1, ⟨hk.1.2.2.2.1, ⟨hk.2, hk.1.2.2.2.2⟩⟩⟩⟩⟩))), (Kd.N_go (Kd.N_mono HO702.out (fun _ hk => ⟨hk.1.1, ⟨hk.1.2.1, ⟨hk.1.2.2.1, ⟨hk.2, hk.1.2.2.2⟩⟩⟩⟩))), (blk_go BK697.out), (blk_go BK698.out), (blk_go BK715.out), (blk_go BK716.out), GW715.out, GE715.out, NB697_715.out, NB715_697.out, NB698_715.out, NB715_698.out, NB716_715.out, NB715_716.out, GW716.out, GE716.out, NB697_716.out, NB716_697.out, NB698_716.out, NB716_698.out, (below_go HB.out)⟩)
    intro hJ2_8
    refine join_ (σ := Nat × Nat) 6 #[true, true, false, false, false, true, false, true, true, false, false] (fun s_ => [(5, .pointer (some ⟨s_.1, 0, none⟩)), (6, .pointer (some ⟨s_.2, 0, none⟩))]) (fun s_ w' => (w'.cell? ⟨gb697, 0, none⟩ = some (.string a0_0) ∧ w'.cell? ⟨gb697, 1, none⟩ = some (.slice A0_1 l0_1.length c0_1) ∧ w'.cell? ⟨gb698, 0, none⟩ = some (.string a1_0) ∧ w'.cell? ⟨gb698, 1, none⟩ = some (.slice A1_1 l1_1.length c1_1)) ∧ (Kd.V k85 85 w' w.heap.size (fun k_ => ((P0_1_ k_ ∨ P1_1_ k_) ∨ w.heap.size ≤ k_) ∧ k_ ≠ gb697 ∧ k_ ≠ gb698 ∧ k_ ≠ s_.1 ∧ k_ ≠ s_.2) (.slice A0_1 l0_1.length c0_1) l0_1) ∧ (Kd.V k85 85 w' w.heap.size (fun k_ => ((P0_1_ k_ ∨ P1_1_ k_) ∨ w.heap.size ≤ k_) ∧ k_ ≠ gb697 ∧ k_ ≠ gb698 ∧ k_ ≠ s_.1 ∧ k_ ≠ s_.2) (.slice A1_1 l1_1.length c1_1) l1_1) ∧ (w'.heap[gb697]? = some (.cells #[.string a0_0, .slice A0_1 l0_1.length c0_1] 24 (0, 0))) ∧ (w'.heap[gb698]? = some (.cells #[.string a1_0, .slice A1_1 l1_1.length c1_1] 24 (0, 0))) ∧ (w'.heap[s_.1]? = some (.cells #[.string (⟨#[]⟩ : ByteArray), .slice none 0 0] 24 (0, 0))) ∧ (w'.heap[s_.2]? = some (.cells #[.string (⟨#[]⟩ : ByteArray), .slice none 0 0] 24 (0, 0))) ∧ (w.heap.size ≤ s_.1) ∧ (w.heap.size ≤ s_.1) ∧ (gb697 ≠ s_.1) ∧ (s_.1 ≠ gb697) ∧ (gb698 ≠ s_.1) ∧ (s_.1 ≠ gb698) ∧ (s_.2 ≠ s_.1) ∧ (s_.1 ≠ s_.2) ∧ (w.heap.size ≤ s_.2) ∧ (w.heap.size ≤ s_.2) ∧ (gb697 ≠ s_.2) ∧ (s_.2 ≠ gb697) ∧ (gb698 ≠ s_.2) ∧ (s_.2 ≠ gb698) ∧ (Below w.heap.size w w')) ?_ ?_
    ·
     ·
      skip
      rintro ⟨gb715, gb716⟩ w22 ⟨hS_, h0_, h1_, h2_, h3_, h4_, h5_, h6_, h7_, h8_, h9_, h10_, h11_, h12_, h13_, h14_, h15_, h16_, h17_, h18_, h19_, h20_⟩
      dsimp only at hS_ h0_ h1_ h2_ h3_ h4_ h5_ h6_ h7_ h8_ h9_ h10_ h11_ h12_ h13_ h14_ h15_ h16_ h17_ h18_ h19_ h20_
      have n0_ := Aside0.mk h0_
      have n1_ := Aside0.mk h1_
      have n2_ := Aside0.mk h2_
      have n3_ := Aside0.mk h3_
      have n4_ := Aside0.mk h4_
      have n5_ := Aside0.mk h5_
      have n6_ := Aside0.mk h6_
      have n7_ := Aside0.mk h7_
      have n8_ := Aside0.mk h8_
      have n9_ := Aside0.mk h9_
      have n10_ := Aside0.mk h10_
      have n11_ := Aside0.mk h11_
      have n12_ := Aside0.mk h12_
      have n13_ := Aside0.mk h13_
      have n14_ := Aside0.mk h14_
      have n15_ := Aside0.mk h15_
      have n16_ := Aside0.mk h16_
      have n17_ := Aside0.mk h17_
      have n18_ := Aside0.mk h18_
      have n19_ := Aside0.mk h19_
      have n20_ := Aside0.mk h20_
      clear HO0_1
      clear HO1_1
      clear BK697
      clear BK698
      clear HB
      clear h0_ h1_ h2_ h3_ h4_ h5_ h6_ h7_ h8_ h9_ h10_ h11_ h12_ h13_ h14_ h15_ h16_ h17_ h18_ h19_ h20_
      have HO0_1 := n0_
      have HO1_1 := n1_
      have BK697 := n2_
      have BK698 := n3_
      have BK715 := n4_
      have BK716 := n5_
      have GW715 := n6_
      have GE715 := n7_
      have NB697_715 := n8_
      have NB715_697 := n9_
      have NB698_715 := n10_
      have NB715_698 := n11_
      have NB716_715 := n12_
      have NB715_716 := n13_
      have GW716 := n14_
      have GE716 := n15_
      have NB697_716 := n16_
      have NB716_697 := n17_
      have NB698_716 := n18_
      have NB716_698 := n19_
      have HB := n20_
      clear n0_ n1_ n2_ n3_ n4_ n5_ n6_ n7_ n8_ n9_ n10_ n11_ n12_ n13_ n14_ n15_ n16_ n17_ n18_ n19_ n20_
      have hHeld := hS_
      refine norm_ (a' := ?_) ?_ ?_
      rotate_left
      ·
       simp only [putAll, Act.put, List.setIfInBounds_toArray, List.set_cons_zero, List.set_cons_succ]
       rfl
      refine one_ (i := 2) (N := some 11) #[true, true, true, false, false, true, false, true, true, false, false] rfl rfl (one_of HT_.out (by kernel_rfl)) (by decide) (fun K hK => ?_)
      refine Kd.N_lit_step k24 _ 24 ?hg (N' := 11) ?hd (xs := ([(⟨a0_0, l0_1⟩ : S24), (⟨a1_0, l1_1⟩ : S24)] : List (S24))) (inner := [.string a0_0, .slice A0_1 l0_1.length c0_1, .string a1_0, .slice A1_1 l1_1.length c1_1]) (ok := (fun k_ => ((P0_1_ k_ ∨ P1_1_ k_) ∨ w.heap.size ≤ k_) ∧ k_ ≠ gb697 ∧ k_ ≠ gb698 ∧ k_ ≠ gb715 ∧ k_ ≠ gb716)) (okp := (fun k_ => ((P0_1_ k_ ∨ P1_1_ k_) ∨ w.heap.size ≤ k_) ∧ k_ ≠ gb697 ∧ k_ ≠ gb698 ∧ k_ ≠ gb715 ∧ k_ ≠ gb716)) ?hr ?hp (fun _ hk => hk) ((show ∀ k_, w22.heap.size ≤ k_ → (fun k_ => ((P0_1_ k_ ∨ P1_1_ k_) ∨ w.heap.size ≤ k_) ∧ k_ ≠ gb697 ∧ k_ ≠ gb698 ∧ k_ ≠ gb715 ∧ k_ ≠ gb716) k_ from fun k_ hk => ⟨(.inr (Nat.le_trans (below_size (below_go HB.out)) hk)), Kd.freshB (g := gb697) (o := .cells #[.string a0_0, .slice A0_1 l0_1.length c0_1] 24 (0, 0)) (blk_go BK697.out) k_ hk, Kd.freshB (g := gb698) (o := .cells #[.string a1_0, .slice A1_1 l1_1.length c1_1] 24 (0, 0)) (blk_go BK698.out) k_ hk, Kd.freshB (g := gb715) (o := .cells #[.string (⟨#[]⟩ : ByteArray), .slice none 0 0] 24 (0, 0)) (blk_go BK715.out) k_ hk, Kd.freshB (g := gb716) (o := .cells #[.string (⟨#[]⟩ : ByteArray), .slice none 0 0] 24 (0, 0)) (blk_go BK716.out) k_ hk⟩) _ (Nat.le_refl _)) (Below.refl _ _) (Nat.le_refl _) (by simp) ?_; (case hd => rfl); (case hg => rfl); (case hr => first | (go_simp; done) | (go_simp; rfl)); (case hp => exact (Reps.c2 (show Kd.FK k24 _ _ (⟨a0_0, l0_1⟩ : S24) [.string a0_0, .slice A0_1 l0_1.length c0_1] from (k24_mkF _ _ (⟨a0_0, l0_1⟩ : S24) (Kd.V_reads' (Kd.V_mono (ok' := (fun k_ => ((P0_1_ k_ ∨ P1_1_ k_) ∨ w.heap.size ≤ k_) ∧ k_ ≠ gb697 ∧ k_ ≠ gb698 ∧ k_ ≠ gb715 ∧ k_ ≠ gb716)) (HO0_1.out) (fun k_ hk => ⟨hk.1, ⟨hk.2.1, ⟨hk.2.2.1, ⟨hk.2.2.2.1, hk.2.2.2.2⟩⟩⟩⟩))).2.1 (Kd.V_F (Kd.V_mono (ok' := (fun k_ => ((P0_1_ k_ ∨ P1_1_ k_) ∨ w.heap.size ≤ k_) ∧ k_ ≠ gb697 ∧ k_ ≠ gb698 ∧ k_ ≠ gb715 ∧ k_ ≠ gb716)) (HO0_1.out) (fun k_ hk => ⟨hk.1, ⟨hk.2.1, ⟨hk.2.2.1, ⟨hk.2.2.2.1, hk.2.2.2.2⟩⟩⟩⟩))))) (Reps.c2 (show Kd.FK k24 _ _ (⟨a1_0, l1_1⟩ : S24) [.string a1_0, .slice A1_1 l1_1.length c1_1] from (k24_mkF _ _ (⟨a1_0, l1_1⟩ : S24) (Kd.V_reads' (Kd.V_mono (ok' := (fun k_ => ((P0_1_ k_ ∨ P1_1_ k_) ∨ w.heap.size ≤ k_) ∧ k_ ≠ gb697 ∧ k_ ≠ gb698 ∧ k_ ≠ gb715 ∧ k_ ≠ gb716)) (HO1_1.out) (fun k_ hk => ⟨hk.1, ⟨hk.2.1, ⟨hk.2.2.1, ⟨hk.2.2.2.1, hk.2.2.2.2⟩⟩⟩⟩))).2.1 (Kd.V_F (Kd.V_mono (ok' := (fun k_ => ((P0_1_ k_ ∨ P1_1_ k_) ∨ w.heap.size ≤ k_) ∧ k_ ≠ gb697 ∧ k_ ≠ gb698 ∧ k_ ≠ gb715 ∧ k_ ≠ gb716)) (HO1_1.out) (fun k_ hk => ⟨hk.1, ⟨hk.2.1, ⟨hk.2.2.1, ⟨hk.2.2.2.1, hk.2.2.2.2⟩⟩⟩⟩))))) (Reps.none _ _))))
      intro v701 w23 ho24 hb hg_ hnew_
      clear hg_ hnew_
      (first | rw [← Ny700.out] at ho24 | (simp only [Int.reduceToNat] at ho24; rw [← Ny700.out] at ho24))
      have n0_ := Aside0.mk (Kd.V_elder' (Kd.V_go HO0_1.out) (Kd.N_base ho24) hb)
      have n1_ := Aside0.mk (Kd.V_elder' (Kd.V_go HO1_1.out) (Kd.N_base ho24) hb)
      have n2_ := Aside0.mk (Kd.N_lower ho24 (below_size (below_go HB.out)))
      have n3_ := Aside0.mk (blk_below (blk_go BK697.out) hb)
      have n4_ := Aside0.mk (blk_below (blk_go BK698.out) hb)
      have n5_ := Aside0.mk (blk_below (blk_go BK715.out) hb)
      have n6_ := Aside0.mk (blk_below (blk_go BK716.out) hb)
      have n7_ := Aside0.mk (below_step (below_go HB.out) hb)
      clear HO0_1
      clear HO1_1
      clear BK697
      clear BK698
      clear BK715
      clear BK716
      clear HB
      have HO0_1 := n0_
      have HO1_1 := n1_
      have HO702 := n2_
      have BK697 := n3_
      have BK698 := n4_
      have BK715 := n5_
      have BK716 := n6_
      have HB := n7_
      clear n0_ n1_ n2_ n3_ n4_ n5_ n6_ n7_
      clear hb ho24
      refine hK.out _ _ ⟨(blk_cell BK697.out 0).trans rfl, (blk_cell BK697.out 1).trans rfl, (blk_cell BK698.out 0).trans rfl, (blk_cell BK698.out 1).trans rfl⟩ (fun hHeld => ?_)
      clear hK K
      refine norm_ (a' := ?_) ?_ ?_
      rotate_left
      ·
       show Act.put _ (some 11) _ = _
       simp only [Act.put, List.setIfInBounds_toArray, List.set_cons_zero, List.set_cons_succ, i64_w, i32_w]
       rfl
      exact norm_ (by simp only [putAll, Act.put, List.setIfInBounds_toArray, List.set_cons_zero, List.set_cons_succ]; try rfl) (hJ2_7_8 (v701, gb715, gb716) _ ⟨hHeld, (Kd.V_go (Kd.V_mono HO0_1.out (fun _ hk => ⟨hk.1.1, ⟨hk.2, ⟨hk.1.2.1, ⟨hk.1.2.2.1, ⟨hk.1.2.2.2.1, hk.1.2.2.2.2⟩⟩⟩⟩⟩))), (Kd.V_go (Kd.V_mono HO1_1.out (fun _ hk => ⟨hk.1.1, ⟨hk.2, ⟨hk.1.2.1, ⟨hk.1.2.2.1, ⟨hk.1.2.2.2.1, hk.1.2.2.2.2⟩⟩⟩⟩⟩))), (Kd.N_go HO702.out), (blk_go BK697.out), (blk_go BK698.out), (blk_go BK715.out), (blk_go BK716.out), GW715.out, GE715.out, NB697_715.out, NB715_697.out, NB698_715.out, NB715_698.out, NB716_715.out, NB715_716.out, GW716.out, GE716.out, NB697_716.out, NB716_697.out, NB698_716.out, NB716_698.out, (below_go HB.out)⟩)
    intro hJ7_8
    refine join_ (σ := Value) 7 #[true, true, true, false, false, true, false, false, false, false, false] (fun s_ => [(11, s_)]) (fun s_ w' => (w'.cell? ⟨gb697, 0, none⟩ = some (.string a0_0) ∧ w'.cell? ⟨gb697, 1, none⟩ = some (.slice A0_1 l0_1.length c0_1) ∧ w'.cell? ⟨gb698, 0, none⟩ = some (.string a1_0) ∧ w'.cell? ⟨gb698, 1, none⟩ = some (.slice A1_1 l1_1.length c1_1)) ∧ (Kd.V k85 85 w' w.heap.size (fun k_ => ((P0_1_ k_ ∨ P1_1_ k_) ∨ w.heap.size ≤ k_) ∧ some k_ ≠ (s_ : Value).ownBlock ∧ k_ ≠ gb697 ∧ k_ ≠ gb698) (.slice A0_1 l0_1.length c0_1) l0_1) ∧ (Kd.V k85 85 w' w.heap.size (fun k_ => ((P0_1_ k_ ∨ P1_1_ k_) ∨ w.heap.size ≤ k_) ∧ some k_ ≠ (s_ : Value).ownBlock ∧ k_ ≠ gb697 ∧ k_ ≠ gb698) (.slice A1_1 l1_1.length c1_1) l1_1) ∧ (Kd.N k24 24 w' w.heap.size (fun k_ => ((P0_1_ k_ ∨ P1_1_ k_) ∨ w.heap.size ≤ k_) ∧ k_ ≠ gb697 ∧ k_ ≠ gb698) s_ y700) ∧ (w'.heap[gb697]? = some (.cells #[.string a0_0, .slice A0_1 l0_1.length c0_1] 24 (0, 0))) ∧ (w'.heap[gb698]? = some (.cells #[.string a1_0, .slice A1_1 l1_1.length c1_1] 24 (0, 0))) ∧ (Below w.heap.size w w')) ?_ ?_
    ·
     ·
      skip
      rintro v701 w22 ⟨hS_, h0_, h1_, h2_, h3_, h4_, h5_⟩
      have n0_ := Aside0.mk h0_
      have n1_ := Aside0.mk h1_
      have n2_ := Aside0.mk h2_
      have n3_ := Aside0.mk h3_
      have n4_ := Aside0.mk h4_
      have n5_ := Aside0.mk h5_
      clear HO0_1
      clear HO1_1
      clear BK697
      clear BK698
      clear HB
      clear h0_ h1_ h2_ h3_ h4_ h5_
      have HO0_1 := n0_
      have HO1_1 := n1_
      have HO702 := n2_
      have BK697 := n3_
      have BK698 := n4_
      have HB := n5_
      clear n0_ n1_ n2_ n3_ n4_ n5_
      have hHeld := hS_
      obtain ⟨Ao23, co23, eo23⟩ := Kd.N_slice HO702.out
      (first | subst eo23 | (injection eo23 with f1_ f2_ f3_; have f4_ := f1_.symm; have f5_ := f3_.symm; clear f1_ f2_ f3_; subst f4_; subst f5_))
      refine norm_ (a' := ?_) ?_ ?_
      rotate_left
      ·
       simp only [putAll, Act.put, List.setIfInBounds_toArray, List.set_cons_zero, List.set_cons_succ]
       rfl
      refine three_ (i := 3) (j := 7) (k := 8) (Ni := some 12) (Nj := some 5) (Nk := some 6) #[true, true, true, true, false, true, false, false, false, false, false] #[true, true, true, false, false, true, false, true, false, false, false] #[true, true, true, false, false, true, false, false, true, false, false] rfl rfl rfl rfl rfl rfl (three_of HT_.out (by kernel_rfl)) (by decide) (by decide) (by decide) (fun K hK => ?_) (fun K hK => ?_) (fun K hK => ?_)
      ·
       skip
       refine goes_ Try.func47 (by kernel_rfl) rfl #[.slice Ao23 y700.length co23] (by rfl) rfl rfl (by (try simp only [List.map_toArray, List.map_cons, List.map_nil]); first | done | rfl | (simp only [List.length_drop, List.length_take]; rfl)) ?_
       with_reducible refine (mark_Cat.calls k _ _ y700 t703 t704 _ ?side1 ?side2 A5.out).mono ?_
       (case side1 => repeat (first | exact (Kd.N_reads' HO702.out).2.2 | (with_reducible refine Kd.C_alloc ?_ _) | (with_reducible refine Kd.C_drewN ?_ _) | (with_reducible refine Kd.C_drew ?_)))
       (case side2 => exact (Kd.N_reads' HO702.out).2.1)
       rintro e w24 ⟨v705, rfl, ho0, hb⟩
       refine ⟨_, rfl, ?_⟩
       have n0_ := Aside0.mk (Kd.V_elder' (Kd.V_go HO0_1.out) (Kd.R_base ho0) hb)
       have n1_ := Aside0.mk (Kd.V_elder' (Kd.V_go HO1_1.out) (Kd.R_base ho0) hb)
       have n2_ := Aside0.mk (Kd.N_elder' (Kd.N_go HO702.out) (Kd.R_base ho0) hb)
       have n3_ := Aside0.mk (Kd.R_lower (Kd.R_newM (M := fun k_ => (w.heap.size ≤ k_)) ho0 (below_size (below_go HB.out)) (fun k_ h_ => h_)) (below_size (below_go HB.out)))
       have n4_ := Aside0.mk (blk_below (blk_go BK697.out) hb)
       have n5_ := Aside0.mk (blk_below (blk_go BK698.out) hb)
       have n6_ := Aside0.mk (below_step (below_go HB.out) hb)
       clear HO0_1
       clear HO1_1
       clear HO702
       clear BK697
       clear BK698
       clear HB
       have HO0_1 := n0_
       have HO1_1 := n1_
       have HO702 := n2_
       have HO706 := n3_
       have BK697 := n4_
       have BK698 := n5_
       have HB := n6_
       clear n0_ n1_ n2_ n3_ n4_ n5_ n6_
       (try clear hb)
       (try clear hb2)
       (try clear hk)
       (try clear hi)
       (try clear ho0)
       refine hK.out _ _ ⟨(blk_cell BK697.out 0).trans rfl, (blk_cell BK697.out 1).trans rfl, (blk_cell BK698.out 0).trans rfl, (blk_cell BK698.out 1).trans rfl⟩ (fun hHeld => ?_)
       clear hK K
       refine norm_ (a' := ?_) ?_ ?_
       rotate_left
       ·
        show Act.put _ (some 12) _ = _
        simp only [Act.put, List.setIfInBounds_toArray, List.set_cons_zero, List.set_cons_succ, i64_w, i32_w]
        rfl
       exact norm_ (by simp only [putAll, Act.put, List.setIfInBounds_toArray, List.set_cons_zero, List.set_cons_succ]; try rfl) (hJ2_3 (.slice Ao23 y700.length co23, v705) _ ⟨hHeld, (Kd.V_go (Kd.V_mono HO0_1.out (fun _ hk => ⟨hk.1.1, ⟨hk.1.2.1, ⟨hk.2, ⟨hk.1.2.2.1, hk.1.2.2.2⟩⟩⟩⟩))), (Kd.V_go (Kd.V_mono HO1_1.out (fun _ hk => ⟨hk.1.1, ⟨hk.1.2.1, ⟨hk.2, ⟨hk.1.2.2.1, hk.1.2.2.2⟩⟩⟩⟩))), (Kd.N_go (Kd.N_mono HO702.out (fun _ hk => ⟨hk.1.1, ⟨hk.2, ⟨hk.1.2.1, hk.1.2.2⟩⟩⟩))), (Kd.R_go (Kd.R_mono HO706.out (fun _ hk => hk.1))), (blk_go BK697.out), (blk_go BK698.out), (below_go HB.out)⟩)
      ·
       skip
       refine box_step ?hg (N := 5) ?hd (cs := #[.string (⟨#[]⟩ : ByteArray), .slice none 0 0]) (t := 24) ?hr ?_; (case hd => rfl); (case hg => rfl); (case hr => first | (go_simp; done) | (go_simp; rfl))
       intro gb715 hg w23 hbox hb
       have n0_ := Aside0.mk (Kd.V_below (Kd.V_elderB (Kd.V_go HO0_1.out) gb715 (Nat.le_of_eq hg.symm)) hb)
       have n1_ := Aside0.mk (Kd.V_below (Kd.V_elderB (Kd.V_go HO1_1.out) gb715 (Nat.le_of_eq hg.symm)) hb)
       have n2_ := Aside0.mk (Kd.N_below (Kd.N_elderB (Kd.N_go HO702.out) gb715 (Nat.le_of_eq hg.symm)) hb)
       have n3_ := Aside0.mk (blk_below (blk_go BK697.out) hb)
       have n4_ := Aside0.mk (blk_below (blk_go BK698.out) hb)
       have n5_ := Aside0.mk (below_step (below_go HB.out) hb)
       have n6_ := Aside0.mk (hbox)
       have n7_ := Aside0.mk ((by rw [hg]; exact (below_size (below_go HB.out)) : w.heap.size ≤ gb715))
       have n8_ := Aside0.mk ((by rw [hg]; exact (below_size (below_go HB.out)) : w.heap.size ≤ gb715))
       have n9_ := Aside0.mk ((by rw [hg]; exact Nat.ne_of_lt (blk_lt (g := gb697) (o := .cells #[.string a0_0, .slice A0_1 l0_1.length c0_1] 24 (0, 0)) (blk_go BK697.out)) : gb697 ≠ gb715))
       have n10_ := Aside0.mk (blk_apart hg (blk_go BK697.out) : gb715 ≠ gb697)
       have n11_ := Aside0.mk ((by rw [hg]; exact Nat.ne_of_lt (blk_lt (g := gb698) (o := .cells #[.string a1_0, .slice A1_1 l1_1.length c1_1] 24 (0, 0)) (blk_go BK698.out)) : gb698 ≠ gb715))
       have n12_ := Aside0.mk (blk_apart hg (blk_go BK698.out) : gb715 ≠ gb698)
       clear HO0_1
       clear HO1_1
       clear HO702
       clear BK697
       clear BK698
       clear HB
       have HO0_1 := n0_
       have HO1_1 := n1_
       have HO702 := n2_
       have BK697 := n3_
       have BK698 := n4_
       have HB := n5_
       have BK715 := n6_
       have GW715 := n7_
       have GE715 := n8_
       have NB697_715 := n9_
       have NB715_697 := n10_
       have NB698_715 := n11_
       have NB715_698 := n12_
       clear n0_ n1_ n2_ n3_ n4_ n5_ n6_ n7_ n8_ n9_ n10_ n11_ n12_
       clear hb hbox hg
       refine hK.out _ _ ⟨(blk_cell BK697.out 0).trans rfl, (blk_cell BK697.out 1).trans rfl, (blk_cell BK698.out 0).trans rfl, (blk_cell BK698.out 1).trans rfl⟩ (fun hHeld => ?_)
       clear hK K
       refine norm_ (a' := ?_) ?_ ?_
       rotate_left
       ·
        show Act.put _ (some 5) _ = _
        simp only [Act.put, List.setIfInBounds_toArray, List.set_cons_zero, List.set_cons_succ, i64_w, i32_w]
        rfl
       exact norm_ (by simp only [putAll, Act.put, List.setIfInBounds_toArray, List.set_cons_zero, List.set_cons_succ]; try rfl) (hJ2_7 ((.slice Ao23 y700.length co23), gb715) _ ⟨hHeld, (Kd.V_go (Kd.V_mono HO0_1.out (fun _ hk => ⟨hk.1.1, ⟨hk.1.2.1, ⟨hk.1.2.2.1, ⟨hk.1.2.2.2, hk.2⟩⟩⟩⟩))), (Kd.V_go (Kd.V_mono HO1_1.out (fun _ hk => ⟨hk.1.1, ⟨hk.1.2.1, ⟨hk.1.2.2.1, ⟨hk.1.2.2.2, hk.2⟩⟩⟩⟩))), (Kd.N_go (Kd.N_mono HO702.out (fun _ hk => ⟨hk.1.1, ⟨hk.1.2.1, ⟨hk.1.2.2, hk.2⟩⟩⟩))), (blk_go BK697.out), (blk_go BK698.out), (blk_go BK715.out), GW715.out, GE715.out, NB697_715.out, NB715_697.out, NB698_715.out, NB715_698.out, (below_go HB.out)⟩)
      ·
       skip
       refine box_step ?hg (N := 6) ?hd (cs := #[.string (⟨#[]⟩ : ByteArray), .slice none 0 0]) (t := 24) ?hr ?_; (case hd => rfl); (case hg => rfl); (case hr => first | (go_simp; done) | (go_simp; rfl))
       intro gb716 hg w23 hbox hb
       have n0_ := Aside0.mk (Kd.V_below (Kd.V_elderB (Kd.V_go HO0_1.out) gb716 (Nat.le_of_eq hg.symm)) hb)
       have n1_ := Aside0.mk (Kd.V_below (Kd.V_elderB (Kd.V_go HO1_1.out) gb716 (Nat.le_of_eq hg.symm)) hb)
       have n2_ := Aside0.mk (Kd.N_below (Kd.N_elderB (Kd.N_go HO702.out) gb716 (Nat.le_of_eq hg.symm)) hb)
       have n3_ := Aside0.mk (blk_below (blk_go BK697.out) hb)
       have n4_ := Aside0.mk (blk_below (blk_go BK698.out) hb)
       have n5_ := Aside0.mk (below_step (below_go HB.out) hb)
       have n6_ := Aside0.mk (hbox)
       have n7_ := Aside0.mk ((by rw [hg]; exact (below_size (below_go HB.out)) : w.heap.size ≤ gb716))
       have n8_ := Aside0.mk ((by rw [hg]; exact (below_size (below_go HB.out)) : w.heap.size ≤ gb716))
       have n9_ := Aside0.mk ((by rw [hg]; exact Nat.ne_of_lt (blk_lt (g := gb697) (o := .cells #[.string a0_0, .slice A0_1 l0_1.length c0_1] 24 (0, 0)) (blk_go BK697.out)) : gb697 ≠ gb716))
       have n10_ := Aside0.mk (blk_apart hg (blk_go BK697.out) : gb716 ≠ gb697)
       have n11_ := Aside0.mk ((by rw [hg]; exact Nat.ne_of_lt (blk_lt (g := gb698) (o := .cells #[.string a1_0, .slice A1_1 l1_1.length c1_1] 24 (0, 0)) (blk_go BK698.out)) : gb698 ≠ gb716))
       have n12_ := Aside0.mk (blk_apart hg (blk_go BK698.out) : gb716 ≠ gb698)
       clear HO0_1
       clear HO1_1
       clear HO702
       clear BK697
       clear BK698
       clear HB
       have HO0_1 := n0_
       have HO1_1 := n1_
       have HO702 := n2_
       have BK697 := n3_
       have BK698 := n4_
       have HB := n5_
       have BK716 := n6_
       have GW716 := n7_
       have GE716 := n8_
       have NB697_716 := n9_
       have NB716_697 := n10_
       have NB698_716 := n11_
       have NB716_698 := n12_
       clear n0_ n1_ n2_ n3_ n4_ n5_ n6_ n7_ n8_ n9_ n10_ n11_ n12_
       clear hb hbox hg
       refine hK.out _ _ ⟨(blk_cell BK697.out 0).trans rfl, (blk_cell BK697.out 1).trans rfl, (blk_cell BK698.out 0).trans rfl, (blk_cell BK698.out 1).trans rfl⟩ (fun hHeld => ?_)
       clear hK K
       refine norm_ (a' := ?_) ?_ ?_
       rotate_left
       ·
        show Act.put _ (some 6) _ = _
        simp only [Act.put, List.setIfInBounds_toArray, List.set_cons_zero, List.set_cons_succ, i64_w, i32_w]
        rfl
       exact norm_ (by simp only [putAll, Act.put, List.setIfInBounds_toArray, List.set_cons_zero, List.set_cons_succ]; try rfl) (hJ2_8 ((.slice Ao23 y700.length co23), gb716) _ ⟨hHeld, (Kd.V_go (Kd.V_mono HO0_1.out (fun _ hk => ⟨hk.1.1, ⟨hk.1.2.1, ⟨hk.1.2.2.1, ⟨hk.1.2.2.2, hk.2⟩⟩⟩⟩))), (Kd.V_go (Kd.V_mono HO1_1.out (fun _ hk => ⟨hk.1.1, ⟨hk.1.2.1, ⟨hk.1.2.2.1, ⟨hk.1.2.2.2, hk.2⟩⟩⟩⟩))), (Kd.N_go (Kd.N_mono HO702.out (fun _ hk => ⟨hk.1.1, ⟨hk.1.2.1, ⟨hk.1.2.2, hk.2⟩⟩⟩))), (blk_go BK697.out), (blk_go BK698.out), (blk_go BK716.out), GW716.out, GE716.out, NB697_716.out, NB716_697.out, NB698_716.out, NB716_698.out, (below_go HB.out)⟩)
    intro hJ2
    refine join_ (σ := Nat) 7 #[true, true, false, false, false, true, false, true, false, false, false] (fun s_ => [(5, .pointer (some ⟨s_, 0, none⟩))]) (fun s_ w' => (w'.cell? ⟨gb697, 0, none⟩ = some (.string a0_0) ∧ w'.cell? ⟨gb697, 1, none⟩ = some (.slice A0_1 l0_1.length c0_1) ∧ w'.cell? ⟨gb698, 0, none⟩ = some (.string a1_0) ∧ w'.cell? ⟨gb698, 1, none⟩ = some (.slice A1_1 l1_1.length c1_1)) ∧ (Kd.V k85 85 w' w.heap.size (fun k_ => ((P0_1_ k_ ∨ P1_1_ k_) ∨ w.heap.size ≤ k_) ∧ k_ ≠ gb697 ∧ k_ ≠ gb698 ∧ k_ ≠ s_) (.slice A0_1 l0_1.length c0_1) l0_1) ∧ (Kd.V k85 85 w' w.heap.size (fun k_ => ((P0_1_ k_ ∨ P1_1_ k_) ∨ w.heap.size ≤ k_) ∧ k_ ≠ gb697 ∧ k_ ≠ gb698 ∧ k_ ≠ s_) (.slice A1_1 l1_1.length c1_1) l1_1) ∧ (w'.heap[gb697]? = some (.cells #[.string a0_0, .slice A0_1 l0_1.length c0_1] 24 (0, 0))) ∧ (w'.heap[gb698]? = some (.cells #[.string a1_0, .slice A1_1 l1_1.length c1_1] 24 (0, 0))) ∧ (w'.heap[s_]? = some (.cells #[.string (⟨#[]⟩ : ByteArray), .slice none 0 0] 24 (0, 0))) ∧ (w.heap.size ≤ s_) ∧ (w.heap.size ≤ s_) ∧ (gb697 ≠ s_) ∧ (s_ ≠ gb697) ∧ (gb698 ≠ s_) ∧ (s_ ≠ gb698) ∧ (Below w.heap.size w w')) ?_ ?_
    ·
     ·
      skip
      rintro gb715 w21 ⟨hS_, h0_, h1_, h2_, h3_, h4_, h5_, h6_, h7_, h8_, h9_, h10_, h11_⟩
      have n0_ := Aside0.mk h0_
      have n1_ := Aside0.mk h1_
      have n2_ := Aside0.mk h2_
      have n3_ := Aside0.mk h3_
      have n4_ := Aside0.mk h4_
      have n5_ := Aside0.mk h5_
      have n6_ := Aside0.mk h6_
      have n7_ := Aside0.mk h7_
      have n8_ := Aside0.mk h8_
      have n9_ := Aside0.mk h9_
      have n10_ := Aside0.mk h10_
      have n11_ := Aside0.mk h11_
      clear HO0_1
      clear HO1_1
      clear BK697
      clear BK698
      clear HB
      clear h0_ h1_ h2_ h3_ h4_ h5_ h6_ h7_ h8_ h9_ h10_ h11_
      have HO0_1 := n0_
      have HO1_1 := n1_
      have BK697 := n2_
      have BK698 := n3_
      have BK715 := n4_
      have GW715 := n5_
      have GE715 := n6_
      have NB697_715 := n7_
      have NB715_697 := n8_
      have NB698_715 := n9_
      have NB715_698 := n10_
      have HB := n11_
      clear n0_ n1_ n2_ n3_ n4_ n5_ n6_ n7_ n8_ n9_ n10_ n11_
      have hHeld := hS_
      refine norm_ (a' := ?_) ?_ ?_
      rotate_left
      ·
       simp only [putAll, Act.put, List.setIfInBounds_toArray, List.set_cons_zero, List.set_cons_succ]
       rfl
      refine two_ (i := 2) (j := 8) (Ni := some 11) (Nj := some 6) #[true, true, true, false, false, true, false, true, false, false, false] #[true, true, false, false, false, true, false, true, true, false, false] rfl rfl rfl rfl (two_of HT_.out (by kernel_rfl)) (by decide) (by decide) (fun K hK => ?_) (fun K hK => ?_)
      ·
       skip
       refine Kd.N_lit_step k24 _ 24 ?hg (N' := 11) ?hd (xs := ([(⟨a0_0, l0_1⟩ : S24), (⟨a1_0, l1_1⟩ : S24)] : List (S24))) (inner := [.string a0_0, .slice A0_1 l0_1.length c0_1, .string a1_0, .slice A1_1 l1_1.length c1_1]) (ok := (fun k_ => ((P0_1_ k_ ∨ P1_1_ k_) ∨ w.heap.size ≤ k_) ∧ k_ ≠ gb697 ∧ k_ ≠ gb698 ∧ k_ ≠ gb715)) (okp := (fun k_ => ((P0_1_ k_ ∨ P1_1_ k_) ∨ w.heap.size ≤ k_) ∧ k_ ≠ gb697 ∧ k_ ≠ gb698 ∧ k_ ≠ gb715)) ?hr ?hp (fun _ hk => hk) ((show ∀ k_, w21.heap.size ≤ k_ → (fun k_ => ((P0_1_ k_ ∨ P1_1_ k_) ∨ w.heap.size ≤ k_) ∧ k_ ≠ gb697 ∧ k_ ≠ gb698 ∧ k_ ≠ gb715) k_ from fun k_ hk => ⟨(.inr (Nat.le_trans (below_size (below_go HB.out)) hk)), Kd.freshB (g := gb697) (o := .cells #[.string a0_0, .slice A0_1 l0_1.length c0_1] 24 (0, 0)) (blk_go BK697.out) k_ hk, Kd.freshB (g := gb698) (o := .cells #[.string a1_0, .slice A1_1 l1_1.length c1_1] 24 (0, 0)) (blk_go BK698.out) k_ hk, Kd.freshB (g := gb715) (o := .cells #[.string (⟨#[]⟩ : ByteArray), .slice none 0 0] 24 (0, 0)) (blk_go BK715.out) k_ hk⟩) _ (Nat.le_refl _)) (Below.refl _ _) (Nat.le_refl _) (by simp) ?_; (case hd => rfl); (case hg => rfl); (case hr => first | (go_simp; done) | (go_simp; rfl)); (case hp => exact (Reps.c2 (show Kd.FK k24 _ _ (⟨a0_0, l0_1⟩ : S24) [.string a0_0, .slice A0_1 l0_1.length c0_1] from (k24_mkF _ _ (⟨a0_0, l0_1⟩ : S24) (Kd.V_reads' (Kd.V_mono (ok' := (fun k_ => ((P0_1_ k_ ∨ P1_1_ k_) ∨ w.heap.size ≤ k_) ∧ k_ ≠ gb697 ∧ k_ ≠ gb698 ∧ k_ ≠ gb715)) (HO0_1.out) (fun k_ hk => ⟨hk.1, ⟨hk.2.1, ⟨hk.2.2.1, hk.2.2.2⟩⟩⟩))).2.1 (Kd.V_F (Kd.V_mono (ok' := (fun k_ => ((P0_1_ k_ ∨ P1_1_ k_) ∨ w.heap.size ≤ k_) ∧ k_ ≠ gb697 ∧ k_ ≠ gb698 ∧ k_ ≠ gb715)) (HO0_1.out) (fun k_ hk => ⟨hk.1, ⟨hk.2.1, ⟨hk.2.2.1, hk.2.2.2⟩⟩⟩))))) (Reps.c2 (show Kd.FK k24 _ _ (⟨a1_0, l1_1⟩ : S24) [.string a1_0, .slice A1_1 l1_1.length c1_1] from (k24_mkF _ _ (⟨a1_0, l1_1⟩ : S24) (Kd.V_reads' (Kd.V_mono (ok' := (fun k_ => ((P0_1_ k_ ∨ P1_1_ k_) ∨ w.heap.size ≤ k_) ∧ k_ ≠ gb697 ∧ k_ ≠ gb698 ∧ k_ ≠ gb715)) (HO1_1.out) (fun k_ hk => ⟨hk.1, ⟨hk.2.1, ⟨hk.2.2.1, hk.2.2.2⟩⟩⟩))).2.1 (Kd.V_F (Kd.V_mono (ok' := (fun k_ => ((P0_1_ k_ ∨ P1_1_ k_) ∨ w.heap.size ≤ k_) ∧ k_ ≠ gb697 ∧ k_ ≠ gb698 ∧ k_ ≠ gb715)) (HO1_1.out) (fun k_ hk => ⟨hk.1, ⟨hk.2.1, ⟨hk.2.2.1, hk.2.2.2⟩⟩⟩))))) (Reps.none _ _))))
       intro v701 w22 ho23 hb hg_ hnew_
       clear hg_ hnew_
       (first | rw [← Ny700.out] at ho23 | (simp only [Int.reduceToNat] at ho23; rw [← Ny700.out] at ho23))
       have n0_ := Aside0.mk (Kd.V_elder' (Kd.V_go HO0_1.out) (Kd.N_base ho23) hb)
       have n1_ := Aside0.mk (Kd.V_elder' (Kd.V_go HO1_1.out) (Kd.N_base ho23) hb)
       have n2_ := Aside0.mk (Kd.N_lower ho23 (below_size (below_go HB.out)))
       have n3_ := Aside0.mk (blk_below (blk_go BK697.out) hb)
       have n4_ := Aside0.mk (blk_below (blk_go BK698.out) hb)
       have n5_ := Aside0.mk (blk_below (blk_go BK715.out) hb)
       have n6_ := Aside0.mk (below_step (below_go HB.out) hb)
       clear HO0_1
       clear HO1_1
       clear BK697
       clear BK698
       clear BK715
       clear HB
       have HO0_1 := n0_
       have HO1_1 := n1_
       have HO702 := n2_
       have BK697 := n3_
       have BK698 := n4_
       have BK715 := n5_
       have HB := n6_
       clear n0_ n1_ n2_ n3_ n4_ n5_ n6_
       clear hb ho23
       refine hK.out _ _ ⟨(blk_cell BK697.out 0).trans rfl, (blk_cell BK697.out 1).trans rfl, (blk_cell BK698.out 0).trans rfl, (blk_cell BK698.out 1).trans rfl⟩ (fun hHeld => ?_)
       clear hK K
       refine norm_ (a' := ?_) ?_ ?_
       rotate_left
       ·
        show Act.put _ (some 11) _ = _
        simp only [Act.put, List.setIfInBounds_toArray, List.set_cons_zero, List.set_cons_succ, i64_w, i32_w]
        rfl
       exact norm_ (by simp only [putAll, Act.put, List.setIfInBounds_toArray, List.set_cons_zero, List.set_cons_succ]; try rfl) (hJ2_7 (v701, gb715) _ ⟨hHeld, (Kd.V_go (Kd.V_mono HO0_1.out (fun _ hk => ⟨hk.1.1, ⟨hk.2, ⟨hk.1.2.1, ⟨hk.1.2.2.1, hk.1.2.2.2⟩⟩⟩⟩))), (Kd.V_go (Kd.V_mono HO1_1.out (fun _ hk => ⟨hk.1.1, ⟨hk.2, ⟨hk.1.2.1, ⟨hk.1.2.2.1, hk.1.2.2.2⟩⟩⟩⟩))), (Kd.N_go HO702.out), (blk_go BK697.out), (blk_go BK698.out), (blk_go BK715.out), GW715.out, GE715.out, NB697_715.out, NB715_697.out, NB698_715.out, NB715_698.out, (below_go HB.out)⟩)
      ·
       skip
       refine box_step ?hg (N := 6) ?hd (cs := #[.string (⟨#[]⟩ : ByteArray), .slice none 0 0]) (t := 24) ?hr ?_; (case hd => rfl); (case hg => rfl); (case hr => first | (go_simp; done) | (go_simp; rfl))
       intro gb716 hg w22 hbox hb
       have n0_ := Aside0.mk (Kd.V_below (Kd.V_elderB (Kd.V_go HO0_1.out) gb716 (Nat.le_of_eq hg.symm)) hb)
       have n1_ := Aside0.mk (Kd.V_below (Kd.V_elderB (Kd.V_go HO1_1.out) gb716 (Nat.le_of_eq hg.symm)) hb)
       have n2_ := Aside0.mk (blk_below (blk_go BK697.out) hb)
       have n3_ := Aside0.mk (blk_below (blk_go BK698.out) hb)
       have n4_ := Aside0.mk (blk_below (blk_go BK715.out) hb)
       have n5_ := Aside0.mk (below_step (below_go HB.out) hb)
       have n6_ := Aside0.mk (hbox)
       have n7_ := Aside0.mk ((by rw [hg]; exact (below_size (below_go HB.out)) : w.heap.size ≤ gb716))
       have n8_ := Aside0.mk ((by rw [hg]; exact (below_size (below_go HB.out)) : w.heap.size ≤ gb716))
       have n9_ := Aside0.mk ((by rw [hg]; exact Nat.ne_of_lt (blk_lt (g := gb697) (o := .cells #[.string a0_0, .slice A0_1 l0_1.length c0_1] 24 (0, 0)) (blk_go BK697.out)) : gb697 ≠ gb716))
       have n10_ := Aside0.mk (blk_apart hg (blk_go BK697.out) : gb716 ≠ gb697)
       have n11_ := Aside0.mk ((by rw [hg]; exact Nat.ne_of_lt (blk_lt (g := gb698) (o := .cells #[.string a1_0, .slice A1_1 l1_1.length c1_1] 24 (0, 0)) (blk_go BK698.out)) : gb698 ≠ gb716))
       have n12_ := Aside0.mk (blk_apart hg (blk_go BK698.out) : gb716 ≠ gb698)
       have n13_ := Aside0.mk ((by rw [hg]; exact Nat.ne_of_lt (blk_lt (g := gb715) (o := .cells #[.string (⟨#[]⟩ : ByteArray), .slice none 0 0] 24 (0, 0)) (blk_go BK715.out)) : gb715 ≠ gb716))
       have n14_ := Aside0.mk (blk_apart hg (blk_go BK715.out) : gb716 ≠ gb715)
       clear HO0_1
       clear HO1_1
       clear BK697
       clear BK698
       clear BK715
       clear HB
       have HO0_1 := n0_
       have HO1_1 := n1_
       have BK697 := n2_
       have BK698 := n3_
       have BK715 := n4_
       have HB := n5_
       have BK716 := n6_
       have GW716 := n7_
       have GE716 := n8_
       have NB697_716 := n9_
       have NB716_697 := n10_
       have NB698_716 := n11_
       have NB716_698 := n12_
       have NB715_716 := n13_
       have NB716_715 := n14_
       clear n0_ n1_ n2_ n3_ n4_ n5_ n6_ n7_ n8_ n9_ n10_ n11_ n12_ n13_ n14_
       clear hb hbox hg
       refine hK.out _ _ ⟨(blk_cell BK697.out 0).trans rfl, (blk_cell BK697.out 1).trans rfl, (blk_cell BK698.out 0).trans rfl, (blk_cell BK698.out 1).trans rfl⟩ (fun hHeld => ?_)
       clear hK K
       refine norm_ (a' := ?_) ?_ ?_
       rotate_left
       ·
        show Act.put _ (some 6) _ = _
        simp only [Act.put, List.setIfInBounds_toArray, List.set_cons_zero, List.set_cons_succ, i64_w, i32_w]
        rfl
       exact norm_ (by simp only [putAll, Act.put, List.setIfInBounds_toArray, List.set_cons_zero, List.set_cons_succ]; try rfl) (hJ7_8 (gb715, gb716) _ ⟨hHeld, (Kd.V_go (Kd.V_mono HO0_1.out (fun _ hk => ⟨hk.1.1, ⟨hk.1.2.1, ⟨hk.1.2.2.1, ⟨hk.1.2.2.2, hk.2⟩⟩⟩⟩))), (Kd.V_go (Kd.V_mono HO1_1.out (fun _ hk => ⟨hk.1.1, ⟨hk.1.2.1, ⟨hk.1.2.2.1, ⟨hk.1.2.2.2, hk.2⟩⟩⟩⟩))), (blk_go BK697.out), (blk_go BK698.out), (blk_go BK715.out), (blk_go BK716.out), GW715.out, GE715.out, NB697_715.out, NB715_697.out, NB698_715.out, NB715_698.out, NB716_715.out, NB715_716.out, GW716.out, GE716.out, NB697_716.out, NB716_697.out, NB698_716.out, NB716_698.out, (below_go HB.out)⟩)
    intro hJ7
    refine join_ (σ := Nat) 7 #[true, true, false, false, false, true, false, false, true, false, false] (fun s_ => [(6, .pointer (some ⟨s_, 0, none⟩))]) (fun s_ w' => (w'.cell? ⟨gb697, 0, none⟩ = some (.string a0_0) ∧ w'.cell? ⟨gb697, 1, none⟩ = some (.slice A0_1 l0_1.length c0_1) ∧ w'.cell? ⟨gb698, 0, none⟩ = some (.string a1_0) ∧ w'.cell? ⟨gb698, 1, none⟩ = some (.slice A1_1 l1_1.length c1_1)) ∧ (Kd.V k85 85 w' w.heap.size (fun k_ => ((P0_1_ k_ ∨ P1_1_ k_) ∨ w.heap.size ≤ k_) ∧ k_ ≠ gb697 ∧ k_ ≠ gb698 ∧ k_ ≠ s_) (.slice A0_1 l0_1.length c0_1) l0_1) ∧ (Kd.V k85 85 w' w.heap.size (fun k_ => ((P0_1_ k_ ∨ P1_1_ k_) ∨ w.heap.size ≤ k_) ∧ k_ ≠ gb697 ∧ k_ ≠ gb698 ∧ k_ ≠ s_) (.slice A1_1 l1_1.length c1_1) l1_1) ∧ (w'.heap[gb697]? = some (.cells #[.string a0_0, .slice A0_1 l0_1.length c0_1] 24 (0, 0))) ∧ (w'.heap[gb698]? = some (.cells #[.string a1_0, .slice A1_1 l1_1.length c1_1] 24 (0, 0))) ∧ (w'.heap[s_]? = some (.cells #[.string (⟨#[]⟩ : ByteArray), .slice none 0 0] 24 (0, 0))) ∧ (w.heap.size ≤ s_) ∧ (w.heap.size ≤ s_) ∧ (gb697 ≠ s_) ∧ (s_ ≠ gb697) ∧ (gb698 ≠ s_) ∧ (s_ ≠ gb698) ∧ (Below w.heap.size w w')) ?_ ?_
    ·
     ·
      skip
      rintro gb716 w21 ⟨hS_, h0_, h1_, h2_, h3_, h4_, h5_, h6_, h7_, h8_, h9_, h10_, h11_⟩
      have n0_ := Aside0.mk h0_
      have n1_ := Aside0.mk h1_
      have n2_ := Aside0.mk h2_
      have n3_ := Aside0.mk h3_
      have n4_ := Aside0.mk h4_
      have n5_ := Aside0.mk h5_
      have n6_ := Aside0.mk h6_
      have n7_ := Aside0.mk h7_
      have n8_ := Aside0.mk h8_
      have n9_ := Aside0.mk h9_
      have n10_ := Aside0.mk h10_
      have n11_ := Aside0.mk h11_
      clear HO0_1
      clear HO1_1
      clear BK697
      clear BK698
      clear HB
      clear h0_ h1_ h2_ h3_ h4_ h5_ h6_ h7_ h8_ h9_ h10_ h11_
      have HO0_1 := n0_
      have HO1_1 := n1_
      have BK697 := n2_
      have BK698 := n3_
      have BK716 := n4_
      have GW716 := n5_
      have GE716 := n6_
      have NB697_716 := n7_
      have NB716_697 := n8_
      have NB698_716 := n9_
      have NB716_698 := n10_
      have HB := n11_
      clear n0_ n1_ n2_ n3_ n4_ n5_ n6_ n7_ n8_ n9_ n10_ n11_
      have hHeld := hS_
      refine norm_ (a' := ?_) ?_ ?_
      rotate_left
      ·
       simp only [putAll, Act.put, List.setIfInBounds_toArray, List.set_cons_zero, List.set_cons_succ]
       rfl
      refine two_ (i := 2) (j := 7) (Ni := some 11) (Nj := some 5) #[true, true, true, false, false, true, false, false, true, false, false] #[true, true, false, false, false, true, false, true, true, false, false] rfl rfl rfl rfl (two_of HT_.out (by kernel_rfl)) (by decide) (by decide) (fun K hK => ?_) (fun K hK => ?_)
      ·
       skip
       refine Kd.N_lit_step k24 _ 24 ?hg (N' := 11) ?hd (xs := ([(⟨a0_0, l0_1⟩ : S24), (⟨a1_0, l1_1⟩ : S24)] : List (S24))) (inner := [.string a0_0, .slice A0_1 l0_1.length c0_1, .string a1_0, .slice A1_1 l1_1.length c1_1]) (ok := (fun k_ => ((P0_1_ k_ ∨ P1_1_ k_) ∨ w.heap.size ≤ k_) ∧ k_ ≠ gb697 ∧ k_ ≠ gb698 ∧ k_ ≠ gb716)) (okp := (fun k_ => ((P0_1_ k_ ∨ P1_1_ k_) ∨ w.heap.size ≤ k_) ∧ k_ ≠ gb697 ∧ k_ ≠ gb698 ∧ k_ ≠ gb716)) ?hr ?hp (fun _ hk => hk) ((show ∀ k_, w21.heap.size ≤ k_ → (fun k_ => ((P0_1_ k_ ∨ P1_1_ k_) ∨ w.heap.size ≤ k_) ∧ k_ ≠ gb697 ∧ k_ ≠ gb698 ∧ k_ ≠ gb716) k_ from fun k_ hk => ⟨(.inr (Nat.le_trans (below_size (below_go HB.out)) hk)), Kd.freshB (g := gb697) (o := .cells #[.string a0_0, .slice A0_1 l0_1.length c0_1] 24 (0, 0)) (blk_go BK697.out) k_ hk, Kd.freshB (g := gb698) (o := .cells #[.string a1_0, .slice A1_1 l1_1.length c1_1] 24 (0, 0)) (blk_go BK698.out) k_ hk, Kd.freshB (g := gb716) (o := .cells #[.string (⟨#[]⟩ : ByteArray), .slice none 0 0] 24 (0, 0)) (blk_go BK716.out) k_ hk⟩) _ (Nat.le_refl _)) (Below.refl _ _) (Nat.le_refl _) (by simp) ?_; (case hd => rfl); (case hg => rfl); (case hr => first | (go_simp; done) | (go_simp; rfl)); (case hp => exact (Reps.c2 (show Kd.FK k24 _ _ (⟨a0_0, l0_1⟩ : S24) [.string a0_0, .slice A0_1 l0_1.length c0_1] from (k24_mkF _ _ (⟨a0_0, l0_1⟩ : S24) (Kd.V_reads' (Kd.V_mono (ok' := (fun k_ => ((P0_1_ k_ ∨ P1_1_ k_) ∨ w.heap.size ≤ k_) ∧ k_ ≠ gb697 ∧ k_ ≠ gb698 ∧ k_ ≠ gb716)) (HO0_1.out) (fun k_ hk => ⟨hk.1, ⟨hk.2.1, ⟨hk.2.2.1, hk.2.2.2⟩⟩⟩))).2.1 (Kd.V_F (Kd.V_mono (ok' := (fun k_ => ((P0_1_ k_ ∨ P1_1_ k_) ∨ w.heap.size ≤ k_) ∧ k_ ≠ gb697 ∧ k_ ≠ gb698 ∧ k_ ≠ gb716)) (HO0_1.out) (fun k_ hk => ⟨hk.1, ⟨hk.2.1, ⟨hk.2.2.1, hk.2.2.2⟩⟩⟩))))) (Reps.c2 (show Kd.FK k24 _ _ (⟨a1_0, l1_1⟩ : S24) [.string a1_0, .slice A1_1 l1_1.length c1_1] from (k24_mkF _ _ (⟨a1_0, l1_1⟩ : S24) (Kd.V_reads' (Kd.V_mono (ok' := (fun k_ => ((P0_1_ k_ ∨ P1_1_ k_) ∨ w.heap.size ≤ k_) ∧ k_ ≠ gb697 ∧ k_ ≠ gb698 ∧ k_ ≠ gb716)) (HO1_1.out) (fun k_ hk => ⟨hk.1, ⟨hk.2.1, ⟨hk.2.2.1, hk.2.2.2⟩⟩⟩))).2.1 (Kd.V_F (Kd.V_mono (ok' := (fun k_ => ((P0_1_ k_ ∨ P1_1_ k_) ∨ w.heap.size ≤ k_) ∧ k_ ≠ gb697 ∧ k_ ≠ gb698 ∧ k_ ≠ gb716)) (HO1_1.out) (fun k_ hk => ⟨hk.1, ⟨hk.2.1, ⟨hk.2.2.1, hk.2.2.2⟩⟩⟩))))) (Reps.none _ _))))
       intro v701 w22 ho23 hb hg_ hnew_
       clear hg_ hnew_
       (first | rw [← Ny700.out] at ho23 | (simp only [Int.reduceToNat] at ho23; rw [← Ny700.out] at ho23))
       have n0_ := Aside0.mk (Kd.V_elder' (Kd.V_go HO0_1.out) (Kd.N_base ho23) hb)
       have n1_ := Aside0.mk (Kd.V_elder' (Kd.V_go HO1_1.out) (Kd.N_base ho23) hb)
       have n2_ := Aside0.mk (Kd.N_lower ho23 (below_size (below_go HB.out)))
       have n3_ := Aside0.mk (blk_below (blk_go BK697.out) hb)
       have n4_ := Aside0.mk (blk_below (blk_go BK698.out) hb)
       have n5_ := Aside0.mk (blk_below (blk_go BK716.out) hb)
       have n6_ := Aside0.mk (below_step (below_go HB.out) hb)
       clear HO0_1
       clear HO1_1
       clear BK697
       clear BK698
       clear BK716
       clear HB
       have HO0_1 := n0_
       have HO1_1 := n1_
       have HO702 := n2_
       have BK697 := n3_
       have BK698 := n4_
       have BK716 := n5_
       have HB := n6_
       clear n0_ n1_ n2_ n3_ n4_ n5_ n6_
       clear hb ho23
       refine hK.out _ _ ⟨(blk_cell BK697.out 0).trans rfl, (blk_cell BK697.out 1).trans rfl, (blk_cell BK698.out 0).trans rfl, (blk_cell BK698.out 1).trans rfl⟩ (fun hHeld => ?_)
       clear hK K
       refine norm_ (a' := ?_) ?_ ?_
       rotate_left
       ·
        show Act.put _ (some 11) _ = _
        simp only [Act.put, List.setIfInBounds_toArray, List.set_cons_zero, List.set_cons_succ, i64_w, i32_w]
        rfl
       exact norm_ (by simp only [putAll, Act.put, List.setIfInBounds_toArray, List.set_cons_zero, List.set_cons_succ]; try rfl) (hJ2_8 (v701, gb716) _ ⟨hHeld, (Kd.V_go (Kd.V_mono HO0_1.out (fun _ hk => ⟨hk.1.1, ⟨hk.2, ⟨hk.1.2.1, ⟨hk.1.2.2.1, hk.1.2.2.2⟩⟩⟩⟩))), (Kd.V_go (Kd.V_mono HO1_1.out (fun _ hk => ⟨hk.1.1, ⟨hk.2, ⟨hk.1.2.1, ⟨hk.1.2.2.1, hk.1.2.2.2⟩⟩⟩⟩))), (Kd.N_go HO702.out), (blk_go BK697.out), (blk_go BK698.out), (blk_go BK716.out), GW716.out, GE716.out, NB697_716.out, NB716_697.out, NB698_716.out, NB716_698.out, (below_go HB.out)⟩)
      ·
       skip
       refine box_step ?hg (N := 5) ?hd (cs := #[.string (⟨#[]⟩ : ByteArray), .slice none 0 0]) (t := 24) ?hr ?_; (case hd => rfl); (case hg => rfl); (case hr => first | (go_simp; done) | (go_simp; rfl))
       intro gb715 hg w22 hbox hb
       have n0_ := Aside0.mk (Kd.V_below (Kd.V_elderB (Kd.V_go HO0_1.out) gb715 (Nat.le_of_eq hg.symm)) hb)
       have n1_ := Aside0.mk (Kd.V_below (Kd.V_elderB (Kd.V_go HO1_1.out) gb715 (Nat.le_of_eq hg.symm)) hb)
       have n2_ := Aside0.mk (blk_below (blk_go BK697.out) hb)
       have n3_ := Aside0.mk (blk_below (blk_go BK698.out) hb)
       have n4_ := Aside0.mk (blk_below (blk_go BK716.out) hb)
       have n5_ := Aside0.mk (below_step (below_go HB.out) hb)
       have n6_ := Aside0.mk (hbox)
       have n7_ := Aside0.mk ((by rw [hg]; exact (below_size (below_go HB.out)) : w.heap.size ≤ gb715))
       have n8_ := Aside0.mk ((by rw [hg]; exact (below_size (below_go HB.out)) : w.heap.size ≤ gb715))
       have n9_ := Aside0.mk ((by rw [hg]; exact Nat.ne_of_lt (blk_lt (g := gb697) (o := .cells #[.string a0_0, .slice A0_1 l0_1.length c0_1] 24 (0, 0)) (blk_go BK697.out)) : gb697 ≠ gb715))
       have n10_ := Aside0.mk (blk_apart hg (blk_go BK697.out) : gb715 ≠ gb697)
       have n11_ := Aside0.mk ((by rw [hg]; exact Nat.ne_of_lt (blk_lt (g := gb698) (o := .cells #[.string a1_0, .slice A1_1 l1_1.length c1_1] 24 (0, 0)) (blk_go BK698.out)) : gb698 ≠ gb715))
       have n12_ := Aside0.mk (blk_apart hg (blk_go BK698.out) : gb715 ≠ gb698)
       have n13_ := Aside0.mk ((by rw [hg]; exact Nat.ne_of_lt (blk_lt (g := gb716) (o := .cells #[.string (⟨#[]⟩ : ByteArray), .slice none 0 0] 24 (0, 0)) (blk_go BK716.out)) : gb716 ≠ gb715))
       have n14_ := Aside0.mk (blk_apart hg (blk_go BK716.out) : gb715 ≠ gb716)
       clear HO0_1
       clear HO1_1
       clear BK697
       clear BK698
       clear BK716
       clear HB
       have HO0_1 := n0_
       have HO1_1 := n1_
       have BK697 := n2_
       have BK698 := n3_
       have BK716 := n4_
       have HB := n5_
       have BK715 := n6_
       have GW715 := n7_
       have GE715 := n8_
       have NB697_715 := n9_
       have NB715_697 := n10_
       have NB698_715 := n11_
       have NB715_698 := n12_
       have NB716_715 := n13_
       have NB715_716 := n14_
       clear n0_ n1_ n2_ n3_ n4_ n5_ n6_ n7_ n8_ n9_ n10_ n11_ n12_ n13_ n14_
       clear hb hbox hg
       refine hK.out _ _ ⟨(blk_cell BK697.out 0).trans rfl, (blk_cell BK697.out 1).trans rfl, (blk_cell BK698.out 0).trans rfl, (blk_cell BK698.out 1).trans rfl⟩ (fun hHeld => ?_)
       clear hK K
       refine norm_ (a' := ?_) ?_ ?_
       rotate_left
       ·
        show Act.put _ (some 5) _ = _
        simp only [Act.put, List.setIfInBounds_toArray, List.set_cons_zero, List.set_cons_succ, i64_w, i32_w]
        rfl
       exact norm_ (by simp only [putAll, Act.put, List.setIfInBounds_toArray, List.set_cons_zero, List.set_cons_succ]; try rfl) (hJ7_8 (gb715, gb716) _ ⟨hHeld, (Kd.V_go (Kd.V_mono HO0_1.out (fun _ hk => ⟨hk.1.1, ⟨hk.1.2.1, ⟨hk.1.2.2.1, ⟨hk.2, hk.1.2.2.2⟩⟩⟩⟩))), (Kd.V_go (Kd.V_mono HO1_1.out (fun _ hk => ⟨hk.1.1, ⟨hk.1.2.1, ⟨hk.1.2.2.1, ⟨hk.2, hk.1.2.2.2⟩⟩⟩⟩))), (blk_go BK697.out), (blk_go BK698.out), (blk_go BK715.out), (blk_go BK716.out), GW715.out, GE715.out, NB697_715.out, NB715_697.out, NB698_715.out, NB715_698.out, NB716_715.out, NB715_716.out, GW716.out, GE716.out, NB697_716.out, NB716_697.out, NB698_716.out, NB716_698.out, (below_go HB.out)⟩)
    intro hJ8
    refine three_ (i := 2) (j := 7) (k := 8) (Ni := some 11) (Nj := some 5) (Nk := some 6) #[true, true, true, false, false, true, false, false, false, false, false] #[true, true, false, false, false, true, false, true, false, false, false] #[true, true, false, false, false, true, false, false, true, false, false] rfl rfl rfl rfl rfl rfl (three_of HT_.out (by kernel_rfl)) (by decide) (by decide) (by decide) (fun K hK => ?_) (fun K hK => ?_) (fun K hK => ?_)
    ·
     skip
     refine Kd.N_lit_step k24 _ 24 ?hg (N' := 11) ?hd (xs := ([(⟨a0_0, l0_1⟩ : S24), (⟨a1_0, l1_1⟩ : S24)] : List (S24))) (inner := [.string a0_0, .slice A0_1 l0_1.length c0_1, .string a1_0, .slice A1_1 l1_1.length c1_1]) (ok := (fun k_ => ((P0_1_ k_ ∨ P1_1_ k_) ∨ w.heap.size ≤ k_) ∧ k_ ≠ gb697 ∧ k_ ≠ gb698)) (okp := (fun k_ => ((P0_1_ k_ ∨ P1_1_ k_) ∨ w.heap.size ≤ k_) ∧ k_ ≠ gb697 ∧ k_ ≠ gb698)) ?hr ?hp (fun _ hk => hk) ((show ∀ k_, w19.heap.size ≤ k_ → (fun k_ => ((P0_1_ k_ ∨ P1_1_ k_) ∨ w.heap.size ≤ k_) ∧ k_ ≠ gb697 ∧ k_ ≠ gb698) k_ from fun k_ hk => ⟨(.inr (Nat.le_trans (below_size (below_go HB.out)) hk)), Kd.freshB (g := gb697) (o := .cells #[.string a0_0, .slice A0_1 l0_1.length c0_1] 24 (0, 0)) (blk_go BK697.out) k_ hk, Kd.freshB (g := gb698) (o := .cells #[.string a1_0, .slice A1_1 l1_1.length c1_1] 24 (0, 0)) (blk_go BK698.out) k_ hk⟩) _ (Nat.le_refl _)) (Below.refl _ _) (Nat.le_refl _) (by simp) ?_; (case hd => rfl); (case hg => rfl); (case hr => first | (go_simp; done) | (go_simp; rfl)); (case hp => exact (Reps.c2 (show Kd.FK k24 _ _ (⟨a0_0, l0_1⟩ : S24) [.string a0_0, .slice A0_1 l0_1.length c0_1] from (k24_mkF _ _ (⟨a0_0, l0_1⟩ : S24) (Kd.V_reads' (Kd.V_mono (ok' := (fun k_ => ((P0_1_ k_ ∨ P1_1_ k_) ∨ w.heap.size ≤ k_) ∧ k_ ≠ gb697 ∧ k_ ≠ gb698)) (HO0_1.out) (fun k_ hk => ⟨hk.1.1, ⟨hk.1.2, hk.2⟩⟩))).2.1 (Kd.V_F (Kd.V_mono (ok' := (fun k_ => ((P0_1_ k_ ∨ P1_1_ k_) ∨ w.heap.size ≤ k_) ∧ k_ ≠ gb697 ∧ k_ ≠ gb698)) (HO0_1.out) (fun k_ hk => ⟨hk.1.1, ⟨hk.1.2, hk.2⟩⟩))))) (Reps.c2 (show Kd.FK k24 _ _ (⟨a1_0, l1_1⟩ : S24) [.string a1_0, .slice A1_1 l1_1.length c1_1] from (k24_mkF _ _ (⟨a1_0, l1_1⟩ : S24) (Kd.V_reads' (Kd.V_mono (ok' := (fun k_ => ((P0_1_ k_ ∨ P1_1_ k_) ∨ w.heap.size ≤ k_) ∧ k_ ≠ gb697 ∧ k_ ≠ gb698)) (HO1_1.out) (fun k_ hk => ⟨hk.1.1, ⟨hk.1.2, hk.2⟩⟩))).2.1 (Kd.V_F (Kd.V_mono (ok' := (fun k_ => ((P0_1_ k_ ∨ P1_1_ k_) ∨ w.heap.size ≤ k_) ∧ k_ ≠ gb697 ∧ k_ ≠ gb698)) (HO1_1.out) (fun k_ hk => ⟨hk.1.1, ⟨hk.1.2, hk.2⟩⟩))))) (Reps.none _ _))))
     intro v701 w20 ho21 hb hg_ hnew_
     clear hg_ hnew_
     (first | rw [← Ny700.out] at ho21 | (simp only [Int.reduceToNat] at ho21; rw [← Ny700.out] at ho21))
     have n0_ := Aside0.mk (Kd.V_elder' (Kd.V_go HO0_1.out) (Kd.N_base ho21) hb)
     have n1_ := Aside0.mk (Kd.V_elder' (Kd.V_go HO1_1.out) (Kd.N_base ho21) hb)
     have n2_ := Aside0.mk (Kd.N_lower ho21 (below_size (below_go HB.out)))
     have n3_ := Aside0.mk (blk_below (blk_go BK697.out) hb)
     have n4_ := Aside0.mk (blk_below (blk_go BK698.out) hb)
     have n5_ := Aside0.mk (below_step (below_go HB.out) hb)
     clear HO0_1
     clear HO1_1
     clear BK697
     clear BK698
     clear HB
     have HO0_1 := n0_
     have HO1_1 := n1_
     have HO702 := n2_
     have BK697 := n3_
     have BK698 := n4_
     have HB := n5_
     clear n0_ n1_ n2_ n3_ n4_ n5_
     clear hb ho21
     refine hK.out _ _ ⟨(blk_cell BK697.out 0).trans rfl, (blk_cell BK697.out 1).trans rfl, (blk_cell BK698.out 0).trans rfl, (blk_cell BK698.out 1).trans rfl⟩ (fun hHeld => ?_)
     clear hK K
     refine norm_ (a' := ?_) ?_ ?_
     rotate_left
     ·
      show Act.put _ (some 11) _ = _
      simp only [Act.put, List.setIfInBounds_toArray, List.set_cons_zero, List.set_cons_succ, i64_w, i32_w]
      rfl
     exact norm_ (by simp only [putAll, Act.put, List.setIfInBounds_toArray, List.set_cons_zero, List.set_cons_succ]; try rfl) (hJ2 (v701) _ ⟨hHeld, (Kd.V_go (Kd.V_mono HO0_1.out (fun _ hk => ⟨hk.1.1.1, ⟨hk.2, ⟨hk.1.1.2, hk.1.2⟩⟩⟩))), (Kd.V_go (Kd.V_mono HO1_1.out (fun _ hk => ⟨hk.1.1.1, ⟨hk.2, ⟨hk.1.1.2, hk.1.2⟩⟩⟩))), (Kd.N_go HO702.out), (blk_go BK697.out), (blk_go BK698.out), (below_go HB.out)⟩)
    ·
     skip
     refine box_step ?hg (N := 5) ?hd (cs := #[.string (⟨#[]⟩ : ByteArray), .slice none 0 0]) (t := 24) ?hr ?_; (case hd => rfl); (case hg => rfl); (case hr => first | (go_simp; done) | (go_simp; rfl))
     intro gb715 hg w20 hbox hb
     have n0_ := Aside0.mk (Kd.V_below (Kd.V_elderB (Kd.V_go HO0_1.out) gb715 (Nat.le_of_eq hg.symm)) hb)
     have n1_ := Aside0.mk (Kd.V_below (Kd.V_elderB (Kd.V_go HO1_1.out) gb715 (Nat.le_of_eq hg.symm)) hb)
     have n2_ := Aside0.mk (blk_below (blk_go BK697.out) hb)
     have n3_ := Aside0.mk (blk_below (blk_go BK698.out) hb)
     have n4_ := Aside0.mk (below_step (below_go HB.out) hb)
     have n5_ := Aside0.mk (hbox)
     have n6_ := Aside0.mk ((by rw [hg]; exact (below_size (below_go HB.out)) : w.heap.size ≤ gb715))
     have n7_ := Aside0.mk ((by rw [hg]; exact (below_size (below_go HB.out)) : w.heap.size ≤ gb715))
     have n8_ := Aside0.mk ((by rw [hg]; exact Nat.ne_of_lt (blk_lt (g := gb697) (o := .cells #[.string a0_0, .slice A0_1 l0_1.length c0_1] 24 (0, 0)) (blk_go BK697.out)) : gb697 ≠ gb715))
     have n9_ := Aside0.mk (blk_apart hg (blk_go BK697.out) : gb715 ≠ gb697)
     have n10_ := Aside0.mk ((by rw [hg]; exact Nat.ne_of_lt (blk_lt (g := gb698) (o := .cells #[.string a1_0, .slice A1_1 l1_1.length c1_1] 24 (0, 0)) (blk_go BK698.out)) : gb698 ≠ gb715))
     have n11_ := Aside0.mk (blk_apart hg (blk_go BK698.out) : gb715 ≠ gb698)
     clear HO0_1
     clear HO1_1
     clear BK697
     clear BK698
     clear HB
     have HO0_1 := n0_
     have HO1_1 := n1_
     have BK697 := n2_
     have BK698 := n3_
     have HB := n4_
     have BK715 := n5_
     have GW715 := n6_
     have GE715 := n7_
     have NB697_715 := n8_
     have NB715_697 := n9_
     have NB698_715 := n10_
     have NB715_698 := n11_
     clear n0_ n1_ n2_ n3_ n4_ n5_ n6_ n7_ n8_ n9_ n10_ n11_
     clear hb hbox hg
     refine hK.out _ _ ⟨(blk_cell BK697.out 0).trans rfl, (blk_cell BK697.out 1).trans rfl, (blk_cell BK698.out 0).trans rfl, (blk_cell BK698.out 1).trans rfl⟩ (fun hHeld => ?_)
     clear hK K
     refine norm_ (a' := ?_) ?_ ?_
     rotate_left
     ·
      show Act.put _ (some 5) _ = _
      simp only [Act.put, List.setIfInBounds_toArray, List.set_cons_zero, List.set_cons_succ, i64_w, i32_w]
      rfl
     exact norm_ (by simp only [putAll, Act.put, List.setIfInBounds_toArray, List.set_cons_zero, List.set_cons_succ]; try rfl) (hJ7 (gb715) _ ⟨hHeld, (Kd.V_go (Kd.V_mono HO0_1.out (fun _ hk => ⟨hk.1.1.1, ⟨hk.1.1.2, ⟨hk.1.2, hk.2⟩⟩⟩))), (Kd.V_go (Kd.V_mono HO1_1.out (fun _ hk => ⟨hk.1.1.1, ⟨hk.1.1.2, ⟨hk.1.2, hk.2⟩⟩⟩))), (blk_go BK697.out), (blk_go BK698.out), (blk_go BK715.out), GW715.out, GE715.out, NB697_715.out, NB715_697.out, NB698_715.out, NB715_698.out, (below_go HB.out)⟩)
    ·
     skip
     refine box_step ?hg (N := 6) ?hd (cs := #[.string (⟨#[]⟩ : ByteArray), .slice none 0 0]) (t := 24) ?hr ?_; (case hd => rfl); (case hg => rfl); (case hr => first | (go_simp; done) | (go_simp; rfl))
     intro gb716 hg w20 hbox hb
     have n0_ := Aside0.mk (Kd.V_below (Kd.V_elderB (Kd.V_go HO0_1.out) gb716 (Nat.le_of_eq hg.symm)) hb)
     have n1_ := Aside0.mk (Kd.V_below (Kd.V_elderB (Kd.V_go HO1_1.out) gb716 (Nat.le_of_eq hg.symm)) hb)
     have n2_ := Aside0.mk (blk_below (blk_go BK697.out) hb)
     have n3_ := Aside0.mk (blk_below (blk_go BK698.out) hb)
     have n4_ := Aside0.mk (below_step (below_go HB.out) hb)
     have n5_ := Aside0.mk (hbox)
     have n6_ := Aside0.mk ((by rw [hg]; exact (below_size (below_go HB.out)) : w.heap.size ≤ gb716))
     have n7_ := Aside0.mk ((by rw [hg]; exact (below_size (below_go HB.out)) : w.heap.size ≤ gb716))
     have n8_ := Aside0.mk ((by rw [hg]; exact Nat.ne_of_lt (blk_lt (g := gb697) (o := .cells #[.string a0_0, .slice A0_1 l0_1.length c0_1] 24 (0, 0)) (blk_go BK697.out)) : gb697 ≠ gb716))
     have n9_ := Aside0.mk (blk_apart hg (blk_go BK697.out) : gb716 ≠ gb697)
     have n10_ := Aside0.mk ((by rw [hg]; exact Nat.ne_of_lt (blk_lt (g := gb698) (o := .cells #[.string a1_0, .slice A1_1 l1_1.length c1_1] 24 (0, 0)) (blk_go BK698.out)) : gb698 ≠ gb716))
     have n11_ := Aside0.mk (blk_apart hg (blk_go BK698.out) : gb716 ≠ gb698)
     clear HO0_1
     clear HO1_1
     clear BK697
     clear BK698
     clear HB
     have HO0_1 := n0_
     have HO1_1 := n1_
     have BK697 := n2_
     have BK698 := n3_
     have HB := n4_
     have BK716 := n5_
     have GW716 := n6_
     have GE716 := n7_
     have NB697_716 := n8_
     have NB716_697 := n9_
     have NB698_716 := n10_
     have NB716_698 := n11_
     clear n0_ n1_ n2_ n3_ n4_ n5_ n6_ n7_ n8_ n9_ n10_ n11_
     clear hb hbox hg
     refine hK.out _ _ ⟨(blk_cell BK697.out 0).trans rfl, (blk_cell BK697.out 1).trans rfl, (blk_cell BK698.out 0).trans rfl, (blk_cell BK698.out 1).trans rfl⟩ (fun hHeld => ?_)
     clear hK K
     refine norm_ (a' := ?_) ?_ ?_
     rotate_left
     ·
      show Act.put _ (some 6) _ = _
      simp only [Act.put, List.setIfInBounds_toArray, List.set_cons_zero, List.set_cons_succ, i64_w, i32_w]
      rfl
     exact norm_ (by simp only [putAll, Act.put, List.setIfInBounds_toArray, List.set_cons_zero, List.set_cons_succ]; try rfl) (hJ8 (gb716) _ ⟨hHeld, (Kd.V_go (Kd.V_mono HO0_1.out (fun _ hk => ⟨hk.1.1.1, ⟨hk.1.1.2, ⟨hk.1.2, hk.2⟩⟩⟩))), (Kd.V_go (Kd.V_mono HO1_1.out (fun _ hk => ⟨hk.1.1.1, ⟨hk.1.1.2, ⟨hk.1.2, hk.2⟩⟩⟩))), (blk_go BK697.out), (blk_go BK698.out), (blk_go BK716.out), GW716.out, GE716.out, NB697_716.out, NB716_697.out, NB698_716.out, NB716_698.out, (below_go HB.out)⟩)
   ·
    rw [if_neg c15] at H
    have c15b0 : (t733 == t734) = false := beq_eq_false_iff_ne.mpr c15
    have c15b1 : (t733 != t734) = true := bne_iff_ne.mpr c15
    exact absurd H (by simp)
  ·
   replace c12 := Bool.eq_false_iff.mpr c12
   subst c12
   have H1 : (none) = some r := by rw [if_neg (show ¬ (false = true) by decide)] at H; exact H
   clear H
   have H := H1
   clear H1
   exact absurd H (by simp)
 ·
  replace c4 := Bool.eq_false_iff.mpr c4
  subst c4
  have H1 : (none) = some r := by rw [if_neg (show ¬ (false = true) by decide)] at H; exact H
  clear H
  have H := H1
  clear H1
  exact absurd H (by simp)

end Go.Proofs.Ytljmmhihdcnbaaa.G
