-- Written for this claim by hybrid.py's copy of the print program (a program of this session); not trusted: Lean checks it.
import Derived.Test.YtljmmhihdcnbaaaG0
import Derived.Test.YtljmmhihdcnbaaaG13
import Derived.Test.YtljmmhihdcnbaaaG15
import Derived.Test.YtljmmhihdcnbaaaG55
import Derived.Test.YtljmmhihdcnbaaaG61
import Derived.Test.YtljmmhihdcnbaaaG62
import Derived.Test.YtljmmhihdcnbaaaG63
import Derived.Test.YtljmmhihdcnbaaaG68
import Derived.Test.YtljmmhihdcnbaaaG69
import Derived.Test.YtljmmhihdcnbaaaG72
namespace Go.Proofs.Ytljmmhihdcnbaaa.G
open Go.RowKit Go.Proofs.YtljmmhihdcnbaaaW.PrintWords Go.Proofs.YtljmmhihdcnbaaaW.PrintLast Go.Proofs.YtljmmhihdcnbaaaW.PrintMore
attribute [local go_sem] max2_int min2_int max_two min_two max_three min_three max_four min_four   -- for this text's walks alone
set_option linter.unusedVariables false
set_option linter.unusedSimpArgs false

/-! ### glazierlaw47_BlanksTells: function 10 -/
mutual
def glazierlaw47_BlanksTells.l0 : Nat → ByteArray → List (S45) → List (S29) → List ByteArray → Int → Int → Option (Bool)
 | 0, _, _, _, _, _, _ => none
 | k + 1, x0, x1, x5, x6, x7, x8 => if x8 < (x0.size : Int) then (glazierlaw47_BlanksTells.l1 k x0 x1 x5 x6 x7 x8 (wrap64 (x8 + 1))) else ((blanks_Fill.f k x0 x1).bind fun bt780 => ((glazierref01_Is.f k bt780.1 bt780.2 x5).bind fun t784 => (if t784 = true then ((blanks_Names.f k x0).bind fun t785 => ((glazierplain_Texts.f k t785 x6).bind fun t788 => (if t788 = true then ((blanks_Count.f k x0).bind fun t789 => (some (t789 == x7))) else (none)))) else (none))))
def glazierlaw47_BlanksTells.j2 : Nat → ByteArray → List (S45) → List (S29) → List ByteArray → Int → Int → Int → Option (Bool)
 | 0, _, _, _, _, _, _, _ => none
 | k + 1, x0, x1, x5, x6, x7, x8, x9 => if 0 ≤ x8 then (if x8 < (x0.size : Int) then (if (bt x0 x8) = 123 then (if (wrap64 (x8 + 1)) < (x0.size : Int) then (if 0 ≤ (wrap64 (x8 + 1)) then (glazierlaw47_BlanksTells.j3 k x0 x1 x5 x6 x7 x8 x9 ((bt x0 (wrap64 (x8 + 1))) == 123)) else (none)) else (glazierlaw47_BlanksTells.j3 k x0 x1 x5 x6 x7 x8 x9 false)) else (glazierlaw47_BlanksTells.j3 k x0 x1 x5 x6 x7 x8 x9 false)) else (none)) else (none)
def glazierlaw47_BlanksTells.j3 : Nat → ByteArray → List (S45) → List (S29) → List ByteArray → Int → Int → Int → Bool → Option (Bool)
 | 0, _, _, _, _, _, _, _, _ => none
 | k + 1, x0, x1, x5, x6, x7, x8, x9, x50 => if x50 = true then (if x5.length < 8796093022208 then (glazierlaw47_BlanksTells.l0 k x0 x1 (x5 ++ [(⟨123, 0⟩ : S29)]) x6 x7 (wrap64 ((wrap64 (x8 + 1)) + 1))) else (none)) else (if 0 ≤ x8 then (if x8 < (x0.size : Int) then (if (bt x0 x8) = 123 then (if x9 > (wrap64 (x8 + 1)) then (if x9 < (x0.size : Int) then (if 0 ≤ x9 then (glazierlaw47_BlanksTells.j4 k x0 x1 x5 x6 x7 x8 x9 ((bt x0 x9) == 125)) else (none)) else (glazierlaw47_BlanksTells.j4 k x0 x1 x5 x6 x7 x8 x9 false)) else (glazierlaw47_BlanksTells.j4 k x0 x1 x5 x6 x7 x8 x9 false)) else (glazierlaw47_BlanksTells.j4 k x0 x1 x5 x6 x7 x8 x9 false)) else (none)) else (none))
def glazierlaw47_BlanksTells.j4 : Nat → ByteArray → List (S45) → List (S29) → List ByteArray → Int → Int → Int → Bool → Option (Bool)
 | 0, _, _, _, _, _, _, _, _ => none
 | k + 1, x0, x1, x5, x6, x7, x8, x9, x75 => if x75 = true then (if 0 ≤ (wrap64 (x8 + 1)) then (if (wrap64 (x8 + 1)) ≤ x9 then (if x9 ≤ (x0.size : Int) then ((attrs_Get.f k x1 (x0.extract ((wrap64 (x8 + 1)) : Int).toNat (x9 : Int).toNat)).bind fun bt761 => ((glazierref01_Of.f k bt761.1 bt761.2.1).bind fun t767 => ((glazierref01_Cat.f x5 t767).bind fun t770 => (glazierlaw47_BlanksTells.l2 k x0 x1 t770 x6 (wrap64 (x7 + 1)) x9 (x0.extract ((wrap64 (x8 + 1)) : Int).toNat (x9 : Int).toNat) false 0)))) else (none)) else (none)) else (none)) else (if 0 ≤ x8 then (if x8 < (x0.size : Int) then (if x5.length < 8796093022208 then (glazierlaw47_BlanksTells.l0 k x0 x1 (x5 ++ [(⟨bt x0 x8, 0⟩ : S29)]) x6 x7 (wrap64 (x8 + 1))) else (none)) else (none)) else (none))
def glazierlaw47_BlanksTells.l2 : Nat → ByteArray → List (S45) → List (S29) → List ByteArray → Int → Int → ByteArray → Bool → Int → Option (Bool)
 | 0, _, _, _, _, _, _, _, _, _ => none
 | k + 1, x0, x1, x5, x6, x7, x9, x10, x13, x14 => if x14 < (x6.length : Int) then (if x13 = true then (glazierlaw47_BlanksTells.l2 k x0 x1 x5 x6 x7 x9 x10 true (wrap64 (x14 + 1))) else (if 0 ≤ x14 then (glazierlaw47_BlanksTells.l2 k x0 x1 x5 x6 x7 x9 x10 ((rdOf ByteArray.empty x6 x14).toList == x10.toList) (wrap64 (x14 + 1))) else (none))) else (if x13 = true then (glazierlaw47_BlanksTells.l0 k x0 x1 x5 x6 x7 (wrap64 (x9 + 1))) else (if x6.length < 8796093022208 then (glazierlaw47_BlanksTells.l0 k x0 x1 x5 (x6 ++ [x10]) x7 (wrap64 (x9 + 1))) else (none)))
def glazierlaw47_BlanksTells.l1 : Nat → ByteArray → List (S45) → List (S29) → List ByteArray → Int → Int → Int → Option (Bool)
 | 0, _, _, _, _, _, _, _ => none
 | k + 1, x0, x1, x5, x6, x7, x8, x9 => if x9 < (x0.size : Int) then (if 0 ≤ x9 then (if (bt x0 x9) ≥ 97 then (if (bt x0 x9) ≤ 122 then (glazierlaw47_BlanksTells.l1 k x0 x1 x5 x6 x7 x8 (wrap64 (x9 + 1))) else (glazierlaw47_BlanksTells.j2 k x0 x1 x5 x6 x7 x8 x9)) else (glazierlaw47_BlanksTells.j2 k x0 x1 x5 x6 x7 x8 x9)) else (none)) else (glazierlaw47_BlanksTells.j2 k x0 x1 x5 x6 x7 x8 x9)
end
def glazierlaw47_BlanksTells.f (k : Nat) (a0 : ByteArray) (l1 : List (S45)) : Option (Bool) := (glazierlaw47_alive.f k).bind fun t757 => (if t757 = true then (glazierlaw47_BlanksTells.l0 k a0 l1 ([] : List (S29)) ([] : List ByteArray) 0 0) else (none))
theorem glazierlaw47_BlanksTells.mono_l : ∀ k, (∀ y0 y1 y2 y3 y4 y5, LeO (glazierlaw47_BlanksTells.l0 k y0 y1 y2 y3 y4 y5) (glazierlaw47_BlanksTells.l0 (k + 1) y0 y1 y2 y3 y4 y5)) ∧ (∀ y0 y1 y2 y3 y4 y5 y6, LeO (glazierlaw47_BlanksTells.j2 k y0 y1 y2 y3 y4 y5 y6) (glazierlaw47_BlanksTells.j2 (k + 1) y0 y1 y2 y3 y4 y5 y6)) ∧ (∀ y0 y1 y2 y3 y4 y5 y6 y7, LeO (glazierlaw47_BlanksTells.j3 k y0 y1 y2 y3 y4 y5 y6 y7) (glazierlaw47_BlanksTells.j3 (k + 1) y0 y1 y2 y3 y4 y5 y6 y7)) ∧ (∀ y0 y1 y2 y3 y4 y5 y6 y7, LeO (glazierlaw47_BlanksTells.j4 k y0 y1 y2 y3 y4 y5 y6 y7) (glazierlaw47_BlanksTells.j4 (k + 1) y0 y1 y2 y3 y4 y5 y6 y7)) ∧ (∀ y0 y1 y2 y3 y4 y5 y6 y7 y8, LeO (glazierlaw47_BlanksTells.l2 k y0 y1 y2 y3 y4 y5 y6 y7 y8) (glazierlaw47_BlanksTells.l2 (k + 1) y0 y1 y2 y3 y4 y5 y6 y7 y8)) ∧ (∀ y0 y1 y2 y3 y4 y5 y6, LeO (glazierlaw47_BlanksTells.l1 k y0 y1 y2 y3 y4 y5 y6) (glazierlaw47_BlanksTells.l1 (k + 1) y0 y1 y2 y3 y4 y5 y6))
 | 0 => ⟨fun _ _ _ _ _ _ r h => by simp [glazierlaw47_BlanksTells.l0] at h, fun _ _ _ _ _ _ _ r h => by simp [glazierlaw47_BlanksTells.j2] at h, fun _ _ _ _ _ _ _ _ r h => by simp [glazierlaw47_BlanksTells.j3] at h, fun _ _ _ _ _ _ _ _ r h => by simp [glazierlaw47_BlanksTells.j4] at h, fun _ _ _ _ _ _ _ _ _ r h => by simp [glazierlaw47_BlanksTells.l2] at h, fun _ _ _ _ _ _ _ r h => by simp [glazierlaw47_BlanksTells.l1] at h⟩
 | k + 1 => by
  obtain ⟨ih0, ih1, ih2, ih3, ih4, ih5⟩ := glazierlaw47_BlanksTells.mono_l k
  refine ⟨?_, ?_, ?_, ?_, ?_, ?_⟩
  ·
   intro y0 y1 y2 y3 y4 y5
   unfold glazierlaw47_BlanksTells.l0
   repeat' first
   | (with_reducible exact ih0 _ _ _ _ _ _)
   | (with_reducible exact ih1 _ _ _ _ _ _ _)
   | (with_reducible exact ih2 _ _ _ _ _ _ _ _)
   | (with_reducible exact ih3 _ _ _ _ _ _ _ _)
   | (with_reducible exact ih4 _ _ _ _ _ _ _ _ _)
   | (with_reducible exact ih5 _ _ _ _ _ _ _)
   | (with_reducible exact attrs_Get.mono _ _ _)
   | (with_reducible exact blanks_Count.mono _ _)
   | (with_reducible exact blanks_Fill.mono _ _ _)
   | (with_reducible exact blanks_Names.mono _ _)
   | (with_reducible exact glazierlaw47_alive.mono _)
   | (with_reducible exact glazierplain_Texts.mono _ _ _)
   | (with_reducible exact glazierref01_Is.mono _ _ _ _)
   | (with_reducible exact glazierref01_Of.mono _ _ _)
   | (with_reducible exact LeO.refl _)
   | (with_reducible exact LeO.none _)
   | (with_reducible refine LeO.ite ?_ ?_)
   | (with_reducible refine LeO.bind ?_ (fun _ => ?_))
   | exact ih0 _ _ _ _ _ _
   | exact ih1 _ _ _ _ _ _ _
   | exact ih2 _ _ _ _ _ _ _ _
   | exact ih3 _ _ _ _ _ _ _ _
   | exact ih4 _ _ _ _ _ _ _ _ _
   | exact ih5 _ _ _ _ _ _ _
   | exact attrs_Get.mono _ _ _
   | exact blanks_Count.mono _ _
   | exact blanks_Fill.mono _ _ _
   | exact blanks_Names.mono _ _
   | exact glazierlaw47_alive.mono _
   | exact glazierplain_Texts.mono _ _ _
   | exact glazierref01_Is.mono _ _ _ _
   | exact glazierref01_Of.mono _ _ _
   | exact LeO.none _
   | refine LeO.ite ?_ ?_
   | refine LeO.bind ?_ (fun _ => ?_)
  ·
   intro y0 y1 y2 y3 y4 y5 y6
   unfold glazierlaw47_BlanksTells.j2
   repeat' first
   | (with_reducible exact ih0 _ _ _ _ _ _)
   | (with_reducible exact ih1 _ _ _ _ _ _ _)
   | (with_reducible exact ih2 _ _ _ _ _ _ _ _)
   | (with_reducible exact ih3 _ _ _ _ _ _ _ _)
   | (with_reducible exact ih4 _ _ _ _ _ _ _ _ _)
   | (with_reducible exact ih5 _ _ _ _ _ _ _)
   | (with_reducible exact attrs_Get.mono _ _ _)
   | (with_reducible exact blanks_Count.mono _ _)
   | (with_reducible exact blanks_Fill.mono _ _ _)
   | (with_reducible exact blanks_Names.mono _ _)
   | (with_reducible exact glazierlaw47_alive.mono _)
   | (with_reducible exact glazierplain_Texts.mono _ _ _)
   | (with_reducible exact glazierref01_Is.mono _ _ _ _)
   | (with_reducible exact glazierref01_Of.mono _ _ _)
   | (with_reducible exact LeO.refl _)
   | (with_reducible exact LeO.none _)
   | (with_reducible refine LeO.ite ?_ ?_)
   | (with_reducible refine LeO.bind ?_ (fun _ => ?_))
   | exact ih0 _ _ _ _ _ _
   | exact ih1 _ _ _ _ _ _ _
   | exact ih2 _ _ _ _ _ _ _ _
   | exact ih3 _ _ _ _ _ _ _ _
   | exact ih4 _ _ _ _ _ _ _ _ _
   | exact ih5 _ _ _ _ _ _ _
   | exact attrs_Get.mono _ _ _
   | exact blanks_Count.mono _ _
   | exact blanks_Fill.mono _ _ _
   | exact blanks_Names.mono _ _
   | exact glazierlaw47_alive.mono _
   | exact glazierplain_Texts.mono _ _ _
   | exact glazierref01_Is.mono _ _ _ _
   | exact glazierref01_Of.mono _ _ _
   | exact LeO.none _
   | refine LeO.ite ?_ ?_
   | refine LeO.bind ?_ (fun _ => ?_)
  ·
   intro y0 y1 y2 y3 y4 y5 y6 y7
   unfold glazierlaw47_BlanksTells.j3
   repeat' first
   | (with_reducible exact ih0 _ _ _ _ _ _)
   | (with_reducible exact ih1 _ _ _ _ _ _ _)
   | (with_reducible exact ih2 _ _ _ _ _ _ _ _)
   | (with_reducible exact ih3 _ _ _ _ _ _ _ _)
   | (with_reducible exact ih4 _ _ _ _ _ _ _ _ _)
   | (with_reducible exact ih5 _ _ _ _ _ _ _)
   | (with_reducible exact attrs_Get.mono _ _ _)
   | (with_reducible exact blanks_Count.mono _ _)
   | (with_reducible exact blanks_Fill.mono _ _ _)
   | (with_reducible exact blanks_Names.mono _ _)
   | (with_reducible exact glazierlaw47_alive.mono _)
   | (with_reducible exact glazierplain_Texts.mono _ _ _)
   | (with_reducible exact glazierref01_Is.mono _ _ _ _)
   | (with_reducible exact glazierref01_Of.mono _ _ _)
   | (with_reducible exact LeO.refl _)
   | (with_reducible exact LeO.none _)
   | (with_reducible refine LeO.ite ?_ ?_)
   | (with_reducible refine LeO.bind ?_ (fun _ => ?_))
   | exact ih0 _ _ _ _ _ _
   | exact ih1 _ _ _ _ _ _ _
   | exact ih2 _ _ _ _ _ _ _ _
   | exact ih3 _ _ _ _ _ _ _ _
   | exact ih4 _ _ _ _ _ _ _ _ _
   | exact ih5 _ _ _ _ _ _ _
   | exact attrs_Get.mono _ _ _
   | exact blanks_Count.mono _ _
   | exact blanks_Fill.mono _ _ _
   | exact blanks_Names.mono _ _
   | exact glazierlaw47_alive.mono _
   | exact glazierplain_Texts.mono _ _ _
   | exact glazierref01_Is.mono _ _ _ _
   | exact glazierref01_Of.mono _ _ _
   | exact LeO.none _
   | refine LeO.ite ?_ ?_
   | refine LeO.bind ?_ (fun _ => ?_)
  ·
   intro y0 y1 y2 y3 y4 y5 y6 y7
   unfold glazierlaw47_BlanksTells.j4
   repeat' first
   | (with_reducible exact ih0 _ _ _ _ _ _)
   | (with_reducible exact ih1 _ _ _ _ _ _ _)
   | (with_reducible exact ih2 _ _ _ _ _ _ _ _)
   | (with_reducible exact ih3 _ _ _ _ _ _ _ _)
   | (with_reducible exact ih4 _ _ _ _ _ _ _ _ _)
   | (with_reducible exact ih5 _ _ _ _ _ _ _)
   | (with_reducible exact attrs_Get.mono _ _ _)
   | (with_reducible exact blanks_Count.mono _ _)
   | (with_reducible exact blanks_Fill.mono _ _ _)
   | (with_reducible exact blanks_Names.mono _ _)
   | (with_reducible exact glazierlaw47_alive.mono _)
   | (with_reducible exact glazierplain_Texts.mono _ _ _)
   | (with_reducible exact glazierref01_Is.mono _ _ _ _)
   | (with_reducible exact glazierref01_Of.mono _ _ _)
   | (with_reducible exact LeO.refl _)
   | (with_reducible exact LeO.none _)
   | (with_reducible refine LeO.ite ?_ ?_)
   | (with_reducible refine LeO.bind ?_ (fun _ => ?_))
   | exact ih0 _ _ _ _ _ _
   | exact ih1 _ _ _ _ _ _ _
   | exact ih2 _ _ _ _ _ _ _ _
   | exact ih3 _ _ _ _ _ _ _ _
   | exact ih4 _ _ _ _ _ _ _ _ _
   | exact ih5 _ _ _ _ _ _ _
   | exact attrs_Get.mono _ _ _
   | exact blanks_Count.mono _ _
   | exact blanks_Fill.mono _ _ _
   | exact blanks_Names.mono _ _
   | exact glazierlaw47_alive.mono _
   | exact glazierplain_Texts.mono _ _ _
   | exact glazierref01_Is.mono _ _ _ _
   | exact glazierref01_Of.mono _ _ _
   | exact LeO.none _
   | refine LeO.ite ?_ ?_
   | refine LeO.bind ?_ (fun _ => ?_)
  ·
   intro y0 y1 y2 y3 y4 y5 y6 y7 y8
   unfold glazierlaw47_BlanksTells.l2
   repeat' first
   | (with_reducible exact ih0 _ _ _ _ _ _)
   | (with_reducible exact ih1 _ _ _ _ _ _ _)
   | (with_reducible exact ih2 _ _ _ _ _ _ _ _)
   | (with_reducible exact ih3 _ _ _ _ _ _ _ _)
   | (with_reducible exact ih4 _ _ _ _ _ _ _ _ _)
   | (with_reducible exact ih5 _ _ _ _ _ _ _)
   | (with_reducible exact attrs_Get.mono _ _ _)
   | (with_reducible exact blanks_Count.mono _ _)
   | (with_reducible exact blanks_Fill.mono _ _ _)
   | (with_reducible exact blanks_Names.mono _ _)
   | (with_reducible exact glazierlaw47_alive.mono _)
   | (with_reducible exact glazierplain_Texts.mono _ _ _)
   | (with_reducible exact glazierref01_Is.mono _ _ _ _)
   | (with_reducible exact glazierref01_Of.mono _ _ _)
   | (with_reducible exact LeO.refl _)
   | (with_reducible exact LeO.none _)
   | (with_reducible refine LeO.ite ?_ ?_)
   | (with_reducible refine LeO.bind ?_ (fun _ => ?_))
   | exact ih0 _ _ _ _ _ _
   | exact ih1 _ _ _ _ _ _ _
   | exact ih2 _ _ _ _ _ _ _ _
   | exact ih3 _ _ _ _ _ _ _ _
   | exact ih4 _ _ _ _ _ _ _ _ _
   | exact ih5 _ _ _ _ _ _ _
   | exact attrs_Get.mono _ _ _
   | exact blanks_Count.mono _ _
   | exact blanks_Fill.mono _ _ _
   | exact blanks_Names.mono _ _
   | exact glazierlaw47_alive.mono _
   | exact glazierplain_Texts.mono _ _ _
   | exact glazierref01_Is.mono _ _ _ _
   | exact glazierref01_Of.mono _ _ _
   | exact LeO.none _
   | refine LeO.ite ?_ ?_
   | refine LeO.bind ?_ (fun _ => ?_)
  ·
   intro y0 y1 y2 y3 y4 y5 y6
   unfold glazierlaw47_BlanksTells.l1
   repeat' first
   | (with_reducible exact ih0 _ _ _ _ _ _)
   | (with_reducible exact ih1 _ _ _ _ _ _ _)
   | (with_reducible exact ih2 _ _ _ _ _ _ _ _)
   | (with_reducible exact ih3 _ _ _ _ _ _ _ _)
   | (with_reducible exact ih4 _ _ _ _ _ _ _ _ _)
   | (with_reducible exact ih5 _ _ _ _ _ _ _)
   | (with_reducible exact attrs_Get.mono _ _ _)
   | (with_reducible exact blanks_Count.mono _ _)
   | (with_reducible exact blanks_Fill.mono _ _ _)
   | (with_reducible exact blanks_Names.mono _ _)
   | (with_reducible exact glazierlaw47_alive.mono _)
   | (with_reducible exact glazierplain_Texts.mono _ _ _)
   | (with_reducible exact glazierref01_Is.mono _ _ _ _)
   | (with_reducible exact glazierref01_Of.mono _ _ _)
   | (with_reducible exact LeO.refl _)
   | (with_reducible exact LeO.none _)
   | (with_reducible refine LeO.ite ?_ ?_)
   | (with_reducible refine LeO.bind ?_ (fun _ => ?_))
   | exact ih0 _ _ _ _ _ _
   | exact ih1 _ _ _ _ _ _ _
   | exact ih2 _ _ _ _ _ _ _ _
   | exact ih3 _ _ _ _ _ _ _ _
   | exact ih4 _ _ _ _ _ _ _ _ _
   | exact ih5 _ _ _ _ _ _ _
   | exact attrs_Get.mono _ _ _
   | exact blanks_Count.mono _ _
   | exact blanks_Fill.mono _ _ _
   | exact blanks_Names.mono _ _
   | exact glazierlaw47_alive.mono _
   | exact glazierplain_Texts.mono _ _ _
   | exact glazierref01_Is.mono _ _ _ _
   | exact glazierref01_Of.mono _ _ _
   | exact LeO.none _
   | refine LeO.ite ?_ ?_
   | refine LeO.bind ?_ (fun _ => ?_)
theorem glazierlaw47_BlanksTells.mono : ∀ a0 a1 k, LeO (glazierlaw47_BlanksTells.f k a0 a1) (glazierlaw47_BlanksTells.f (k + 1) a0 a1) := by
 intro a0 a1 k
 obtain ⟨ih0, ih1, ih2, ih3, ih4, ih5⟩ := glazierlaw47_BlanksTells.mono_l k
 unfold glazierlaw47_BlanksTells.f
 repeat' first
   | (with_reducible exact ih0 _ _ _ _ _ _)
   | (with_reducible exact ih1 _ _ _ _ _ _ _)
   | (with_reducible exact ih2 _ _ _ _ _ _ _ _)
   | (with_reducible exact ih3 _ _ _ _ _ _ _ _)
   | (with_reducible exact ih4 _ _ _ _ _ _ _ _ _)
   | (with_reducible exact ih5 _ _ _ _ _ _ _)
   | (with_reducible exact attrs_Get.mono _ _ _)
   | (with_reducible exact blanks_Count.mono _ _)
   | (with_reducible exact blanks_Fill.mono _ _ _)
   | (with_reducible exact blanks_Names.mono _ _)
   | (with_reducible exact glazierlaw47_alive.mono _)
   | (with_reducible exact glazierplain_Texts.mono _ _ _)
   | (with_reducible exact glazierref01_Is.mono _ _ _ _)
   | (with_reducible exact glazierref01_Of.mono _ _ _)
   | (with_reducible exact LeO.refl _)
   | (with_reducible exact LeO.none _)
   | (with_reducible refine LeO.ite ?_ ?_)
   | (with_reducible refine LeO.bind ?_ (fun _ => ?_))
   | exact ih0 _ _ _ _ _ _
   | exact ih1 _ _ _ _ _ _ _
   | exact ih2 _ _ _ _ _ _ _ _
   | exact ih3 _ _ _ _ _ _ _ _
   | exact ih4 _ _ _ _ _ _ _ _ _
   | exact ih5 _ _ _ _ _ _ _
   | exact attrs_Get.mono _ _ _
   | exact blanks_Count.mono _ _
   | exact blanks_Fill.mono _ _ _
   | exact blanks_Names.mono _ _
   | exact glazierlaw47_alive.mono _
   | exact glazierplain_Texts.mono _ _ _
   | exact glazierref01_Is.mono _ _ _ _
   | exact glazierref01_Of.mono _ _ _
   | exact LeO.none _
   | refine LeO.ite ?_ ?_
   | refine LeO.bind ?_ (fun _ => ?_)
set_option maxHeartbeats 8000000 in
set_option maxRecDepth 100000 in
theorem glazierlaw47_BlanksTells.calls (k : Nat) (a0 : ByteArray) (A1 : Option Addr) (c1 : Nat) (l1 : List (S45)) (r : Bool) (w : World) (hr1 : Kd.C k45 w A1 l1.length l1) (hc1 : l1.length ≤ c1) (h : glazierlaw47_BlanksTells.f k a0 l1 = some r) :
  Calls Try.prog 10 #[.string a0, .slice A1 l1.length c1] w fun e w' => e = .returned (.bool r) ∧ Below w.heap.size w w' := by
 have hu29 := Try.underlying29
 have hu24 := Try.underlying24
 have HR1 := Aside0.mk hr1
 have HC1 := Aside0.mk hc1
 clear hr1 hc1
 have HB := Aside0.mk (Below.refl w.heap.size w)
 have H : ((glazierlaw47_alive.f k).bind fun t757 => (if t757 = true then (glazierlaw47_BlanksTells.l0 k a0 l1 ([] : List (S29)) ([] : List ByteArray) 0 0) else (none))) = some r := h
 clear h
 replace H := Option.bind_eq_some_iff.mp H
 obtain ⟨t757, A30, H⟩ := H
 replace H : (if t757 = true then (glazierlaw47_BlanksTells.l0 k a0 l1 ([] : List (S29)) ([] : List ByteArray) 0 0) else (none)) = some r := H
 have A3 := Aside0.mk A30
 clear A30
 by_cases c4 : t757 = true
 ·
  subst c4
  have H1 : (glazierlaw47_BlanksTells.l0 k a0 l1 ([] : List (S29)) ([] : List ByteArray) 0 0) = some r := by rw [if_pos rfl] at H; exact H
  clear H
  have H := H1
  clear H1
  have H' := Aside0.mk H
  clear H
  go_enter Try.func10, Try.ntmps10
  go_wp2_with (first | ((with_reducible refine gate_callee (f := 43) rfl ?_); refine goesL_ (some 15) rfl rfl Try.func43 (by kernel_rfl) rfl #[] rfl (by (try simp only [List.map_toArray, List.map_cons, List.map_nil]); first | done | rfl | (simp only [List.length_drop, List.length_take]; rfl)) ?_; (with_reducible refine (glazierlaw47_alive.calls k  true _ A3.out).mono ?_); rintro e w5 ⟨rfl, hb⟩; refine ⟨_, rfl, ?_⟩; have n0_ := Aside0.mk (below_step (by repeat (first | (with_reducible first | exact HB.out | apply below_alloc | apply pw_below_drewN | apply below_drew1) | exact HB.out)) hb); clear HB; have HB := n0_; clear n0_; (try clear hb); (try clear hb2); (try clear hk); (try clear hi)))
  go_loopg [5, 6, 7, 8] k (fun kq v5 v6 v7 v8 w' => ∃ (x5_1 : List (S29)) (x6_1 : List ByteArray) (x7_1 : Int) (x8_1 : Int), v7 = .int .i64 x7_1 ∧ v8 = .int .i64 x8_1 ∧ Aside0 (glazierlaw47_BlanksTells.l0 kq a0 l1 x5_1 x6_1 x7_1 x8_1 = some r) ∧ Aside0 (kq ≤ k) ∧ Aside0 (Kd.R k29 29 w' w.heap.size (fun _ => True) v5 x5_1) ∧ Aside0 (Kd.R Kd.string 9 w' w.heap.size (fun _ => True) v6 x6_1) ∧ Aside0 (Below w.heap.size w w'))
  case atStart => exact ⟨(([] : List (S29))), (([] : List ByteArray)), (0), (0), (by first | rfl | (simp; done) | (simp [*]; done)), (by first | rfl | (simp; done) | (simp [*]; done)), H', ⟨Nat.le_refl _⟩, ⟨by first | exact Kd.R_nil _ _ _ _ _ | exact Kd.N_nil _ _ _ _ _ | exact Kd.V_nil _ _ _ _ _ | exact Kd.Q_nil _ _ _ _ _ | exact Kd.S_nil _ _ _ _ _⟩, ⟨by first | exact Kd.R_nil _ _ _ _ _ | exact Kd.N_nil _ _ _ _ _ | exact Kd.V_nil _ _ _ _ _ | exact Kd.Q_nil _ _ _ _ _ | exact Kd.S_nil _ _ _ _ _⟩, ⟨by repeat (first | (with_reducible first | exact HB.out | apply below_alloc | apply pw_below_drewN | apply below_drew1) | exact HB.out)⟩⟩
  case round =>
   clear H'
   try clear c1
   try clear p2
   try clear c4
   obtain ⟨x5_1, x6_1, x7_1, x8_1, rfl, rfl, HA, HK1, HO_5, HO_6, HB⟩ := hrel
   cases gk with
   | zero => exact absurd HA.out (by simp [glazierlaw47_BlanksTells.l0])
   | succ k1 =>
    have H := HA.out
    clear HA
    simp only [glazierlaw47_BlanksTells.l0] at H
    by_cases c6 : x8_1 < (a0.size : Int)
    ·
     rw [if_pos c6] at H
     have c6b0 : decide (x8_1 < (a0.size : Int)) = true := decide_eq_true c6
     clear c6
     have HC7 := Aside0.mk H
     clear H
     go_upto_block 2 with (fail)
     go_cut [9] (fun v9 wc => ∃ (kq : Nat) (x9_6 : Int), v9 = .int .i64 x9_6 ∧ Aside0 (glazierlaw47_BlanksTells.j2 kq a0 l1 x5_1 x6_1 x7_1 x8_1 x9_6 = some r) ∧ Aside0 (kq ≤ k1) ∧ Aside0 (Kd.R k29 29 wc w.heap.size (fun _ => True) u5 x5_1) ∧ Aside0 (Kd.R Kd.string 9 wc w.heap.size (fun _ => True) u6 x6_1) ∧ Aside0 (Below w.heap.size w wc))
     case first =>
      have H := HC7.out
      clear HC7
      have H' := Aside0.mk H
      clear H
      go_wp2
      go_loopg [9] k1 (fun kq v9 w' => ∃ (x9_2 : Int), v9 = .int .i64 x9_2 ∧ Aside0 (glazierlaw47_BlanksTells.l1 kq a0 l1 x5_1 x6_1 x7_1 x8_1 x9_2 = some r) ∧ Aside0 (kq ≤ k1) ∧ Aside0 (Kd.R k29 29 w' w.heap.size (fun _ => True) u5 x5_1) ∧ Aside0 (Kd.R Kd.string 9 w' w.heap.size (fun _ => True) u6 x6_1) ∧ Aside0 (Below w.heap.size w w'))
      case atStart => exact ⟨(wrap64 (x8_1 + 1)), (by first | rfl | (simp; done) | (simp [*]; done)), H', ⟨Nat.le_refl _⟩, ⟨by (with_reducible repeat (first | apply Kd.R_alloc | apply Kd.R_drewN | apply Kd.R_drew)); exact HO_5.out⟩, ⟨by (with_reducible repeat (first | apply Kd.R_alloc | apply Kd.R_drewN | apply Kd.R_drew)); exact HO_6.out⟩, ⟨by repeat (first | (with_reducible first | exact HB.out | apply below_alloc | apply pw_below_drewN | apply below_drew1) | exact HB.out)⟩⟩
      case round =>
       clear H'
       try clear c1
       try clear p2
       try clear c4
       try clear c6
       try clear c6b0
       try clear p6
       try clear p2
       obtain ⟨x9_2, rfl, HA, HK2, HO_5, HO_6, HB⟩ := hrel
       cases gk with
       | zero => exact absurd HA.out (by simp [glazierlaw47_BlanksTells.l1])
       | succ k2 =>
        have H := HA.out
        clear HA
        simp only [glazierlaw47_BlanksTells.l1] at H
        by_cases c8 : x9_2 < (a0.size : Int)
        ·
         rw [if_pos c8] at H
         have c8b0 : decide (x9_2 < (a0.size : Int)) = true := decide_eq_true c8
         clear c8
         (first | rw [c8b0] | (simp only [i64_w, i32_w]; rw [c8b0]) | skip)
         by_cases c9 : 0 ≤ x9_2
         ·
          rw [if_pos c9] at H
          have c9b0 : decide (0 ≤ x9_2) = true := decide_eq_true c9
          clear c9
          by_cases c11 : (bt a0 x9_2) ≥ 97
          ·
           rw [if_pos c11] at H
           have c11b0 : decide (97 ≤ (bt a0 x9_2)) = true := decide_eq_true c11
           clear c11
           by_cases c13 : (bt a0 x9_2) ≤ 122
           ·
            rw [if_pos c13] at H
            have c13b0 : decide ((bt a0 x9_2) ≤ 122) = true := decide_eq_true c13
            clear c13
            have H' := Aside0.mk H
            clear H
            have p10 : 0 ≤ (x9_2 : Int) := of_decide_eq_true (by first | (with_reducible assumption) | assumption)
            have q10 : x9_2 < (a0.size : Int) := of_decide_eq_true (by first | (with_reducible assumption) | assumption)
            have hx10 := bt_at a0 x9_2
            replace p10 := eq_true p10
            replace q10 := eq_true q10
            have p12 : 0 ≤ (x9_2 : Int) := of_decide_eq_true (by first | (with_reducible assumption) | assumption)
            have q12 : x9_2 < (a0.size : Int) := of_decide_eq_true (by first | (with_reducible assumption) | assumption)
            have hx12 := bt_at a0 x9_2
            replace p12 := eq_true p12
            replace q12 := eq_true q12
            go_wp2
            go_roundg k2
            case measure => have := HK1.out; have := HK2.out; omega
            case rel => exact ⟨(wrap64 (x9_2 + 1)), (by first | rfl | (simp; done) | (simp [*]; done)), H', ⟨by have := HK1.out; have := HK2.out; omega⟩, ⟨by (with_reducible repeat (first | apply Kd.R_alloc | apply Kd.R_drewN | apply Kd.R_drew)); exact HO_5.out⟩, ⟨by (with_reducible repeat (first | apply Kd.R_alloc | apply Kd.R_drewN | apply Kd.R_drew)); exact HO_6.out⟩, ⟨by repeat (first | (with_reducible first | exact HB.out | apply below_alloc | apply pw_below_drewN | apply below_drew1) | exact HB.out)⟩⟩
           ·
            rw [if_neg c13] at H
            have c13b0 : decide ((bt a0 x9_2) ≤ 122) = false := decide_eq_false c13
            clear c13
            have H' := Aside0.mk H
            clear H
            have p10 : 0 ≤ (x9_2 : Int) := of_decide_eq_true (by first | (with_reducible assumption) | assumption)
            have q10 : x9_2 < (a0.size : Int) := of_decide_eq_true (by first | (with_reducible assumption) | assumption)
            have hx10 := bt_at a0 x9_2
            replace p10 := eq_true p10
            replace q10 := eq_true q10
            have p12 : 0 ≤ (x9_2 : Int) := of_decide_eq_true (by first | (with_reducible assumption) | assumption)
            have q12 : x9_2 < (a0.size : Int) := of_decide_eq_true (by first | (with_reducible assumption) | assumption)
            have hx12 := bt_at a0 x9_2
            replace p12 := eq_true p12
            replace q12 := eq_true q12
            go_wp2
            go_meet
            case rel => exact ⟨_, (x9_2), (by first | rfl | (simp; done) | (simp [*]; done)), H', ⟨by have := HK1.out; have := HK2.out; first | omega | exact Nat.le_refl _⟩, ⟨by (with_reducible repeat (first | apply Kd.R_alloc | apply Kd.R_drewN | apply Kd.R_drew)); exact HO_5.out⟩, ⟨by (with_reducible repeat (first | apply Kd.R_alloc | apply Kd.R_drewN | apply Kd.R_drew)); exact HO_6.out⟩, ⟨by repeat (first | (with_reducible first | exact HB.out | apply below_alloc | apply pw_below_drewN | apply below_drew1) | exact HB.out)⟩⟩
          ·
           rw [if_neg c11] at H
           have c11b0 : decide (97 ≤ (bt a0 x9_2)) = false := decide_eq_false c11
           clear c11
           have H' := Aside0.mk H
           clear H
           have p10 : 0 ≤ (x9_2 : Int) := of_decide_eq_true (by first | (with_reducible assumption) | assumption)
           have q10 : x9_2 < (a0.size : Int) := of_decide_eq_true (by first | (with_reducible assumption) | assumption)
           have hx10 := bt_at a0 x9_2
           replace p10 := eq_true p10
           replace q10 := eq_true q10
           go_wp2
           go_meet
           case rel => exact ⟨_, (x9_2), (by first | rfl | (simp; done) | (simp [*]; done)), H', ⟨by have := HK1.out; have := HK2.out; first | omega | exact Nat.le_refl _⟩, ⟨by (with_reducible repeat (first | apply Kd.R_alloc | apply Kd.R_drewN | apply Kd.R_drew)); exact HO_5.out⟩, ⟨by (with_reducible repeat (first | apply Kd.R_alloc | apply Kd.R_drewN | apply Kd.R_drew)); exact HO_6.out⟩, ⟨by repeat (first | (with_reducible first | exact HB.out | apply below_alloc | apply pw_below_drewN | apply below_drew1) | exact HB.out)⟩⟩
         ·
          rw [if_neg c9] at H
          exact absurd H (by simp)
        ·
         rw [if_neg c8] at H
         have c8b0 : decide (x9_2 < (a0.size : Int)) = false := decide_eq_false c8
         clear c8
         (first | rw [c8b0] | (simp only [i64_w, i32_w]; rw [c8b0]) | skip)
         have H' := Aside0.mk H
         clear H
         go_wp2
         go_meet
         case rel => exact ⟨_, (x9_2), (by first | rfl | (simp; done) | (simp [*]; done)), H', ⟨by have := HK1.out; have := HK2.out; first | omega | exact Nat.le_refl _⟩, ⟨by (with_reducible repeat (first | apply Kd.R_alloc | apply Kd.R_drewN | apply Kd.R_drew)); exact HO_5.out⟩, ⟨by (with_reducible repeat (first | apply Kd.R_alloc | apply Kd.R_drewN | apply Kd.R_drew)); exact HO_6.out⟩, ⟨by repeat (first | (with_reducible first | exact HB.out | apply below_alloc | apply pw_below_drewN | apply below_drew1) | exact HB.out)⟩⟩
     case rest =>
      clear HC7
      try clear c1
      try clear p1
      try clear q1
      try clear hx1
      try clear p2
      try clear c4
      try clear c6
      try clear c6b0
      try clear p6
      try clear c8
      try clear c8b0
      try clear c9
      try clear c9b0
      try clear c10
      try clear p10
      try clear q10
      try clear hx10
      try clear c11
      try clear c11b0
      try clear p12
      try clear q12
      try clear hx12
      try clear c13
      try clear c13b0
      try clear p10
      try clear p12
      try clear p2
      try clear p6
      try clear q10
      try clear q12
      obtain ⟨kq, x9_6, rfl, HA, HJ6, HO_5, HO_6, HB⟩ := hcut
      cases kq with
      | zero => exact absurd HA.out (by simp [glazierlaw47_BlanksTells.j2])
      | succ kj6 =>
       have H := HA.out
       clear HA
       simp only [glazierlaw47_BlanksTells.j2] at H
       have HC14 := Aside0.mk H
       clear H
       go_upto_region 13 with (fail)
       go_cut [50] (fun v50 wc => ∃ (kq : Nat) (x50_13 : Bool), v50 = .bool x50_13 ∧ Aside0 (glazierlaw47_BlanksTells.j3 kq a0 l1 x5_1 x6_1 x7_1 x8_1 x9_6 x50_13 = some r) ∧ Aside0 (kq ≤ kj6) ∧ Aside0 (Kd.R k29 29 wc w.heap.size (fun _ => True) u5 x5_1) ∧ Aside0 (Kd.R Kd.string 9 wc w.heap.size (fun _ => True) u6 x6_1) ∧ Aside0 (Below w.heap.size w wc))
       case first =>
        have H := HC14.out
        clear HC14
        by_cases c15 : 0 ≤ x8_1
        ·
         rw [if_pos c15] at H
         have c15b0 : decide (0 ≤ x8_1) = true := decide_eq_true c15
         clear c15
         (first | rw [c15b0] | (simp only [i64_w, i32_w]; rw [c15b0]) | skip)
         by_cases c16 : x8_1 < (a0.size : Int)
         ·
          rw [if_pos c16] at H
          have c16b0 : decide (x8_1 < (a0.size : Int)) = true := decide_eq_true c16
          clear c16
          by_cases c18 : (bt a0 x8_1) = 123
          ·
           rw [if_pos c18] at H
           have c18b0 : ((bt a0 x8_1) == 123) = true := beq_iff_eq.mpr c18
           have c18b1 : ((bt a0 x8_1) != 123) = false := bne_eq_false_iff_eq.mpr c18
           clear c18
           by_cases c19 : (wrap64 (x8_1 + 1)) < (a0.size : Int)
           ·
            rw [if_pos c19] at H
            have c19b0 : decide ((wrap64 (x8_1 + 1)) < (a0.size : Int)) = true := decide_eq_true c19
            clear c19
            obtain ⟨ji20, hji20⟩ : ∃ j_ : Int, (wrap64 (x8_1 + 1)) = j_ := ⟨_, rfl⟩
            replace H : (if 0 ≤ (ji20) then (glazierlaw47_BlanksTells.j3 kj6 a0 l1 x5_1 x6_1 x7_1 x8_1 x9_6 ((bt a0 (ji20)) == 123)) else (none)) = some r := by first | (rw [hji20] at H; exact H) | (simp only [hji20] at H ⊢; exact H)
            (try rw [hji20] at c19b0)
            have hji20w : (IntKind.i64.wrap (x8_1 + 1)) = ji20 := (i64_w _).trans hji20
            by_cases c21 : 0 ≤ (ji20)
            ·
             rw [if_pos c21] at H
             have c21b0 : decide (0 ≤ (ji20)) = true := decide_eq_true c21
             clear c21
             have H' := Aside0.mk H
             clear H
             have p17 : 0 ≤ (x8_1 : Int) := of_decide_eq_true (by first | (with_reducible assumption) | assumption)
             have q17 : x8_1 < (a0.size : Int) := of_decide_eq_true (by first | (with_reducible assumption) | assumption)
             have hx17 := bt_at a0 x8_1
             replace p17 := eq_true p17
             replace q17 := eq_true q17
             have p22 : 0 ≤ ((ji20) : Int) := of_decide_eq_true (by first | (with_reducible assumption) | assumption)
             have q22 : (ji20) < (a0.size : Int) := of_decide_eq_true (by first | (with_reducible assumption) | assumption)
             have hx22 := bt_at a0 (ji20)
             replace p22 := eq_true p22
             replace q22 := eq_true q22
             go_wp2
             go_meet
             case rel => exact ⟨_, (((bt a0 (ji20)) == 123)), (by first | rfl | (simp; done) | (simp only [← hji20] <;> (first | rfl | simp)) | (simp [*]; done)), H', ⟨by have := HK1.out; have := HJ6.out; first | omega | exact Nat.le_refl _⟩, ⟨by (with_reducible repeat (first | apply Kd.R_alloc | apply Kd.R_drewN | apply Kd.R_drew)); exact HO_5.out⟩, ⟨by (with_reducible repeat (first | apply Kd.R_alloc | apply Kd.R_drewN | apply Kd.R_drew)); exact HO_6.out⟩, ⟨by repeat (first | (with_reducible first | exact HB.out | apply below_alloc | apply pw_below_drewN | apply below_drew1) | exact HB.out)⟩⟩
            ·
             rw [if_neg c21] at H
             exact absurd H (by simp)
           ·
            rw [if_neg c19] at H
            have c19b0 : decide ((wrap64 (x8_1 + 1)) < (a0.size : Int)) = false := decide_eq_false c19
            clear c19
            have H' := Aside0.mk H
            clear H
            have p17 : 0 ≤ (x8_1 : Int) := of_decide_eq_true (by first | (with_reducible assumption) | assumption)
            have q17 : x8_1 < (a0.size : Int) := of_decide_eq_true (by first | (with_reducible assumption) | assumption)
            have hx17 := bt_at a0 x8_1
            replace p17 := eq_true p17
            replace q17 := eq_true q17
            go_wp2
            go_meet
            case rel => exact ⟨_, (false), (by first | rfl | (simp; done) | (simp [*]; done)), H', ⟨by have := HK1.out; have := HJ6.out; first | omega | exact Nat.le_refl _⟩, ⟨by (with_reducible repeat (first | apply Kd.R_alloc | apply Kd.R_drewN | apply Kd.R_drew)); exact HO_5.out⟩, ⟨by (with_reducible repeat (first | apply Kd.R_alloc | apply Kd.R_drewN | apply Kd.R_drew)); exact HO_6.out⟩, ⟨by repeat (first | (with_reducible first | exact HB.out | apply below_alloc | apply pw_below_drewN | apply below_drew1) | exact HB.out)⟩⟩
          ·
           rw [if_neg c18] at H
           have c18b0 : ((bt a0 x8_1) == 123) = false := beq_eq_false_iff_ne.mpr c18
           have c18b1 : ((bt a0 x8_1) != 123) = true := bne_iff_ne.mpr c18
           have H' := Aside0.mk H
           clear H
           have p17 : 0 ≤ (x8_1 : Int) := of_decide_eq_true (by first | (with_reducible assumption) | assumption)
           have q17 : x8_1 < (a0.size : Int) := of_decide_eq_true (by first | (with_reducible assumption) | assumption)
           have hx17 := bt_at a0 x8_1
           replace p17 := eq_true p17
           replace q17 := eq_true q17
           go_wp2
           go_meet
           case rel => exact ⟨_, (false), (by first | rfl | (simp; done) | (simp [*]; done)), H', ⟨by have := HK1.out; have := HJ6.out; first | omega | exact Nat.le_refl _⟩, ⟨by (with_reducible repeat (first | apply Kd.R_alloc | apply Kd.R_drewN | apply Kd.R_drew)); exact HO_5.out⟩, ⟨by (with_reducible repeat (first | apply Kd.R_alloc | apply Kd.R_drewN | apply Kd.R_drew)); exact HO_6.out⟩, ⟨by repeat (first | (with_reducible first | exact HB.out | apply below_alloc | apply pw_below_drewN | apply below_drew1) | exact HB.out)⟩⟩
         ·
          rw [if_neg c16] at H
          exact absurd H (by simp)
        ·
         rw [if_neg c15] at H
         exact absurd H (by simp)
       case rest =>
        clear HC14
        try clear c1
        try clear p1
        try clear q1
        try clear hx1
        try clear c2
        try clear p2
        try clear q2
        try clear hx2
        try clear c4
        try clear c6
        try clear c6b0
        try clear p6
        try clear c8
        try clear c8b0
        try clear c9
        try clear c9b0
        try clear c10
        try clear p10
        try clear q10
        try clear hx10
        try clear c11
        try clear c11b0
        try clear p12
        try clear q12
        try clear hx12
        try clear c13
        try clear c13b0
        try clear c15
        try clear c15b0
        try clear c16
        try clear c16b0
        try clear p17
        try clear q17
        try clear hx17
        try clear c18
        try clear c18b0
        try clear c18b1
        try clear c19
        try clear c19b0
        try clear c21
        try clear c21b0
        try clear p22
        try clear q22
        try clear hx22
        try clear p1
        try clear p10
        try clear p12
        try clear p17
        try clear p2
        try clear p22
        try clear p6
        try clear q1
        try clear q10
        try clear q12
        try clear q17
        try clear q22
        obtain ⟨kq, x50_13, rfl, HA, HJ13, HO_5, HO_6, HB⟩ := hcut
        cases kq with
        | zero => exact absurd HA.out (by simp [glazierlaw47_BlanksTells.j3])
        | succ kj13 =>
         have H := HA.out
         clear HA
         simp only [glazierlaw47_BlanksTells.j3] at H
         by_cases c23 : x50_13 = true
         ·
          subst c23
          have H1 : (if x5_1.length < 8796093022208 then (glazierlaw47_BlanksTells.l0 kj13 a0 l1 (x5_1 ++ [(⟨123, 0⟩ : S29)]) x6_1 x7_1 (wrap64 ((wrap64 (x8_1 + 1)) + 1))) else (none)) = some r := by rw [if_pos rfl] at H; exact H
          clear H
          have H := H1
          clear H1
          by_cases c24 : x5_1.length < 8796093022208
          ·
           rw [if_pos c24] at H
           have LMc24 := Aside0.mk c24
           clear c24
           obtain ⟨y758, hy758⟩ : ∃ y_ : List (S29), y_ = (x5_1 ++ [(⟨123, 0⟩ : S29)]) := ⟨_, rfl⟩
           replace H : (glazierlaw47_BlanksTells.l0 kj13 a0 l1 y758 x6_1 x7_1 (wrap64 ((wrap64 (x8_1 + 1)) + 1))) = some r := by first | (rw [hy758]; with_reducible exact H) | (have H2_ := (Option.bind_some _ _).symm.trans H; rw [hy758]; with_reducible exact H2_) | (have H2_ := (Option.bind_some _ _).symm.trans H; with_reducible exact H2_) | with_reducible exact H | (rw [hy758]; exact H) | exact H
           have Ny758 := Aside0.mk hy758
           clear hy758
           have H' := Aside0.mk H
           clear H
           go_wp2_with (first | ((with_reducible refine gate_builtin (b := .append) (xs := #[.tmp 69, .tmp 71]) rfl ?_); at_builtin; refine Kd.R_append k29 (w0 := w) w.heap.size rfl (.tmp 69) (.tmp 71) 26 29 (.agg #[(.int .u8 0), (.int .i64 0)]) 16 rfl Try.underlying26 info29 rfl (by decide) (by omega) u5 x5_1 (⟨123, 0⟩ : S29) [.int .u8 123, .int .i64 0] (fun _ => True) (fun _ => False) rfl rfl ?aP (fun _ hk => hk.elim) ?aF ?aO ?aB ?aS ?aL ?_; (case aP => exact k29_mkM _ _ _ (⟨123, 0⟩ : S29)); (case aB => exact (by repeat (first | (with_reducible first | exact HB.out | apply below_alloc | apply pw_below_drewN | apply below_drew1) | exact HB.out))); (case aF => exact (fun _ _ => trivial)); (case aO => exact (by (with_reducible repeat (first | apply Kd.R_alloc | apply Kd.R_drewN | apply Kd.R_drew)); exact HO_5.out)); (case aS => exact (below_size (by repeat (first | (with_reducible first | exact HB.out | apply below_alloc | apply pw_below_drewN | apply below_drew1) | exact HB.out)))); (case aL => have := LMc24.out; omega); intro v759 w25 ho hb hg hat; rw [← Ny758.out] at ho; have n0_ := Aside0.mk (Kd.R_over' (by (with_reducible repeat (first | apply Kd.R_alloc | apply Kd.R_drewN | apply Kd.R_drew)); exact HO_6.out) (Kd.R_typed (by (with_reducible repeat (first | apply Kd.R_alloc | apply Kd.R_drewN | apply Kd.R_drew)); exact HO_5.out)) (by decide) hg); have n1_ := Aside0.mk (hb); have n2_ := Aside0.mk (ho); clear HO_6; clear HB; clear HO_5; have HO_6 := n0_; have HB := n1_; have HO760 := n2_; clear n0_ n1_ n2_; clear ho hb hg hat))
           go_roundg kj13
           case measure => have := HK1.out; have := HJ6.out; have := HJ13.out; omega
           case rel => exact ⟨(y758), (x6_1), (x7_1), (wrap64 ((wrap64 (x8_1 + 1)) + 1)), (by first | rfl | (simp; done) | (simp [*]; done)), (by first | rfl | (simp; done) | (simp [*]; done)), H', ⟨by have := HK1.out; have := HJ6.out; have := HJ13.out; omega⟩, ⟨by (with_reducible repeat (first | apply Kd.R_alloc | apply Kd.R_drewN | apply Kd.R_drew)); exact HO760.out⟩, ⟨by (with_reducible repeat (first | apply Kd.R_alloc | apply Kd.R_drewN | apply Kd.R_drew)); exact HO_6.out⟩, ⟨by repeat (first | (with_reducible first | exact HB.out | apply below_alloc | apply pw_below_drewN | apply below_drew1) | exact HB.out)⟩⟩
          ·
           rw [if_neg c24] at H
           exact absurd H (by simp)
         ·
          replace c23 := Bool.eq_false_iff.mpr c23
          subst c23
          have H1 : (if 0 ≤ x8_1 then (if x8_1 < (a0.size : Int) then (if (bt a0 x8_1) = 123 then (if x9_6 > (wrap64 (x8_1 + 1)) then (if x9_6 < (a0.size : Int) then (if 0 ≤ x9_6 then (glazierlaw47_BlanksTells.j4 kj13 a0 l1 x5_1 x6_1 x7_1 x8_1 x9_6 ((bt a0 x9_6) == 125)) else (none)) else (glazierlaw47_BlanksTells.j4 kj13 a0 l1 x5_1 x6_1 x7_1 x8_1 x9_6 false)) else (glazierlaw47_BlanksTells.j4 kj13 a0 l1 x5_1 x6_1 x7_1 x8_1 x9_6 false)) else (glazierlaw47_BlanksTells.j4 kj13 a0 l1 x5_1 x6_1 x7_1 x8_1 x9_6 false)) else (none)) else (none)) = some r := by rw [if_neg (show ¬ (false = true) by decide)] at H; exact H
          clear H
          have H := H1
          clear H1
          have HC26 := Aside0.mk H
          clear H
          go_upto_region 16 with (fail)
          go_cut [75] (fun v75 wc => ∃ (kq : Nat) (x75_25 : Bool), v75 = .bool x75_25 ∧ Aside0 (glazierlaw47_BlanksTells.j4 kq a0 l1 x5_1 x6_1 x7_1 x8_1 x9_6 x75_25 = some r) ∧ Aside0 (kq ≤ kj13) ∧ Aside0 (Kd.R k29 29 wc w.heap.size (fun _ => True) u5 x5_1) ∧ Aside0 (Kd.R Kd.string 9 wc w.heap.size (fun _ => True) u6 x6_1) ∧ Aside0 (Below w.heap.size w wc))
          case first =>
           have H := HC26.out
           clear HC26
           by_cases c27 : 0 ≤ x8_1
           ·
            rw [if_pos c27] at H
            have c27b0 : decide (0 ≤ x8_1) = true := decide_eq_true c27
            clear c27
            (first | rw [c27b0] | (simp only [i64_w, i32_w]; rw [c27b0]) | skip)
            by_cases c28 : x8_1 < (a0.size : Int)
            ·
             rw [if_pos c28] at H
             have c28b0 : decide (x8_1 < (a0.size : Int)) = true := decide_eq_true c28
             clear c28
             by_cases c30 : (bt a0 x8_1) = 123
             ·
              rw [if_pos c30] at H
              have c30b0 : ((bt a0 x8_1) == 123) = true := beq_iff_eq.mpr c30
              have c30b1 : ((bt a0 x8_1) != 123) = false := bne_eq_false_iff_eq.mpr c30
              clear c30
              by_cases c31 : x9_6 > (wrap64 (x8_1 + 1))
              ·
               rw [if_pos c31] at H
               have c31b0 : decide ((wrap64 (x8_1 + 1)) < x9_6) = true := decide_eq_true c31
               clear c31
               by_cases c32 : x9_6 < (a0.size : Int)
               ·
                rw [if_pos c32] at H
                have c32b0 : decide (x9_6 < (a0.size : Int)) = true := decide_eq_true c32
                clear c32
                by_cases c33 : 0 ≤ x9_6
                ·
                 rw [if_pos c33] at H
                 have c33b0 : decide (0 ≤ x9_6) = true := decide_eq_true c33
                 clear c33
                 have H' := Aside0.mk H
                 clear H
                 have p29 : 0 ≤ (x8_1 : Int) := of_decide_eq_true (by first | (with_reducible assumption) | assumption)
                 have q29 : x8_1 < (a0.size : Int) := of_decide_eq_true (by first | (with_reducible assumption) | assumption)
                 have hx29 := bt_at a0 x8_1
                 replace p29 := eq_true p29
                 replace q29 := eq_true q29
                 have p34 : 0 ≤ (x9_6 : Int) := of_decide_eq_true (by first | (with_reducible assumption) | assumption)
                 have q34 : x9_6 < (a0.size : Int) := of_decide_eq_true (by first | (with_reducible assumption) | assumption)
                 have hx34 := bt_at a0 x9_6
                 replace p34 := eq_true p34
                 replace q34 := eq_true q34
                 go_wp2
                 go_meet
                 case rel => exact ⟨_, (((bt a0 x9_6) == 125)), (by first | rfl | (simp; done) | (simp [*]; done)), H', ⟨by have := HK1.out; have := HJ6.out; have := HJ13.out; first | omega | exact Nat.le_refl _⟩, ⟨by (with_reducible repeat (first | apply Kd.R_alloc | apply Kd.R_drewN | apply Kd.R_drew)); exact HO_5.out⟩, ⟨by (with_reducible repeat (first | apply Kd.R_alloc | apply Kd.R_drewN | apply Kd.R_drew)); exact HO_6.out⟩, ⟨by repeat (first | (with_reducible first | exact HB.out | apply below_alloc | apply pw_below_drewN | apply below_drew1) | exact HB.out)⟩⟩
                ·
                 rw [if_neg c33] at H
                 exact absurd H (by simp)
               ·
                rw [if_neg c32] at H
                have c32b0 : decide (x9_6 < (a0.size : Int)) = false := decide_eq_false c32
                clear c32
                have H' := Aside0.mk H
                clear H
                have p29 : 0 ≤ (x8_1 : Int) := of_decide_eq_true (by first | (with_reducible assumption) | assumption)
                have q29 : x8_1 < (a0.size : Int) := of_decide_eq_true (by first | (with_reducible assumption) | assumption)
                have hx29 := bt_at a0 x8_1
                replace p29 := eq_true p29
                replace q29 := eq_true q29
                go_wp2
                go_meet
                case rel => exact ⟨_, (false), (by first | rfl | (simp; done) | (simp [*]; done)), H', ⟨by have := HK1.out; have := HJ6.out; have := HJ13.out; first | omega | exact Nat.le_refl _⟩, ⟨by (with_reducible repeat (first | apply Kd.R_alloc | apply Kd.R_drewN | apply Kd.R_drew)); exact HO_5.out⟩, ⟨by (with_reducible repeat (first | apply Kd.R_alloc | apply Kd.R_drewN | apply Kd.R_drew)); exact HO_6.out⟩, ⟨by repeat (first | (with_reducible first | exact HB.out | apply below_alloc | apply pw_below_drewN | apply below_drew1) | exact HB.out)⟩⟩
              ·
               rw [if_neg c31] at H
               have c31b0 : decide ((wrap64 (x8_1 + 1)) < x9_6) = false := decide_eq_false c31
               clear c31
               have H' := Aside0.mk H
               clear H
               have p29 : 0 ≤ (x8_1 : Int) := of_decide_eq_true (by first | (with_reducible assumption) | assumption)
               have q29 : x8_1 < (a0.size : Int) := of_decide_eq_true (by first | (with_reducible assumption) | assumption)
               have hx29 := bt_at a0 x8_1
               replace p29 := eq_true p29
               replace q29 := eq_true q29
               go_wp2
               go_meet
               case rel => exact ⟨_, (false), (by first | rfl | (simp; done) | (simp [*]; done)), H', ⟨by have := HK1.out; have := HJ6.out; have := HJ13.out; first | omega | exact Nat.le_refl _⟩, ⟨by (with_reducible repeat (first | apply Kd.R_alloc | apply Kd.R_drewN | apply Kd.R_drew)); exact HO_5.out⟩, ⟨by (with_reducible repeat (first | apply Kd.R_alloc | apply Kd.R_drewN | apply Kd.R_drew)); exact HO_6.out⟩, ⟨by repeat (first | (with_reducible first | exact HB.out | apply below_alloc | apply pw_below_drewN | apply below_drew1) | exact HB.out)⟩⟩
             ·
              rw [if_neg c30] at H
              have c30b0 : ((bt a0 x8_1) == 123) = false := beq_eq_false_iff_ne.mpr c30
              have c30b1 : ((bt a0 x8_1) != 123) = true := bne_iff_ne.mpr c30
              have H' := Aside0.mk H
              clear H
              have p29 : 0 ≤ (x8_1 : Int) := of_decide_eq_true (by first | (with_reducible assumption) | assumption)
              have q29 : x8_1 < (a0.size : Int) := of_decide_eq_true (by first | (with_reducible assumption) | assumption)
              have hx29 := bt_at a0 x8_1
              replace p29 := eq_true p29
              replace q29 := eq_true q29
              go_wp2
              go_meet
              case rel => exact ⟨_, (false), (by first | rfl | (simp; done) | (simp [*]; done)), H', ⟨by have := HK1.out; have := HJ6.out; have := HJ13.out; first | omega | exact Nat.le_refl _⟩, ⟨by (with_reducible repeat (first | apply Kd.R_alloc | apply Kd.R_drewN | apply Kd.R_drew)); exact HO_5.out⟩, ⟨by (with_reducible repeat (first | apply Kd.R_alloc | apply Kd.R_drewN | apply Kd.R_drew)); exact HO_6.out⟩, ⟨by repeat (first | (with_reducible first | exact HB.out | apply below_alloc | apply pw_below_drewN | apply below_drew1) | exact HB.out)⟩⟩
            ·
             rw [if_neg c28] at H
             exact absurd H (by simp)
           ·
            rw [if_neg c27] at H
            exact absurd H (by simp)
          case rest =>
           clear HC26
           try clear c1
           try clear p1
           try clear q1
           try clear hx1
           try clear c2
           try clear p2
           try clear q2
           try clear hx2
           try clear c3
           try clear p3
           try clear q3
           try clear hx3
           try clear c4
           try clear c6
           try clear c6b0
           try clear p6
           try clear c8
           try clear c8b0
           try clear c9
           try clear c9b0
           try clear c10
           try clear p10
           try clear q10
           try clear hx10
           try clear c11
           try clear c11b0
           try clear p12
           try clear q12
           try clear hx12
           try clear c13
           try clear c13b0
           try clear c15
           try clear c15b0
           try clear c16
           try clear c16b0
           try clear p17
           try clear q17
           try clear hx17
           try clear c18
           try clear c18b0
           try clear c18b1
           try clear c19
           try clear c19b0
           try clear c21
           try clear c21b0
           try clear p22
           try clear q22
           try clear hx22
           try clear c23
           try clear c24
           try clear c27
           try clear c27b0
           try clear c28
           try clear c28b0
           try clear p29
           try clear q29
           try clear hx29
           try clear c30
           try clear c30b0
           try clear c30b1
           try clear c31
           try clear c31b0
           try clear c32
           try clear c32b0
           try clear c33
           try clear c33b0
           try clear p34
           try clear q34
           try clear hx34
           try clear p1
           try clear p10
           try clear p12
           try clear p17
           try clear p2
           try clear p22
           try clear p29
           try clear p34
           try clear p6
           try clear q1
           try clear q10
           try clear q12
           try clear q17
           try clear q2
           try clear q22
           try clear q29
           try clear q34
           obtain ⟨kq, x75_25, rfl, HA, HJ25, HO_5, HO_6, HB⟩ := hcut
           cases kq with
           | zero => exact absurd HA.out (by simp [glazierlaw47_BlanksTells.j4])
           | succ kj25 =>
            have H := HA.out
            clear HA
            simp only [glazierlaw47_BlanksTells.j4] at H
            by_cases c35 : x75_25 = true
            ·
             subst c35
             have H1 : (if 0 ≤ (wrap64 (x8_1 + 1)) then (if (wrap64 (x8_1 + 1)) ≤ x9_6 then (if x9_6 ≤ (a0.size : Int) then ((attrs_Get.f kj25 l1 (a0.extract ((wrap64 (x8_1 + 1)) : Int).toNat (x9_6 : Int).toNat)).bind fun bt761 => ((glazierref01_Of.f kj25 bt761.1 bt761.2.1).bind fun t767 => ((glazierref01_Cat.f x5_1 t767).bind fun t770 => (glazierlaw47_BlanksTells.l2 kj25 a0 l1 t770 x6_1 (wrap64 (x7_1 + 1)) x9_6 (a0.extract ((wrap64 (x8_1 + 1)) : Int).toNat (x9_6 : Int).toNat) false 0)))) else (none)) else (none)) else (none)) = some r := by rw [if_pos rfl] at H; exact H
             clear H
             have H := H1
             clear H1
             obtain ⟨ji36, hji36⟩ : ∃ j_ : Int, (wrap64 (x8_1 + 1)) = j_ := ⟨_, rfl⟩
             replace H : (if 0 ≤ (ji36) then (if (ji36) ≤ x9_6 then (if x9_6 ≤ (a0.size : Int) then ((attrs_Get.f kj25 l1 (a0.extract ((ji36) : Int).toNat (x9_6 : Int).toNat)).bind fun bt761 => ((glazierref01_Of.f kj25 bt761.1 bt761.2.1).bind fun t767 => ((glazierref01_Cat.f x5_1 t767).bind fun t770 => (glazierlaw47_BlanksTells.l2 kj25 a0 l1 t770 x6_1 (wrap64 (x7_1 + 1)) x9_6 (a0.extract ((ji36) : Int).toNat (x9_6 : Int).toNat) false 0)))) else (none)) else (none)) else (none)) = some r := by first | (rw [hji36] at H; exact H) | (simp only [hji36] at H ⊢; exact H)
             have hji36w : (IntKind.i64.wrap (x8_1 + 1)) = ji36 := (i64_w _).trans hji36
             by_cases c37 : 0 ≤ (ji36)
             ·
              rw [if_pos c37] at H
              have c37b0 := eq_true c37
              have c37b1 : decide (0 ≤ (ji36)) = true := decide_eq_true c37
              clear c37
              by_cases c38 : (ji36) ≤ x9_6
              ·
               rw [if_pos c38] at H
               have c38b0 := eq_true c38
               have c38b1 : decide ((ji36) ≤ x9_6) = true := decide_eq_true c38
               clear c38
               by_cases c39 : x9_6 ≤ (a0.size : Int)
               ·
                rw [if_pos c39] at H
                have c39b0 := eq_true c39
                have c39b1 : decide (x9_6 ≤ (a0.size : Int)) = true := decide_eq_true c39
                clear c39
                replace H := Option.bind_eq_some_iff.mp H
                obtain ⟨⟨t761, t762, t765⟩, A400, H⟩ := H
                replace H : ((glazierref01_Of.f kj25 t761 t762).bind fun t767 => ((glazierref01_Cat.f x5_1 t767).bind fun t770 => (glazierlaw47_BlanksTells.l2 kj25 a0 l1 t770 x6_1 (wrap64 (x7_1 + 1)) x9_6 (a0.extract ((ji36) : Int).toNat (x9_6 : Int).toNat) false 0))) = some r := H
                have A40 := Aside0.mk A400
                clear A400
                replace H := Option.bind_eq_some_iff.mp H
                obtain ⟨t767, A410, H⟩ := H
                replace H : ((glazierref01_Cat.f x5_1 t767).bind fun t770 => (glazierlaw47_BlanksTells.l2 kj25 a0 l1 t770 x6_1 (wrap64 (x7_1 + 1)) x9_6 (a0.extract ((ji36) : Int).toNat (x9_6 : Int).toNat) false 0)) = some r := H
                have A41 := Aside0.mk A410
                clear A410
                replace H := Option.bind_eq_some_iff.mp H
                obtain ⟨t770, A420, H⟩ := H
                replace H : (glazierlaw47_BlanksTells.l2 kj25 a0 l1 t770 x6_1 (wrap64 (x7_1 + 1)) x9_6 (a0.extract ((ji36) : Int).toNat (x9_6 : Int).toNat) false 0) = some r := H
                have A42 := Aside0.mk A420
                clear A420
                have H' := Aside0.mk H
                clear H
                go_wp2_with (first | ((with_reducible refine gate_callee (f := 48) rfl ?_); refine goesL_ (some 106) rfl rfl Try.func48 (by kernel_rfl) rfl #[.slice A1 l1.length c1, .string (a0.extract ((ji36) : Int).toNat (x9_6 : Int).toNat)] rfl (by (try simp only [List.map_toArray, List.map_cons, List.map_nil]); first | done | (simp only [hji36]; rfl) | rfl | (simp only [List.length_drop, List.length_take]; rfl)) ?_; (with_reducible refine (attrs_Get.calls kj25 _ _ l1 (a0.extract ((ji36) : Int).toNat (x9_6 : Int).toNat) t761 t762 t765 _ ?side1 ?side2 A40.out).mono ?_); (case side1 => repeat (first | exact (Kd.C_below HR1.out HB.out) | (with_reducible refine Kd.C_alloc ?_ _) | (with_reducible refine Kd.C_drewN ?_ _) | (with_reducible refine Kd.C_drew ?_))); (case side2 => exact HC1.out); rintro e w43 ⟨v763, rfl, ho0, hb⟩; refine ⟨_, rfl, ?_⟩; have n0_ := Aside0.mk (Kd.R_below (by (with_reducible repeat (first | apply Kd.R_alloc | apply Kd.R_drewN | apply Kd.R_drew)); exact HO_5.out) hb); have n1_ := Aside0.mk (Kd.R_below (by (with_reducible repeat (first | apply Kd.R_alloc | apply Kd.R_drewN | apply Kd.R_drew)); exact HO_6.out) hb); have n2_ := Aside0.mk (Kd.R_lower ho0 (below_size (by repeat (first | (with_reducible first | exact HB.out | apply below_alloc | apply pw_below_drewN | apply below_drew1) | exact HB.out)))); have n3_ := Aside0.mk (below_step (by repeat (first | (with_reducible first | exact HB.out | apply below_alloc | apply pw_below_drewN | apply below_drew1) | exact HB.out)) hb); clear HO_5; clear HO_6; clear HB; have HO_5 := n0_; have HO_6 := n1_; have HO764 := n2_; have HB := n3_; clear n0_ n1_ n2_ n3_; (try clear hb); (try clear hb2); (try clear hk); (try clear hi); (try clear ho0)) | ((with_reducible refine gate_dst (N := 11) rfl ?_); refine box_event ?hg (N := 11) ?hd (cs := #[.string (⟨#[]⟩ : ByteArray), .slice none 0 0]) (t := 24) ?hr ?_; (case hd => rfl); (case hg => rfl); (case hr => first | (go_simp; done) | (go_simp; rfl)); intro gb766 hg w44 hbox hb; have n0_ := Aside0.mk (Kd.R_below (by (with_reducible repeat (first | apply Kd.R_alloc | apply Kd.R_drewN | apply Kd.R_drew)); exact HO_5.out) hb); have n1_ := Aside0.mk (Kd.R_below (by (with_reducible repeat (first | apply Kd.R_alloc | apply Kd.R_drewN | apply Kd.R_drew)); exact HO_6.out) hb); have n2_ := Aside0.mk (Kd.R_below (by (with_reducible repeat (first | apply Kd.R_alloc | apply Kd.R_drewN | apply Kd.R_drew)); exact HO764.out) hb); have n3_ := Aside0.mk (below_step (by repeat (first | (with_reducible first | exact HB.out | apply below_alloc | apply pw_below_drewN | apply below_drew1) | exact HB.out)) hb); have n4_ := Aside0.mk (hbox); have n5_ := Aside0.mk ((by rw [hg]; exact (below_size (by repeat (first | (with_reducible first | exact HB.out | apply below_alloc | apply pw_below_drewN | apply below_drew1) | exact HB.out))) : w.heap.size ≤ gb766)); have n6_ := Aside0.mk ((by rw [hg]; exact (below_size (by repeat (first | (with_reducible first | exact HB.out | apply below_alloc | apply pw_below_drewN | apply below_drew1) | exact HB.out))) : w.heap.size ≤ gb766)); clear HO_5; clear HO_6; clear HO764; clear HB; have HO_5 := n0_; have HO_6 := n1_; have HO764 := n2_; have HB := n3_; have BK766 := n4_; have GW766 := n5_; have GE766 := n6_; clear n0_ n1_ n2_ n3_ n4_ n5_ n6_; clear hb hbox hg; have hcz45_0 : w44.cell? ⟨gb766, 0, none⟩ = some (.string (⟨#[]⟩ : ByteArray)) := (blk_cell BK766.out 0).trans rfl; have hcz45_1 : w44.cell? ⟨gb766, 1, none⟩ = some (.slice none 0 0) := (blk_cell BK766.out 1).trans rfl; have hfz45_0 := blk_frozen BK766.out 0; have hfz45_1 := blk_frozen BK766.out 1; obtain ⟨Ao46, co46, eo46⟩ := Kd.R_slice HO764.out; subst eo46) | ((with_reducible refine gate_callee (f := 23) rfl ?_); refine goesL_ (some 111) rfl rfl Try.func23 (by kernel_rfl) rfl #[.agg #[.string t761, .slice Ao46 t762.length co46]] rfl (by (try simp only [List.map_toArray, List.map_cons, List.map_nil]); first | done | rfl | (simp only [List.length_drop, List.length_take]; rfl)) ?_; (with_reducible refine (glazierref01_Of.calls kj25 t761 _ _ t762 t767 _ ?side1 ?side2 A41.out).mono ?_); (case side1 => refine (Kd.R_reads' (e := 85) (base := w.heap.size) (ok := fun k_ => True) (n := t762.length) (c := co46) ?_).2.2; exact (by (with_reducible repeat (first | apply Kd.R_alloc | apply Kd.R_drewN | apply Kd.R_drew)); exact (Kd.R_mono (Kd.R_far (p := ⟨gb766, 1, none⟩) (Kd.R_far (p := ⟨gb766, 0, none⟩) (Kd.R_types HO764.out BK766.out (by decide)) (fun _ hk => hk.2) (.string t761)) (fun _ hk => hk.2) (.slice Ao46 t762.length co46)) (fun _ h_ => h_.1)))); (case side2 => exact (Kd.R_reads' HO764.out).2.1); rintro e w47 ⟨v768, rfl, ho0, hb⟩; refine ⟨_, rfl, ?_⟩; have n0_ := Aside0.mk (Kd.R_elder' (by (with_reducible repeat (first | apply Kd.R_alloc | apply Kd.R_drewN | apply Kd.R_drew)); exact (Kd.R_mono (Kd.R_far (p := ⟨gb766, 1, none⟩) (Kd.R_far (p := ⟨gb766, 0, none⟩) (Kd.R_types HO_5.out BK766.out (by decide)) (fun _ hk => hk.2) (.string t761)) (fun _ hk => hk.2) (.slice Ao46 t762.length co46)) (fun _ h_ => h_.1))) (Kd.R_base ho0) hb); have n1_ := Aside0.mk (Kd.R_below (by (with_reducible repeat (first | apply Kd.R_alloc | apply Kd.R_drewN | apply Kd.R_drew)); exact (Kd.R_mono (Kd.R_far (p := ⟨gb766, 1, none⟩) (Kd.R_far (p := ⟨gb766, 0, none⟩) (Kd.R_types HO_6.out BK766.out (by decide)) (fun _ hk => hk.2) (.string t761)) (fun _ hk => hk.2) (.slice Ao46 t762.length co46)) (fun _ h_ => h_.1))) hb); have n2_ := Aside0.mk (Kd.R_below (by (with_reducible repeat (first | apply Kd.R_alloc | apply Kd.R_drewN | apply Kd.R_drew)); exact (Kd.R_mono (Kd.R_far (p := ⟨gb766, 1, none⟩) (Kd.R_far (p := ⟨gb766, 0, none⟩) (Kd.R_types HO764.out BK766.out (by decide)) (fun _ hk => hk.2) (.string t761)) (fun _ hk => hk.2) (.slice Ao46 t762.length co46)) (fun _ h_ => h_.1))) hb); have n3_ := Aside0.mk (Kd.R_lower (Kd.R_new' ho0 (Kd.R_lt (by (with_reducible repeat (first | apply Kd.R_alloc | apply Kd.R_drewN | apply Kd.R_drew)); exact (Kd.R_mono (Kd.R_far (p := ⟨gb766, 1, none⟩) (Kd.R_far (p := ⟨gb766, 0, none⟩) (Kd.R_types HO_5.out BK766.out (by decide)) (fun _ hk => hk.2) (.string t761)) (fun _ hk => hk.2) (.slice Ao46 t762.length co46)) (fun _ h_ => h_.1))))) (below_size (by repeat (first | (with_reducible first | exact HB.out | apply below_alloc | apply pw_below_drewN | apply below_drew1 | refine below_set ?_ GE766.out) | exact HB.out)))); have n4_ := Aside0.mk (blk_below (g := gb766) (o := .cells #[.string t761, .slice Ao46 t762.length co46] 24 (0, 0)) (by (with_reducible repeat (first | refine blk_drewN ?_ _ | refine blk_drew ?_ | refine blk_alloc ?_ _)); refine blk_put (cs := #[.string t761, .slice none 0 0]) ?_ 1 _ rfl; (with_reducible repeat (first | refine blk_drewN ?_ _ | refine blk_drew ?_ | refine blk_alloc ?_ _)); refine blk_put (cs := #[.string (⟨#[]⟩ : ByteArray), .slice none 0 0]) ?_ 0 _ rfl; (with_reducible repeat (first | refine blk_drewN ?_ _ | refine blk_drew ?_ | refine blk_alloc ?_ _)); exact BK766.out) hb); have n5_ := Aside0.mk (below_step (by repeat (first | (with_reducible first | exact HB.out | apply below_alloc | apply pw_below_drewN | apply below_drew1 | refine below_set ?_ GE766.out) | exact HB.out)) hb); clear HO_5; clear HO_6; clear HO764; clear BK766; clear HB; have HO_5 := n0_; have HO_6 := n1_; have HO764 := n2_; have HO769 := n3_; have BK766 := n4_; have HB := n5_; clear n0_ n1_ n2_ n3_ n4_ n5_; (try clear hb); (try clear hb2); (try clear hk); (try clear hi); (try clear ho0); obtain ⟨Ao48, co48, eo48⟩ := Kd.R_slice HO_5.out; subst eo48; obtain ⟨Ao49, co49, eo49⟩ := Kd.R_slice HO769.out; subst eo49) | ((with_reducible refine gate_callee (f := 49) rfl ?_); refine goesL_ (some 112) rfl rfl Try.func49 (by kernel_rfl) rfl #[.slice Ao48 x5_1.length co48, .slice Ao49 t767.length co49] rfl (by (try simp only [List.map_toArray, List.map_cons, List.map_nil]); first | done | rfl | (simp only [List.length_drop, List.length_take]; rfl)) ?_; (with_reducible refine (glazierref01_Cat.calls _ _ x5_1 _ _ t767 t770 _ ?side1 ?side2 ?side3 ?side4 A42.out).mono ?_); (case side1 => repeat (first | exact (Kd.R_reads' HO_5.out).2.2 | (with_reducible refine Kd.C_alloc ?_ _) | (with_reducible refine Kd.C_drewN ?_ _) | (with_reducible refine Kd.C_drew ?_))); (case side2 => exact (Kd.R_reads' HO_5.out).2.1); (case side3 => repeat (first | exact (Kd.R_reads' HO769.out).2.2 | (with_reducible refine Kd.C_alloc ?_ _) | (with_reducible refine Kd.C_drewN ?_ _) | (with_reducible refine Kd.C_drew ?_))); (case side4 => exact (Kd.R_reads' HO769.out).2.1); rintro e w50 ⟨v771, rfl, ho0, hb⟩; refine ⟨_, rfl, ?_⟩; have n0_ := Aside0.mk (Kd.R_elder' (by (with_reducible repeat (first | apply Kd.R_alloc | apply Kd.R_drewN | apply Kd.R_drew)); exact HO_5.out) (Kd.R_base ho0) hb); have n1_ := Aside0.mk (Kd.R_below (by (with_reducible repeat (first | apply Kd.R_alloc | apply Kd.R_drewN | apply Kd.R_drew)); exact HO_6.out) hb); have n2_ := Aside0.mk (Kd.R_below (by (with_reducible repeat (first | apply Kd.R_alloc | apply Kd.R_drewN | apply Kd.R_drew)); exact HO764.out) hb); have n3_ := Aside0.mk (Kd.R_elder' (by (with_reducible repeat (first | apply Kd.R_alloc | apply Kd.R_drewN | apply Kd.R_drew)); exact HO769.out) (Kd.R_base ho0) hb); have n4_ := Aside0.mk (Kd.R_lower (Kd.R_new' (Kd.R_new' ho0 (Kd.R_lt (by (with_reducible repeat (first | apply Kd.R_alloc | apply Kd.R_drewN | apply Kd.R_drew)); exact HO_5.out))) (Kd.R_lt (by (with_reducible repeat (first | apply Kd.R_alloc | apply Kd.R_drewN | apply Kd.R_drew)); exact HO769.out))) (below_size (by repeat (first | (with_reducible first | exact HB.out | apply below_alloc | apply pw_below_drewN | apply below_drew1 | refine below_set ?_ GE766.out) | exact HB.out)))); have n5_ := Aside0.mk (blk_below (g := gb766) (o := .cells #[.string t761, .slice Ao46 t762.length co46] 24 (0, 0)) (by (with_reducible repeat (first | refine blk_drewN ?_ _ | refine blk_drew ?_ | refine blk_alloc ?_ _)); exact BK766.out) hb); have n6_ := Aside0.mk (below_step (by repeat (first | (with_reducible first | exact HB.out | apply below_alloc | apply pw_below_drewN | apply below_drew1 | refine below_set ?_ GE766.out) | exact HB.out)) hb); clear HO_5; clear HO_6; clear HO764; clear HO769; clear BK766; clear HB; have HO_5 := n0_; have HO_6 := n1_; have HO764 := n2_; have HO769 := n3_; have HO772 := n4_; have BK766 := n5_; have HB := n6_; clear n0_ n1_ n2_ n3_ n4_ n5_ n6_; (try clear hb); (try clear hb2); (try clear hk); (try clear hi); (try clear ho0)))
                go_loopg [13, 14] kj25 (fun kq v13 v14 w' => ∃ (x13_5 : Bool) (x14_5 : Int), v13 = .bool x13_5 ∧ v14 = .int .i64 x14_5 ∧ Aside0 (glazierlaw47_BlanksTells.l2 kq a0 l1 t770 x6_1 (wrap64 (x7_1 + 1)) x9_6 (a0.extract ((ji36) : Int).toNat (x9_6 : Int).toNat) x13_5 x14_5 = some r) ∧ Aside0 (kq ≤ kj25) ∧ Aside0 (Kd.R k29 29 w' w.heap.size (fun _ => True) v771 t770) ∧ Aside0 (Kd.R Kd.string 9 w' w.heap.size (fun _ => True) u6 x6_1) ∧ Aside0 (Kd.R k85 85 w' w.heap.size (fun _ => True) (.slice Ao46 t762.length co46) t762) ∧ Aside0 (w'.heap[gb766]? = some (.cells #[.string t761, (.slice Ao46 t762.length co46)] 24 (0, 0))) ∧ Aside0 (Below w.heap.size w w'))
                case atStart => exact ⟨(false), (0), (by first | rfl | (simp; done) | (simp [*]; done)), (by first | rfl | (simp; done) | (simp [*]; done)), H', ⟨Nat.le_refl _⟩, ⟨by (with_reducible repeat (first | apply Kd.R_alloc | apply Kd.R_drewN | apply Kd.R_drew)); exact Kd.R_mono HO772.out (fun _ hk => trivial)⟩, ⟨by (with_reducible repeat (first | apply Kd.R_alloc | apply Kd.R_drewN | apply Kd.R_drew)); exact HO_6.out⟩, ⟨by (with_reducible repeat (first | apply Kd.R_alloc | apply Kd.R_drewN | apply Kd.R_drew)); exact HO764.out⟩, ⟨by (with_reducible repeat (first | refine blk_drewN ?_ _ | refine blk_drew ?_ | refine blk_alloc ?_ _)); exact BK766.out⟩, ⟨by repeat (first | (with_reducible first | exact HB.out | apply below_alloc | apply pw_below_drewN | apply below_drew1 | refine below_set ?_ GE766.out) | exact HB.out)⟩⟩
                case round =>
                 clear H'
                 try clear c1
                 try clear p1
                 try clear q1
                 try clear hx1
                 try clear c2
                 try clear p2
                 try clear q2
                 try clear hx2
                 try clear c3
                 try clear p3
                 try clear q3
                 try clear hx3
                 try clear c4
                 try clear c6
                 try clear c6b0
                 try clear p6
                 try clear c8
                 try clear c8b0
                 try clear c9
                 try clear c9b0
                 try clear c10
                 try clear p10
                 try clear q10
                 try clear hx10
                 try clear c11
                 try clear c11b0
                 try clear p12
                 try clear q12
                 try clear hx12
                 try clear c13
                 try clear c13b0
                 try clear c15
                 try clear c15b0
                 try clear c16
                 try clear c16b0
                 try clear p17
                 try clear q17
                 try clear hx17
                 try clear c18
                 try clear c18b0
                 try clear c18b1
                 try clear c19
                 try clear c19b0
                 try clear c21
                 try clear c21b0
                 try clear p22
                 try clear q22
                 try clear hx22
                 try clear c23
                 try clear c24
                 try clear c27
                 try clear c27b0
                 try clear c28
                 try clear c28b0
                 try clear p29
                 try clear q29
                 try clear hx29
                 try clear c30
                 try clear c30b0
                 try clear c30b1
                 try clear c31
                 try clear c31b0
                 try clear c32
                 try clear c32b0
                 try clear c33
                 try clear c33b0
                 try clear p34
                 try clear q34
                 try clear hx34
                 try clear c35
                 try clear c37
                 try clear c37b0
                 try clear c37b1
                 try clear c38
                 try clear c38b0
                 try clear c38b1
                 try clear c39
                 try clear c39b0
                 try clear c39b1
                 try clear c43
                 try clear c48
                 try clear c49
                 try clear hcz45_0
                 try clear hcz45_1
                 try clear hfz45_0
                 try clear hfz45_1
                 try clear p1
                 try clear p10
                 try clear p12
                 try clear p17
                 try clear p2
                 try clear p22
                 try clear p29
                 try clear p3
                 try clear p34
                 try clear p6
                 try clear q1
                 try clear q10
                 try clear q12
                 try clear q17
                 try clear q2
                 try clear q22
                 try clear q29
                 try clear q3
                 try clear q34
                 obtain ⟨x13_5, x14_5, rfl, rfl, HA, HK5, HO_5, HO_6, HO_767001, BK766, HB⟩ := hrel
                 cases gk with
                 | zero => exact absurd HA.out (by simp [glazierlaw47_BlanksTells.l2])
                 | succ k5 =>
                  have H := HA.out
                  clear HA
                  simp only [glazierlaw47_BlanksTells.l2] at H
                  by_cases c51 : x14_5 < (x6_1.length : Int)
                  ·
                   rw [if_pos c51] at H
                   have c51b0 : decide (x14_5 < (x6_1.length : Int)) = true := decide_eq_true c51
                   clear c51
                   by_cases c52 : x13_5 = true
                   ·
                    subst c52
                    have H1 : (glazierlaw47_BlanksTells.l2 k5 a0 l1 t770 x6_1 (wrap64 (x7_1 + 1)) x9_6 (a0.extract ((ji36) : Int).toNat (x9_6 : Int).toNat) true (wrap64 (x14_5 + 1))) = some r := by rw [if_pos rfl] at H; exact H
                    clear H
                    have H := H1
                    clear H1
                    have H' := Aside0.mk H
                    clear H
                    obtain ⟨Ao53, co53, eo53⟩ := Kd.R_slice HO_6.out
                    subst eo53
                    go_wp2
                    go_roundg k5
                    case measure => have := HK1.out; have := HJ6.out; have := HJ13.out; have := HJ25.out; have := HK5.out; omega
                    case rel => exact ⟨(true), (wrap64 (x14_5 + 1)), (by first | rfl | (simp; done) | (simp [*]; done)), (by first | rfl | (simp; done) | (simp [*]; done)), H', ⟨by have := HK1.out; have := HJ6.out; have := HJ13.out; have := HJ25.out; have := HK5.out; omega⟩, ⟨by (with_reducible repeat (first | apply Kd.R_alloc | apply Kd.R_drewN | apply Kd.R_drew)); exact HO_5.out⟩, ⟨by (with_reducible repeat (first | apply Kd.R_alloc | apply Kd.R_drewN | apply Kd.R_drew)); exact HO_6.out⟩, ⟨by (with_reducible repeat (first | apply Kd.R_alloc | apply Kd.R_drewN | apply Kd.R_drew)); exact HO_767001.out⟩, ⟨by (with_reducible repeat (first | refine blk_drewN ?_ _ | refine blk_drew ?_ | refine blk_alloc ?_ _)); exact BK766.out⟩, ⟨by repeat (first | (with_reducible first | exact HB.out | apply below_alloc | apply pw_below_drewN | apply below_drew1 | refine below_set ?_ GE766.out) | exact HB.out)⟩⟩
                   ·
                    replace c52 := Bool.eq_false_iff.mpr c52
                    subst c52
                    have H1 : (if 0 ≤ x14_5 then (glazierlaw47_BlanksTells.l2 k5 a0 l1 t770 x6_1 (wrap64 (x7_1 + 1)) x9_6 (a0.extract ((ji36) : Int).toNat (x9_6 : Int).toNat) ((rdOf ByteArray.empty x6_1 x14_5).toList == (a0.extract ((ji36) : Int).toNat (x9_6 : Int).toNat).toList) (wrap64 (x14_5 + 1))) else (none)) = some r := by rw [if_neg (show ¬ (false = true) by decide)] at H; exact H
                    clear H
                    have H := H1
                    clear H1
                    by_cases c54 : 0 ≤ x14_5
                    ·
                     rw [if_pos c54] at H
                     have c54b0 : decide (0 ≤ x14_5) = true := decide_eq_true c54
                     clear c54
                     have H' := Aside0.mk H
                     clear H
                     obtain ⟨Ao55, co55, eo55⟩ := Kd.R_slice HO_6.out
                     subst eo55
                     have p773 : 0 ≤ (x14_5 : Int) := of_decide_eq_true (by first | (with_reducible assumption) | assumption)
                     have q773 : x14_5 < (x6_1.length : Int) := of_decide_eq_true (by first | (with_reducible assumption) | assumption)
                     obtain ⟨ad773, e773, hx773_0⟩ := Kd.at_string (Kd.R_reads' HO_6.out).2.2 x14_5 p773 q773
                     cases e773
                     replace p773 := eq_true p773
                     replace q773 := eq_true q773
                     go_wp2
                     go_roundg k5
                     case measure => have := HK1.out; have := HJ6.out; have := HJ13.out; have := HJ25.out; have := HK5.out; omega
                     case rel => exact ⟨(((rdOf ByteArray.empty x6_1 x14_5).toList == (a0.extract ((ji36) : Int).toNat (x9_6 : Int).toNat).toList)), (wrap64 (x14_5 + 1)), (by first | rfl | (simp; done) | (simp only [← hji36] <;> (first | rfl | simp)) | (simp [*]; done)), (by first | rfl | (simp; done) | (simp [*]; done)), H', ⟨by have := HK1.out; have := HJ6.out; have := HJ13.out; have := HJ25.out; have := HK5.out; omega⟩, ⟨by (with_reducible repeat (first | apply Kd.R_alloc | apply Kd.R_drewN | apply Kd.R_drew)); exact HO_5.out⟩, ⟨by (with_reducible repeat (first | apply Kd.R_alloc | apply Kd.R_drewN | apply Kd.R_drew)); exact HO_6.out⟩, ⟨by (with_reducible repeat (first | apply Kd.R_alloc | apply Kd.R_drewN | apply Kd.R_drew)); exact HO_767001.out⟩, ⟨by (with_reducible repeat (first | refine blk_drewN ?_ _ | refine blk_drew ?_ | refine blk_alloc ?_ _)); exact BK766.out⟩, ⟨by repeat (first | (with_reducible first | exact HB.out | apply below_alloc | apply pw_below_drewN | apply below_drew1 | refine below_set ?_ GE766.out) | exact HB.out)⟩⟩
                    ·
                     rw [if_neg c54] at H
                     exact absurd H (by simp)
                  ·
                   rw [if_neg c51] at H
                   have c51b0 : decide (x14_5 < (x6_1.length : Int)) = false := decide_eq_false c51
                   clear c51
                   by_cases c56 : x13_5 = true
                   ·
                    subst c56
                    have H1 : (glazierlaw47_BlanksTells.l0 k5 a0 l1 t770 x6_1 (wrap64 (x7_1 + 1)) (wrap64 (x9_6 + 1))) = some r := by rw [if_pos rfl] at H; exact H
                    clear H
                    have H := H1
                    clear H1
                    have H' := Aside0.mk H
                    clear H
                    obtain ⟨Ao57, co57, eo57⟩ := Kd.R_slice HO_6.out
                    subst eo57
                    go_wp2
                    go_roundg k5
                    case measure => have := HK1.out; have := HJ6.out; have := HJ13.out; have := HJ25.out; have := HK5.out; omega
                    case rel => exact ⟨(t770), (x6_1), ((wrap64 (x7_1 + 1))), (wrap64 (x9_6 + 1)), (by first | rfl | (simp; done) | (simp [*]; done)), (by first | rfl | (simp; done) | (simp [*]; done)), H', ⟨by have := HK1.out; have := HJ6.out; have := HJ13.out; have := HJ25.out; have := HK5.out; omega⟩, ⟨by (with_reducible repeat (first | apply Kd.R_alloc | apply Kd.R_drewN | apply Kd.R_drew)); exact HO_5.out⟩, ⟨by (with_reducible repeat (first | apply Kd.R_alloc | apply Kd.R_drewN | apply Kd.R_drew)); exact HO_6.out⟩, ⟨by repeat (first | (with_reducible first | exact HB.out | apply below_alloc | apply pw_below_drewN | apply below_drew1 | refine below_set ?_ GE766.out) | exact HB.out)⟩⟩
                   ·
                    replace c56 := Bool.eq_false_iff.mpr c56
                    subst c56
                    have H1 : (if x6_1.length < 8796093022208 then (glazierlaw47_BlanksTells.l0 k5 a0 l1 t770 (x6_1 ++ [(a0.extract ((ji36) : Int).toNat (x9_6 : Int).toNat)]) (wrap64 (x7_1 + 1)) (wrap64 (x9_6 + 1))) else (none)) = some r := by rw [if_neg (show ¬ (false = true) by decide)] at H; exact H
                    clear H
                    have H := H1
                    clear H1
                    by_cases c58 : x6_1.length < 8796093022208
                    ·
                     rw [if_pos c58] at H
                     have LMc58 := Aside0.mk c58
                     clear c58
                     obtain ⟨y774, hy774⟩ : ∃ y_ : List ByteArray, y_ = (x6_1 ++ [(a0.extract ((ji36) : Int).toNat (x9_6 : Int).toNat)]) := ⟨_, rfl⟩
                     replace H : (glazierlaw47_BlanksTells.l0 k5 a0 l1 t770 y774 (wrap64 (x7_1 + 1)) (wrap64 (x9_6 + 1))) = some r := by first | (rw [hy774]; with_reducible exact H) | (have H2_ := (Option.bind_some _ _).symm.trans H; rw [hy774]; with_reducible exact H2_) | (have H2_ := (Option.bind_some _ _).symm.trans H; with_reducible exact H2_) | with_reducible exact H | (rw [hy774]; exact H) | exact H
                     have Ny774 := Aside0.mk hy774
                     clear hy774
                     have H' := Aside0.mk H
                     clear H
                     obtain ⟨Ao59, co59, eo59⟩ := Kd.R_slice HO_6.out
                     subst eo59
                     go_wp2_with (first | ((with_reducible refine gate_builtin (b := .append) (xs := #[.tmp 132, .tmp 134]) rfl ?_); at_builtin; refine Kd.R_append Kd.string (w0 := w) w.heap.size rfl (.tmp 132) (.tmp 134) 49 9 (.string ⟨#[]⟩) 16 rfl Try.underlying49 info9 rfl (by decide) (by omega) (.slice Ao59 x6_1.length co59) x6_1 (a0.extract ((ji36) : Int).toNat (x9_6 : Int).toNat) [.string (a0.extract ((ji36) : Int).toNat (x9_6 : Int).toNat)] (fun _ => True) (fun _ => False) rfl rfl ?aP (fun _ hk => hk.elim) ?aF ?aO ?aB ?aS ?aL ?_; (case aP => exact rfl); (case aB => exact (by repeat (first | (with_reducible first | exact HB.out | apply below_alloc | apply pw_below_drewN | apply below_drew1 | refine below_set ?_ GE766.out) | exact HB.out))); (case aF => exact (fun _ _ => trivial)); (case aO => exact (by (with_reducible repeat (first | apply Kd.R_alloc | apply Kd.R_drewN | apply Kd.R_drew)); exact HO_6.out)); (case aS => exact (below_size (by repeat (first | (with_reducible first | exact HB.out | apply below_alloc | apply pw_below_drewN | apply below_drew1 | refine below_set ?_ GE766.out) | exact HB.out)))); (case aL => have := LMc58.out; omega); intro v775 w60 ho hb hg hat; rw [← Ny774.out] at ho; have n0_ := Aside0.mk (Kd.R_over' (by (with_reducible repeat (first | apply Kd.R_alloc | apply Kd.R_drewN | apply Kd.R_drew)); exact HO_5.out) (Kd.R_typed (by (with_reducible repeat (first | apply Kd.R_alloc | apply Kd.R_drewN | apply Kd.R_drew)); exact HO_6.out)) (by decide) hg); have n1_ := Aside0.mk (Kd.R_over' (by (with_reducible repeat (first | apply Kd.R_alloc | apply Kd.R_drewN | apply Kd.R_drew)); exact HO_767001.out) (Kd.R_typed (by (with_reducible repeat (first | apply Kd.R_alloc | apply Kd.R_drewN | apply Kd.R_drew)); exact HO_6.out)) (by decide) hg); have n2_ := Aside0.mk (blk_grown (g := gb766) (o := .cells #[.string t761, .slice Ao46 t762.length co46] 24 (0, 0)) (by (with_reducible repeat (first | refine blk_drewN ?_ _ | refine blk_drew ?_ | refine blk_alloc ?_ _)); exact BK766.out) hg (Kd.R_ne HO_6.out BK766.out (by decide))); have n3_ := Aside0.mk (hb); have n4_ := Aside0.mk (ho); clear HO_5; clear HO_767001; clear BK766; clear HB; clear HO_6; have HO_5 := n0_; have HO_767001 := n1_; have BK766 := n2_; have HB := n3_; have HO776 := n4_; clear n0_ n1_ n2_ n3_ n4_; clear ho hb hg hat))
                     go_roundg k5
                     case measure => have := HK1.out; have := HJ6.out; have := HJ13.out; have := HJ25.out; have := HK5.out; omega
                     case rel => exact ⟨(t770), (y774), ((wrap64 (x7_1 + 1))), (wrap64 (x9_6 + 1)), (by first | rfl | (simp; done) | (simp [*]; done)), (by first | rfl | (simp; done) | (simp [*]; done)), H', ⟨by have := HK1.out; have := HJ6.out; have := HJ13.out; have := HJ25.out; have := HK5.out; omega⟩, ⟨by (with_reducible repeat (first | apply Kd.R_alloc | apply Kd.R_drewN | apply Kd.R_drew)); exact HO_5.out⟩, ⟨by (with_reducible repeat (first | apply Kd.R_alloc | apply Kd.R_drewN | apply Kd.R_drew)); exact HO776.out⟩, ⟨by repeat (first | (with_reducible first | exact HB.out | apply below_alloc | apply pw_below_drewN | apply below_drew1 | refine below_set ?_ GE766.out) | exact HB.out)⟩⟩
                    ·
                     rw [if_neg c58] at H
                     exact absurd H (by simp)
               ·
                rw [if_neg c39] at H
                exact absurd H (by simp)
              ·
               rw [if_neg c38] at H
               exact absurd H (by simp)
             ·
              rw [if_neg c37] at H
              exact absurd H (by simp)
            ·
             replace c35 := Bool.eq_false_iff.mpr c35
             subst c35
             have H1 : (if 0 ≤ x8_1 then (if x8_1 < (a0.size : Int) then (if x5_1.length < 8796093022208 then (glazierlaw47_BlanksTells.l0 kj25 a0 l1 (x5_1 ++ [(⟨bt a0 x8_1, 0⟩ : S29)]) x6_1 x7_1 (wrap64 (x8_1 + 1))) else (none)) else (none)) else (none)) = some r := by rw [if_neg (show ¬ (false = true) by decide)] at H; exact H
             clear H
             have H := H1
             clear H1
             by_cases c61 : 0 ≤ x8_1
             ·
              rw [if_pos c61] at H
              have c61b0 : decide (0 ≤ x8_1) = true := decide_eq_true c61
              clear c61
              by_cases c62 : x8_1 < (a0.size : Int)
              ·
               rw [if_pos c62] at H
               have c62b0 : decide (x8_1 < (a0.size : Int)) = true := decide_eq_true c62
               clear c62
               by_cases c64 : x5_1.length < 8796093022208
               ·
                rw [if_pos c64] at H
                have LMc64 := Aside0.mk c64
                clear c64
                obtain ⟨y777, hy777⟩ : ∃ y_ : List (S29), y_ = (x5_1 ++ [(⟨bt a0 x8_1, 0⟩ : S29)]) := ⟨_, rfl⟩
                replace H : (glazierlaw47_BlanksTells.l0 kj25 a0 l1 y777 x6_1 x7_1 (wrap64 (x8_1 + 1))) = some r := by first | (rw [hy777]; with_reducible exact H) | (have H2_ := (Option.bind_some _ _).symm.trans H; rw [hy777]; with_reducible exact H2_) | (have H2_ := (Option.bind_some _ _).symm.trans H; with_reducible exact H2_) | with_reducible exact H | (rw [hy777]; exact H) | exact H
                have Ny777 := Aside0.mk hy777
                clear hy777
                have H' := Aside0.mk H
                clear H
                have p63 : 0 ≤ (x8_1 : Int) := of_decide_eq_true (by first | (with_reducible assumption) | assumption)
                have q63 : x8_1 < (a0.size : Int) := of_decide_eq_true (by first | (with_reducible assumption) | assumption)
                have hx63 := bt_at a0 x8_1
                replace p63 := eq_true p63
                replace q63 := eq_true q63
                go_wp2_with (first | ((with_reducible refine gate_builtin (b := .append) (xs := #[.tmp 43, .tmp 48]) rfl ?_); at_builtin; refine Kd.R_append k29 (w0 := w) w.heap.size rfl (.tmp 43) (.tmp 48) 26 29 (.agg #[(.int .u8 0), (.int .i64 0)]) 16 rfl Try.underlying26 info29 rfl (by decide) (by omega) u5 x5_1 (⟨bt a0 x8_1, 0⟩ : S29) [.int .u8 (bt a0 x8_1), .int .i64 0] (fun _ => True) (fun _ => False) rfl rfl ?aP (fun _ hk => hk.elim) ?aF ?aO ?aB ?aS ?aL ?_; (case aP => exact k29_mkM _ _ _ (⟨bt a0 x8_1, 0⟩ : S29)); (case aB => exact (by repeat (first | (with_reducible first | exact HB.out | apply below_alloc | apply pw_below_drewN | apply below_drew1) | exact HB.out))); (case aF => exact (fun _ _ => trivial)); (case aO => exact (by (with_reducible repeat (first | apply Kd.R_alloc | apply Kd.R_drewN | apply Kd.R_drew)); exact HO_5.out)); (case aS => exact (below_size (by repeat (first | (with_reducible first | exact HB.out | apply below_alloc | apply pw_below_drewN | apply below_drew1) | exact HB.out)))); (case aL => have := LMc64.out; omega); intro v778 w65 ho hb hg hat; rw [← Ny777.out] at ho; have n0_ := Aside0.mk (Kd.R_over' (by (with_reducible repeat (first | apply Kd.R_alloc | apply Kd.R_drewN | apply Kd.R_drew)); exact HO_6.out) (Kd.R_typed (by (with_reducible repeat (first | apply Kd.R_alloc | apply Kd.R_drewN | apply Kd.R_drew)); exact HO_5.out)) (by decide) hg); have n1_ := Aside0.mk (hb); have n2_ := Aside0.mk (ho); clear HO_6; clear HB; clear HO_5; have HO_6 := n0_; have HB := n1_; have HO779 := n2_; clear n0_ n1_ n2_; clear ho hb hg hat))
                go_roundg kj25
                case measure => have := HK1.out; have := HJ6.out; have := HJ13.out; have := HJ25.out; omega
                case rel => exact ⟨(y777), (x6_1), (x7_1), (wrap64 (x8_1 + 1)), (by first | rfl | (simp; done) | (simp [*]; done)), (by first | rfl | (simp; done) | (simp [*]; done)), H', ⟨by have := HK1.out; have := HJ6.out; have := HJ13.out; have := HJ25.out; omega⟩, ⟨by (with_reducible repeat (first | apply Kd.R_alloc | apply Kd.R_drewN | apply Kd.R_drew)); exact HO779.out⟩, ⟨by (with_reducible repeat (first | apply Kd.R_alloc | apply Kd.R_drewN | apply Kd.R_drew)); exact HO_6.out⟩, ⟨by repeat (first | (with_reducible first | exact HB.out | apply below_alloc | apply pw_below_drewN | apply below_drew1) | exact HB.out)⟩⟩
               ·
                rw [if_neg c64] at H
                exact absurd H (by simp)
              ·
               rw [if_neg c62] at H
               exact absurd H (by simp)
             ·
              rw [if_neg c61] at H
              exact absurd H (by simp)
    ·
     rw [if_neg c6] at H
     have c6b0 : decide (x8_1 < (a0.size : Int)) = false := decide_eq_false c6
     clear c6
     replace H := Option.bind_eq_some_iff.mp H
     obtain ⟨⟨t780, t781⟩, A660, H⟩ := H
     replace H : ((glazierref01_Is.f k1 t780 t781 x5_1).bind fun t784 => (if t784 = true then ((blanks_Names.f k1 a0).bind fun t785 => ((glazierplain_Texts.f k1 t785 x6_1).bind fun t788 => (if t788 = true then ((blanks_Count.f k1 a0).bind fun t789 => (some (t789 == x7_1))) else (none)))) else (none))) = some r := H
     have A66 := Aside0.mk A660
     clear A660
     replace H := Option.bind_eq_some_iff.mp H
     obtain ⟨t784, A670, H⟩ := H
     replace H : (if t784 = true then ((blanks_Names.f k1 a0).bind fun t785 => ((glazierplain_Texts.f k1 t785 x6_1).bind fun t788 => (if t788 = true then ((blanks_Count.f k1 a0).bind fun t789 => (some (t789 == x7_1))) else (none)))) else (none)) = some r := H
     have A67 := Aside0.mk A670
     clear A670
     by_cases c68 : t784 = true
     ·
      subst c68
      have H1 : ((blanks_Names.f k1 a0).bind fun t785 => ((glazierplain_Texts.f k1 t785 x6_1).bind fun t788 => (if t788 = true then ((blanks_Count.f k1 a0).bind fun t789 => (some (t789 == x7_1))) else (none)))) = some r := by rw [if_pos rfl] at H; exact H
      clear H
      have H := H1
      clear H1
      replace H := Option.bind_eq_some_iff.mp H
      obtain ⟨t785, A690, H⟩ := H
      replace H : ((glazierplain_Texts.f k1 t785 x6_1).bind fun t788 => (if t788 = true then ((blanks_Count.f k1 a0).bind fun t789 => (some (t789 == x7_1))) else (none))) = some r := H
      have A69 := Aside0.mk A690
      clear A690
      replace H := Option.bind_eq_some_iff.mp H
      obtain ⟨t788, A700, H⟩ := H
      replace H : (if t788 = true then ((blanks_Count.f k1 a0).bind fun t789 => (some (t789 == x7_1))) else (none)) = some r := H
      have A70 := Aside0.mk A700
      clear A700
      by_cases c71 : t788 = true
      ·
       subst c71
       have H1 : ((blanks_Count.f k1 a0).bind fun t789 => (some (t789 == x7_1))) = some r := by rw [if_pos rfl] at H; exact H
       clear H
       have H := H1
       clear H1
       replace H := Option.bind_eq_some_iff.mp H
       obtain ⟨t789, A720, H⟩ := H
       replace H : (some (t789 == x7_1)) = some r := H
       have A72 := Aside0.mk A720
       clear A720
       obtain rfl := Option.some.inj H
       go_wp2_with (first | ((with_reducible refine gate_callee (f := 45) rfl ?_); refine goesL_ (some 139) rfl rfl Try.func45 (by kernel_rfl) rfl #[.string a0, .slice A1 l1.length c1] rfl (by (try simp only [List.map_toArray, List.map_cons, List.map_nil]); first | done | rfl | (simp only [List.length_drop, List.length_take]; rfl)) ?_; (with_reducible refine (blanks_Fill.calls k1 a0 _ _ l1 t780 t781 _ ?side1 ?side2 A66.out).mono ?_); (case side1 => repeat (first | exact (Kd.C_below HR1.out HB.out) | (with_reducible refine Kd.C_alloc ?_ _) | (with_reducible refine Kd.C_drewN ?_ _) | (with_reducible refine Kd.C_drew ?_))); (case side2 => exact HC1.out); rintro e w73 ⟨v782, rfl, ho0, hb⟩; refine ⟨_, rfl, ?_⟩; have n0_ := Aside0.mk (Kd.R_below (by (with_reducible repeat (first | apply Kd.R_alloc | apply Kd.R_drewN | apply Kd.R_drew)); exact HO_5.out) hb); have n1_ := Aside0.mk (Kd.R_below (by (with_reducible repeat (first | apply Kd.R_alloc | apply Kd.R_drewN | apply Kd.R_drew)); exact HO_6.out) hb); have n2_ := Aside0.mk (Kd.R_lower ho0 (below_size (by repeat (first | (with_reducible first | exact HB.out | apply below_alloc | apply pw_below_drewN | apply below_drew1) | exact HB.out)))); have n3_ := Aside0.mk (below_step (by repeat (first | (with_reducible first | exact HB.out | apply below_alloc | apply pw_below_drewN | apply below_drew1) | exact HB.out)) hb); clear HO_5; clear HO_6; clear HB; have HO_5 := n0_; have HO_6 := n1_; have HO783 := n2_; have HB := n3_; clear n0_ n1_ n2_ n3_; (try clear hb); (try clear hb2); (try clear hk); (try clear hi); (try clear ho0); obtain ⟨Ao74, co74, eo74⟩ := Kd.R_slice HO783.out; subst eo74; obtain ⟨Ao75, co75, eo75⟩ := Kd.R_slice HO_5.out; subst eo75) | ((with_reducible refine gate_callee (f := 24) rfl ?_); refine goesL_ (some 141) rfl rfl Try.func24 (by kernel_rfl) rfl #[.agg #[.string t780, .slice Ao74 t781.length co74], .slice Ao75 x5_1.length co75] rfl (by (try simp only [List.map_toArray, List.map_cons, List.map_nil]); first | done | rfl | (simp only [List.length_drop, List.length_take]; rfl)) ?_; (with_reducible refine (glazierref01_Is.calls k1 t780 _ _ t781 _ _ x5_1 true _ ?side1 ?side2 ?side3 ?side4 A67.out).mono ?_); (case side1 => repeat (first | exact (Kd.R_reads' HO783.out).2.2 | (with_reducible refine Kd.C_alloc ?_ _) | (with_reducible refine Kd.C_drewN ?_ _) | (with_reducible refine Kd.C_drew ?_))); (case side2 => exact (Kd.R_reads' HO783.out).2.1); (case side3 => repeat (first | exact (Kd.R_reads' HO_5.out).2.2 | (with_reducible refine Kd.C_alloc ?_ _) | (with_reducible refine Kd.C_drewN ?_ _) | (with_reducible refine Kd.C_drew ?_))); (case side4 => exact (Kd.R_reads' HO_5.out).2.1); rintro e w76 ⟨rfl, hb⟩; refine ⟨_, rfl, ?_⟩; have n0_ := Aside0.mk (Kd.R_below (by (with_reducible repeat (first | apply Kd.R_alloc | apply Kd.R_drewN | apply Kd.R_drew)); exact HO_5.out) hb); have n1_ := Aside0.mk (Kd.R_below (by (with_reducible repeat (first | apply Kd.R_alloc | apply Kd.R_drewN | apply Kd.R_drew)); exact HO_6.out) hb); have n2_ := Aside0.mk (Kd.R_below (by (with_reducible repeat (first | apply Kd.R_alloc | apply Kd.R_drewN | apply Kd.R_drew)); exact HO783.out) hb); have n3_ := Aside0.mk (below_step (by repeat (first | (with_reducible first | exact HB.out | apply below_alloc | apply pw_below_drewN | apply below_drew1) | exact HB.out)) hb); clear HO_5; clear HO_6; clear HO783; clear HB; have HO_5 := n0_; have HO_6 := n1_; have HO783 := n2_; have HB := n3_; clear n0_ n1_ n2_ n3_; (try clear hb); (try clear hb2); (try clear hk); (try clear hi)) | (go_at_call 51; (with_reducible refine (blanks_Names.calls k1 a0 t785 _ A69.out).mono ?_); rintro e w77 ⟨v786, rfl, ho0, hb⟩; have n0_ := Aside0.mk (Kd.R_below (by (with_reducible repeat (first | apply Kd.R_alloc | apply Kd.R_drewN | apply Kd.R_drew)); exact HO_5.out) hb); have n1_ := Aside0.mk (Kd.R_elder' (by (with_reducible repeat (first | apply Kd.R_alloc | apply Kd.R_drewN | apply Kd.R_drew)); exact HO_6.out) (Kd.R_base ho0) hb); have n2_ := Aside0.mk (Kd.R_below (by (with_reducible repeat (first | apply Kd.R_alloc | apply Kd.R_drewN | apply Kd.R_drew)); exact HO783.out) hb); have n3_ := Aside0.mk (Kd.R_lower (Kd.R_new' ho0 (Kd.R_lt (by (with_reducible repeat (first | apply Kd.R_alloc | apply Kd.R_drewN | apply Kd.R_drew)); exact HO_6.out))) (below_size (by repeat (first | (with_reducible first | exact HB.out | apply below_alloc | apply pw_below_drewN | apply below_drew1) | exact HB.out)))); have n4_ := Aside0.mk (below_step (by repeat (first | (with_reducible first | exact HB.out | apply below_alloc | apply pw_below_drewN | apply below_drew1) | exact HB.out)) hb); clear HO_5; clear HO_6; clear HO783; clear HB; have HO_5 := n0_; have HO_6 := n1_; have HO783 := n2_; have HO787 := n3_; have HB := n4_; clear n0_ n1_ n2_ n3_ n4_; (try clear hb); (try clear hb2); (try clear hk); (try clear hi); (try clear ho0); obtain ⟨Ao78, co78, eo78⟩ := Kd.R_slice HO787.out; subst eo78; obtain ⟨Ao79, co79, eo79⟩ := Kd.R_slice HO_6.out; subst eo79) | (go_at_call 50; (with_reducible refine (glazierplain_Texts.calls k1 _ _ t785 _ _ x6_1 true _ ?side1 ?side2 ?side3 ?side4 A70.out).mono ?_); (case side1 => repeat (first | exact (Kd.R_reads' HO787.out).2.2 | (with_reducible refine Kd.C_alloc ?_ _) | (with_reducible refine Kd.C_drewN ?_ _) | (with_reducible refine Kd.C_drew ?_))); (case side2 => exact (Kd.R_reads' HO787.out).2.1); (case side3 => repeat (first | exact (Kd.R_reads' HO_6.out).2.2 | (with_reducible refine Kd.C_alloc ?_ _) | (with_reducible refine Kd.C_drewN ?_ _) | (with_reducible refine Kd.C_drew ?_))); (case side4 => exact (Kd.R_reads' HO_6.out).2.1); rintro e w' ⟨rfl, ⟨nd, rfl⟩⟩) | (go_at_call 52; (with_reducible refine (blanks_Count.calls k1 a0 t789 _ A72.out).mono ?_); rintro e w80 ⟨rfl, hb⟩; have n0_ := Aside0.mk (Kd.R_below (by (with_reducible repeat (first | apply Kd.R_alloc | apply Kd.R_drewN | apply Kd.R_drew)); exact HO_5.out) hb); have n1_ := Aside0.mk (Kd.R_below (by (with_reducible repeat (first | apply Kd.R_alloc | apply Kd.R_drewN | apply Kd.R_drew)); exact HO_6.out) hb); have n2_ := Aside0.mk (Kd.R_below (by (with_reducible repeat (first | apply Kd.R_alloc | apply Kd.R_drewN | apply Kd.R_drew)); exact HO783.out) hb); have n3_ := Aside0.mk (Kd.R_below (by (with_reducible repeat (first | apply Kd.R_alloc | apply Kd.R_drewN | apply Kd.R_drew)); exact HO787.out) hb); have n4_ := Aside0.mk (below_step (by repeat (first | (with_reducible first | exact HB.out | apply below_alloc | apply pw_below_drewN | apply below_drew1) | exact HB.out)) hb); clear HO_5; clear HO_6; clear HO783; clear HO787; clear HB; have HO_5 := n0_; have HO_6 := n1_; have HO783 := n2_; have HO787 := n3_; have HB := n4_; clear n0_ n1_ n2_ n3_ n4_; (try clear hb); (try clear hb2); (try clear hk); (try clear hi)))
       go_ret
       exact ⟨by first | rfl | (simp [errW_none, errW_some] <;> rfl) | (simp [*, errW_none, errW_some] <;> rfl), by repeat (first | (with_reducible first | exact HB.out | apply below_alloc | apply pw_below_drewN | apply below_drew1) | exact HB.out)⟩
      ·
       replace c71 := Bool.eq_false_iff.mpr c71
       subst c71
       have H1 : (none) = some r := by rw [if_neg (show ¬ (false = true) by decide)] at H; exact H
       clear H
       have H := H1
       clear H1
       exact absurd H (by simp)
     ·
      replace c68 := Bool.eq_false_iff.mpr c68
      subst c68
      have H1 : (none) = some r := by rw [if_neg (show ¬ (false = true) by decide)] at H; exact H
      clear H
      have H := H1
      clear H1
      exact absurd H (by simp)
 ·
  replace c4 := Bool.eq_false_iff.mpr c4
  subst c4
  have H1 : (none) = some r := by rw [if_neg (show ¬ (false = true) by decide)] at H; exact H
  clear H
  have H := H1
  clear H1
  exact absurd H (by simp)

end Go.Proofs.Ytljmmhihdcnbaaa.G
