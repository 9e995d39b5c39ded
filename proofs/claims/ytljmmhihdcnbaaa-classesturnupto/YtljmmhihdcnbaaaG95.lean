-- Written for this claim by hybrid.py's copy of the print program (a program of this session); not trusted: Lean checks it.
import Derived.Test.YtljmmhihdcnbaaaG0
import Derived.Test.YtljmmhihdcnbaaaG7
import Derived.Test.YtljmmhihdcnbaaaG82
import Derived.Test.YtljmmhihdcnbaaaG85
import Derived.Test.YtljmmhihdcnbaaaG89
import Derived.Test.YtljmmhihdcnbaaaG90
import Derived.Test.YtljmmhihdcnbaaaG91
import Derived.Test.YtljmmhihdcnbaaaG93
import Derived.Test.YtljmmhihdcnbaaaG94
namespace Go.Proofs.Ytljmmhihdcnbaaa.G
open Go.RowKit Go.Proofs.YtljmmhihdcnbaaaW.PrintWords Go.Proofs.YtljmmhihdcnbaaaW.PrintLast Go.Proofs.YtljmmhihdcnbaaaW.PrintMore
attribute [local go_sem] max2_int min2_int max_two min_two max_three min_three max_four min_four   -- for this text's walks alone
set_option linter.unusedVariables false
set_option linter.unusedSimpArgs false

/-! ### glazierlaw41_ClassesTurn: function 13 -/
def glazierlaw41_ClassesTurn.f (k : Nat) (a0_0 : ByteArray) (l0_1 : List (S85)) (a1 : ByteArray) : Option (Bool) := (glazierlaw41_alive.f k).bind fun t1069 => (if t1069 = true then ((mark_Of.f a1 0).bind fun bt1070 => ((classes_Turn.f k a0_0 l0_1 bt1070.1 bt1070.2).bind fun bt1075 => ((classes_Turn.f k bt1075.1 bt1075.2.1 bt1070.1 bt1070.2).bind fun bt1081 => (if bt1075.2.2 = 0 then ((classes_Add.f k a0_0 l0_1 bt1070.1 bt1070.2).bind fun bt1094 => (if bt1081.2.2 = 0 then ((classes_Has.f k bt1075.1 bt1075.2.1 a1).bind fun t1100 => ((classes_Has.f k a0_0 l0_1 a1).bind fun t1101 => (if (t1100 != t1101) = true then ((classes_Has.f k bt1081.1 bt1081.2.1 a1).bind fun t1102 => ((classes_Has.f k a0_0 l0_1 a1).bind fun t1103 => (if (t1102 == t1103) = true then ((classes_Has.f k bt1094.1 bt1094.2.1 a1).bind fun t1104 => (if t1104 = true then ((classes_Drop.f k a0_0 l0_1 a1).bind fun bt1105 => ((classes_Has.f k bt1105.1 bt1105.2 a1).bind fun t1109 => (if t1109 = true then (none) else ((classes_Words.f k bt1081.1 bt1081.2.1).bind fun t1110 => ((classes_Words.f k a0_0 l0_1).bind fun t1113 => (some ((t1110.length : Int) == (t1113.length : Int)))))))) else (none))) else (none)))) else (none)))) else (none))) else (if bt1075.2.2 = 16 then ((seek_Fields.f k bt1070.1 bt1070.2).bind fun t1087 => (if (t1087.length : Int) = 1 then ((seek_Fields.f k bt1070.1 bt1070.2).bind fun t1090 => (if 0 < (t1090.length : Int) then (some (((rd_T24 t1090 0).f0).toList != a1.toList)) else (none))) else (some true))) else (none)))))) else (none))
theorem glazierlaw41_ClassesTurn.mono : ∀ a0 a1 a2 k, LeO (glazierlaw41_ClassesTurn.f k a0 a1 a2) (glazierlaw41_ClassesTurn.f (k + 1) a0 a1 a2) := by
 intro a0 a1 a2 k
 unfold glazierlaw41_ClassesTurn.f
 repeat' first
   | (with_reducible exact classes_Add.mono _ _ _ _ _)
   | (with_reducible exact classes_Drop.mono _ _ _ _)
   | (with_reducible exact classes_Has.mono _ _ _ _)
   | (with_reducible exact classes_Turn.mono _ _ _ _ _)
   | (with_reducible exact classes_Words.mono _ _ _)
   | (with_reducible exact glazierlaw41_alive.mono _)
   | (with_reducible exact seek_Fields.mono _ _ _)
   | (with_reducible exact LeO.refl _)
   | (with_reducible exact LeO.none _)
   | (with_reducible refine LeO.ite ?_ ?_)
   | (with_reducible refine LeO.bind ?_ (fun _ => ?_))
   | exact classes_Add.mono _ _ _ _ _
   | exact classes_Drop.mono _ _ _ _
   | exact classes_Has.mono _ _ _ _
   | exact classes_Turn.mono _ _ _ _ _
   | exact classes_Words.mono _ _ _
   | exact glazierlaw41_alive.mono _
   | exact seek_Fields.mono _ _ _
   | exact LeO.none _
   | refine LeO.ite ?_ ?_
   | refine LeO.bind ?_ (fun _ => ?_)
def glazierlaw41_ClassesTurn.T9 : Bool × List (List Nat × List Nat) := (true, [([], []), ([0], [0]), ([1], [1]), ([2], [2]), ([2], [2]), ([3, 4, 2, 2], [2, 3, 4]), ([2], [2]), ([2], [2]), ([6, 7, 5, 2], [2, 6, 7]), ([5, 8, 2], [2, 5, 8]), ([2, 9], [2, 9]), ([10, 8], [10]), ([11], [11]), ([11], [11]), ([12, 13, 11, 11], [11, 12, 13]), ([11], [11]), ([11], [11]), ([15, 16, 14, 11], [11, 15, 16]), ([14, 17, 11], [11, 14, 17]), ([11, 18], [11, 18]), ([19, 17], [19]), ([20], [20]), ([20], [20]), ([21, 22, 20, 20], [20, 21, 22]), ([20, 23], [20, 23]), ([24, 23], [24]), ([25], [25]), ([25], [25]), ([26, 27, 25, 25], [25, 26, 27]), ([25], [25]), ([28, 29, 28, 25], [25, 28, 29]), ([30, 25], [25, 30]), ([25, 31], [25, 31]), ([32, 30], [32]), ([33], [33]), ([34, 33, 33], [33, 34]), ([35, 33], [33, 35]), ([33], [33]), ([37, 35, 33], [33, 37]), ([38, 33], [33, 38]), ([36, 39, 33], [33, 36, 39]), ([33, 40], [33, 40]), ([41, 38, 0, 1, 2, 3, 4, 5, 6, 7, 8, 9, 10, 11, 12, 13, 14, 15, 16, 17, 18, 19, 20, 21, 22, 23, 24, 25, 26, 27, 28, 29, 30, 31, 32, 33, 34, 35, 36, 37, 38, 39, 40, 41], [41])])
def glazierlaw41_ClassesTurn.B9 : List Nat := [0, 1, 3, 7, 7, 31, 7, 7, 255, 511, 1023, 2047, 4095, 4095, 16383, 4095, 4095, 131071, 262143, 524287, 1048575, 2097151, 2097151, 8388607, 16777215, 33554431, 67108863, 67108863, 268435455, 67108863, 1073741823, 2147483647, 4294967295, 8589934591, 17179869183, 34359738367, 68719476735, 17179869183, 206158430207, 481036337151, 1099511627775, 2199023255551, 4398046511103]
theorem glazierlaw41_ClassesTurn.tab9 : rtab .any (opsOf Try.f13 9) = glazierlaw41_ClassesTurn.T9 := by kernel_rfl
theorem glazierlaw41_ClassesTurn.bits9 : waitsOk glazierlaw41_ClassesTurn.T9.2 glazierlaw41_ClassesTurn.B9 = true := by kernel_rfl
set_option maxHeartbeats 8000000 in
set_option maxRecDepth 100000 in
theorem glazierlaw41_ClassesTurn.calls (k : Nat) (a0_0 : ByteArray) (A0_1 : Option Addr) (c0_1 : Nat) (l0_1 : List (S85)) (a1 : ByteArray) (r : Bool) (w : World) (hr0_1 : Kd.C k85 w A0_1 l0_1.length l0_1) (hc0_1 : l0_1.length ≤ c0_1) (h : glazierlaw41_ClassesTurn.f k a0_0 l0_1 a1 = some r) :
  Calls Try.prog 13 #[.agg #[.string a0_0, .slice A0_1 l0_1.length c0_1], .string a1] w fun e w' => e = .returned (.bool r) ∧ Below w.heap.size w w' := by
 have hu24 := Try.underlying24
 have HR0_1 := Aside0.mk hr0_1
 have HC0_1 := Aside0.mk hc0_1
 clear hr0_1 hc0_1
 have HB := Aside0.mk (Below.refl w.heap.size w)
 have H : ((glazierlaw41_alive.f k).bind fun t1069 => (if t1069 = true then ((mark_Of.f a1 0).bind fun bt1070 => ((classes_Turn.f k a0_0 l0_1 bt1070.1 bt1070.2).bind fun bt1075 => ((classes_Turn.f k bt1075.1 bt1075.2.1 bt1070.1 bt1070.2).bind fun bt1081 => (if bt1075.2.2 = 0 then ((classes_Add.f k a0_0 l0_1 bt1070.1 bt1070.2).bind fun bt1094 => (if bt1081.2.2 = 0 then ((classes_Has.f k bt1075.1 bt1075.2.1 a1).bind fun t1100 => ((classes_Has.f k a0_0 l0_1 a1).bind fun t1101 => (if (t1100 != t1101) = true then ((classes_Has.f k bt1081.1 bt1081.2.1 a1).bind fun t1102 => ((classes_Has.f k a0_0 l0_1 a1).bind fun t1103 => (if (t1102 == t1103) = true then ((classes_Has.f k bt1094.1 bt1094.2.1 a1).bind fun t1104 => (if t1104 = true then ((classes_Drop.f k a0_0 l0_1 a1).bind fun bt1105 => ((classes_Has.f k bt1105.1 bt1105.2 a1).bind fun t1109 => (if t1109 = true then (none) else ((classes_Words.f k bt1081.1 bt1081.2.1).bind fun t1110 => ((classes_Words.f k a0_0 l0_1).bind fun t1113 => (some ((t1110.length : Int) == (t1113.length : Int)))))))) else (none))) else (none)))) else (none)))) else (none))) else (if bt1075.2.2 = 16 then ((seek_Fields.f k bt1070.1 bt1070.2).bind fun t1087 => (if (t1087.length : Int) = 1 then ((seek_Fields.f k bt1070.1 bt1070.2).bind fun t1090 => (if 0 < (t1090.length : Int) then (some (((rd_T24 t1090 0).f0).toList != a1.toList)) else (none))) else (some true))) else (none)))))) else (none))) = some r := h
 clear h
 replace H := Option.bind_eq_some_iff.mp H
 obtain ⟨t1069, A30, H⟩ := H
 replace H : (if t1069 = true then ((mark_Of.f a1 0).bind fun bt1070 => ((classes_Turn.f k a0_0 l0_1 bt1070.1 bt1070.2).bind fun bt1075 => ((classes_Turn.f k bt1075.1 bt1075.2.1 bt1070.1 bt1070.2).bind fun bt1081 => (if bt1075.2.2 = 0 then ((classes_Add.f k a0_0 l0_1 bt1070.1 bt1070.2).bind fun bt1094 => (if bt1081.2.2 = 0 then ((classes_Has.f k bt1075.1 bt1075.2.1 a1).bind fun t1100 => ((classes_Has.f k a0_0 l0_1 a1).bind fun t1101 => (if (t1100 != t1101) = true then ((classes_Has.f k bt1081.1 bt1081.2.1 a1).bind fun t1102 => ((classes_Has.f k a0_0 l0_1 a1).bind fun t1103 => (if (t1102 == t1103) = true then ((classes_Has.f k bt1094.1 bt1094.2.1 a1).bind fun t1104 => (if t1104 = true then ((classes_Drop.f k a0_0 l0_1 a1).bind fun bt1105 => ((classes_Has.f k bt1105.1 bt1105.2 a1).bind fun t1109 => (if t1109 = true then (none) else ((classes_Words.f k bt1081.1 bt1081.2.1).bind fun t1110 => ((classes_Words.f k a0_0 l0_1).bind fun t1113 => (some ((t1110.length : Int) == (t1113.length : Int)))))))) else (none))) else (none)))) else (none)))) else (none))) else (if bt1075.2.2 = 16 then ((seek_Fields.f k bt1070.1 bt1070.2).bind fun t1087 => (if (t1087.length : Int) = 1 then ((seek_Fields.f k bt1070.1 bt1070.2).bind fun t1090 => (if 0 < (t1090.length : Int) then (some (((rd_T24 t1090 0).f0).toList != a1.toList)) else (none))) else (some true))) else (none)))))) else (none)) = some r := H
 have A3 := Aside0.mk A30
 clear A30
 by_cases c4 : t1069 = true
 ·
  subst c4
  have H1 : ((mark_Of.f a1 0).bind fun bt1070 => ((classes_Turn.f k a0_0 l0_1 bt1070.1 bt1070.2).bind fun bt1075 => ((classes_Turn.f k bt1075.1 bt1075.2.1 bt1070.1 bt1070.2).bind fun bt1081 => (if bt1075.2.2 = 0 then ((classes_Add.f k a0_0 l0_1 bt1070.1 bt1070.2).bind fun bt1094 => (if bt1081.2.2 = 0 then ((classes_Has.f k bt1075.1 bt1075.2.1 a1).bind fun t1100 => ((classes_Has.f k a0_0 l0_1 a1).bind fun t1101 => (if (t1100 != t1101) = true then ((classes_Has.f k bt1081.1 bt1081.2.1 a1).bind fun t1102 => ((classes_Has.f k a0_0 l0_1 a1).bind fun t1103 => (if (t1102 == t1103) = true then ((classes_Has.f k bt1094.1 bt1094.2.1 a1).bind fun t1104 => (if t1104 = true then ((classes_Drop.f k a0_0 l0_1 a1).bind fun bt1105 => ((classes_Has.f k bt1105.1 bt1105.2 a1).bind fun t1109 => (if t1109 = true then (none) else ((classes_Words.f k bt1081.1 bt1081.2.1).bind fun t1110 => ((classes_Words.f k a0_0 l0_1).bind fun t1113 => (some ((t1110.length : Int) == (t1113.length : Int)))))))) else (none))) else (none)))) else (none)))) else (none))) else (if bt1075.2.2 = 16 then ((seek_Fields.f k bt1070.1 bt1070.2).bind fun t1087 => (if (t1087.length : Int) = 1 then ((seek_Fields.f k bt1070.1 bt1070.2).bind fun t1090 => (if 0 < (t1090.length : Int) then (some (((rd_T24 t1090 0).f0).toList != a1.toList)) else (none))) else (some true))) else (none)))))) = some r := by rw [if_pos rfl] at H; exact H
  clear H
  have H := H1
  clear H1
  replace H := Option.bind_eq_some_iff.mp H
  obtain ⟨⟨t1070, t1071⟩, A50, H⟩ := H
  replace H : ((classes_Turn.f k a0_0 l0_1 t1070 t1071).bind fun bt1075 => ((classes_Turn.f k bt1075.1 bt1075.2.1 t1070 t1071).bind fun bt1081 => (if bt1075.2.2 = 0 then ((classes_Add.f k a0_0 l0_1 t1070 t1071).bind fun bt1094 => (if bt1081.2.2 = 0 then ((classes_Has.f k bt1075.1 bt1075.2.1 a1).bind fun t1100 => ((classes_Has.f k a0_0 l0_1 a1).bind fun t1101 => (if (t1100 != t1101) = true then ((classes_Has.f k bt1081.1 bt1081.2.1 a1).bind fun t1102 => ((classes_Has.f k a0_0 l0_1 a1).bind fun t1103 => (if (t1102 == t1103) = true then ((classes_Has.f k bt1094.1 bt1094.2.1 a1).bind fun t1104 => (if t1104 = true then ((classes_Drop.f k a0_0 l0_1 a1).bind fun bt1105 => ((classes_Has.f k bt1105.1 bt1105.2 a1).bind fun t1109 => (if t1109 = true then (none) else ((classes_Words.f k bt1081.1 bt1081.2.1).bind fun t1110 => ((classes_Words.f k a0_0 l0_1).bind fun t1113 => (some ((t1110.length : Int) == (t1113.length : Int)))))))) else (none))) else (none)))) else (none)))) else (none))) else (if bt1075.2.2 = 16 then ((seek_Fields.f k t1070 t1071).bind fun t1087 => (if (t1087.length : Int) = 1 then ((seek_Fields.f k t1070 t1071).bind fun t1090 => (if 0 < (t1090.length : Int) then (some (((rd_T24 t1090 0).f0).toList != a1.toList)) else (none))) else (some true))) else (none))))) = some r := H
  have A5 := Aside0.mk A50
  clear A50
  replace H := Option.bind_eq_some_iff.mp H
  obtain ⟨⟨t1075, t1076, t1079⟩, A60, H⟩ := H
  replace H : ((classes_Turn.f k t1075 t1076 t1070 t1071).bind fun bt1081 => (if t1079 = 0 then ((classes_Add.f k a0_0 l0_1 t1070 t1071).bind fun bt1094 => (if bt1081.2.2 = 0 then ((classes_Has.f k t1075 t1076 a1).bind fun t1100 => ((classes_Has.f k a0_0 l0_1 a1).bind fun t1101 => (if (t1100 != t1101) = true then ((classes_Has.f k bt1081.1 bt1081.2.1 a1).bind fun t1102 => ((classes_Has.f k a0_0 l0_1 a1).bind fun t1103 => (if (t1102 == t1103) = true then ((classes_Has.f k bt1094.1 bt1094.2.1 a1).bind fun t1104 => (if t1104 = true then ((classes_Drop.f k a0_0 l0_1 a1).bind fun bt1105 => ((classes_Has.f k bt1105.1 bt1105.2 a1).bind fun t1109 => (if t1109 = true then (none) else ((classes_Words.f k bt1081.1 bt1081.2.1).bind fun t1110 => ((classes_Words.f k a0_0 l0_1).bind fun t1113 => (some ((t1110.length : Int) == (t1113.length : Int)))))))) else (none))) else (none)))) else (none)))) else (none))) else (if t1079 = 16 then ((seek_Fields.f k t1070 t1071).bind fun t1087 => (if (t1087.length : Int) = 1 then ((seek_Fields.f k t1070 t1071).bind fun t1090 => (if 0 < (t1090.length : Int) then (some (((rd_T24 t1090 0).f0).toList != a1.toList)) else (none))) else (some true))) else (none)))) = some r := H
  have A6 := Aside0.mk A60
  clear A60
  replace H := Option.bind_eq_some_iff.mp H
  obtain ⟨⟨t1081, t1082, t1085⟩, A70, H⟩ := H
  replace H : (if t1079 = 0 then ((classes_Add.f k a0_0 l0_1 t1070 t1071).bind fun bt1094 => (if t1085 = 0 then ((classes_Has.f k t1075 t1076 a1).bind fun t1100 => ((classes_Has.f k a0_0 l0_1 a1).bind fun t1101 => (if (t1100 != t1101) = true then ((classes_Has.f k t1081 t1082 a1).bind fun t1102 => ((classes_Has.f k a0_0 l0_1 a1).bind fun t1103 => (if (t1102 == t1103) = true then ((classes_Has.f k bt1094.1 bt1094.2.1 a1).bind fun t1104 => (if t1104 = true then ((classes_Drop.f k a0_0 l0_1 a1).bind fun bt1105 => ((classes_Has.f k bt1105.1 bt1105.2 a1).bind fun t1109 => (if t1109 = true then (none) else ((classes_Words.f k t1081 t1082).bind fun t1110 => ((classes_Words.f k a0_0 l0_1).bind fun t1113 => (some ((t1110.length : Int) == (t1113.length : Int)))))))) else (none))) else (none)))) else (none)))) else (none))) else (if t1079 = 16 then ((seek_Fields.f k t1070 t1071).bind fun t1087 => (if (t1087.length : Int) = 1 then ((seek_Fields.f k t1070 t1071).bind fun t1090 => (if 0 < (t1090.length : Int) then (some (((rd_T24 t1090 0).f0).toList != a1.toList)) else (none))) else (some true))) else (none))) = some r := H
  have A7 := Aside0.mk A70
  clear A70
  by_cases c8 : t1079 = 0
  ·
   rw [if_pos c8] at H
   have c8b0 : (t1079 == 0) = true := beq_iff_eq.mpr c8
   have c8b1 : (t1079 != 0) = false := bne_eq_false_iff_eq.mpr c8
   clear c8
   replace H := Option.bind_eq_some_iff.mp H
   obtain ⟨⟨t1094, t1095, t1098⟩, A90, H⟩ := H
   replace H : (if t1085 = 0 then ((classes_Has.f k t1075 t1076 a1).bind fun t1100 => ((classes_Has.f k a0_0 l0_1 a1).bind fun t1101 => (if (t1100 != t1101) = true then ((classes_Has.f k t1081 t1082 a1).bind fun t1102 => ((classes_Has.f k a0_0 l0_1 a1).bind fun t1103 => (if (t1102 == t1103) = true then ((classes_Has.f k t1094 t1095 a1).bind fun t1104 => (if t1104 = true then ((classes_Drop.f k a0_0 l0_1 a1).bind fun bt1105 => ((classes_Has.f k bt1105.1 bt1105.2 a1).bind fun t1109 => (if t1109 = true then (none) else ((classes_Words.f k t1081 t1082).bind fun t1110 => ((classes_Words.f k a0_0 l0_1).bind fun t1113 => (some ((t1110.length : Int) == (t1113.length : Int)))))))) else (none))) else (none)))) else (none)))) else (none)) = some r := H
   have A9 := Aside0.mk A90
   clear A90
   by_cases c10 : t1085 = 0
   ·
    rw [if_pos c10] at H
    have c10b0 : (t1085 == 0) = true := beq_iff_eq.mpr c10
    have c10b1 : (t1085 != 0) = false := bne_eq_false_iff_eq.mpr c10
    clear c10
    replace H := Option.bind_eq_some_iff.mp H
    obtain ⟨t1100, A110, H⟩ := H
    replace H : ((classes_Has.f k a0_0 l0_1 a1).bind fun t1101 => (if (t1100 != t1101) = true then ((classes_Has.f k t1081 t1082 a1).bind fun t1102 => ((classes_Has.f k a0_0 l0_1 a1).bind fun t1103 => (if (t1102 == t1103) = true then ((classes_Has.f k t1094 t1095 a1).bind fun t1104 => (if t1104 = true then ((classes_Drop.f k a0_0 l0_1 a1).bind fun bt1105 => ((classes_Has.f k bt1105.1 bt1105.2 a1).bind fun t1109 => (if t1109 = true then (none) else ((classes_Words.f k t1081 t1082).bind fun t1110 => ((classes_Words.f k a0_0 l0_1).bind fun t1113 => (some ((t1110.length : Int) == (t1113.length : Int)))))))) else (none))) else (none)))) else (none))) = some r := H
    have A11 := Aside0.mk A110
    clear A110
    replace H := Option.bind_eq_some_iff.mp H
    obtain ⟨t1101, A120, H⟩ := H
    replace H : (if (t1100 != t1101) = true then ((classes_Has.f k t1081 t1082 a1).bind fun t1102 => ((classes_Has.f k a0_0 l0_1 a1).bind fun t1103 => (if (t1102 == t1103) = true then ((classes_Has.f k t1094 t1095 a1).bind fun t1104 => (if t1104 = true then ((classes_Drop.f k a0_0 l0_1 a1).bind fun bt1105 => ((classes_Has.f k bt1105.1 bt1105.2 a1).bind fun t1109 => (if t1109 = true then (none) else ((classes_Words.f k t1081 t1082).bind fun t1110 => ((classes_Words.f k a0_0 l0_1).bind fun t1113 => (some ((t1110.length : Int) == (t1113.length : Int)))))))) else (none))) else (none)))) else (none)) = some r := H
    have A12 := Aside0.mk A120
    clear A120
    by_cases c13 : (t1100 != t1101) = true
    ·
     rw [if_pos c13] at H
     have c13b0 : (t1100 != t1101) = true := c13
     (try (have c13b1 : decide (t1100 = t1101) = false := by simpa using c13))
     (try (have c13b2 : (t1100 == t1101) = false := by simpa using c13))
     (try (have c13b3 : ¬ (t1100 = t1101) := by simpa using c13))
     clear c13
     replace H := Option.bind_eq_some_iff.mp H
     obtain ⟨t1102, A140, H⟩ := H
     replace H : ((classes_Has.f k a0_0 l0_1 a1).bind fun t1103 => (if (t1102 == t1103) = true then ((classes_Has.f k t1094 t1095 a1).bind fun t1104 => (if t1104 = true then ((classes_Drop.f k a0_0 l0_1 a1).bind fun bt1105 => ((classes_Has.f k bt1105.1 bt1105.2 a1).bind fun t1109 => (if t1109 = true then (none) else ((classes_Words.f k t1081 t1082).bind fun t1110 => ((classes_Words.f k a0_0 l0_1).bind fun t1113 => (some ((t1110.length : Int) == (t1113.length : Int)))))))) else (none))) else (none))) = some r := H
     have A14 := Aside0.mk A140
     clear A140
     replace H := Option.bind_eq_some_iff.mp H
     obtain ⟨t1103, A150, H⟩ := H
     replace H : (if (t1102 == t1103) = true then ((classes_Has.f k t1094 t1095 a1).bind fun t1104 => (if t1104 = true then ((classes_Drop.f k a0_0 l0_1 a1).bind fun bt1105 => ((classes_Has.f k bt1105.1 bt1105.2 a1).bind fun t1109 => (if t1109 = true then (none) else ((classes_Words.f k t1081 t1082).bind fun t1110 => ((classes_Words.f k a0_0 l0_1).bind fun t1113 => (some ((t1110.length : Int) == (t1113.length : Int)))))))) else (none))) else (none)) = some r := H
     have A15 := Aside0.mk A150
     clear A150
     by_cases c16 : (t1102 == t1103) = true
     ·
      rw [if_pos c16] at H
      have c16b0 : (t1102 == t1103) = true := c16
      (try (have c16b1 : decide (t1102 = t1103) = true := by simpa using c16))
      (try (have c16b2 : (t1102 == t1103) = true := by simpa using c16))
      clear c16
      replace H := Option.bind_eq_some_iff.mp H
      obtain ⟨t1104, A170, H⟩ := H
      replace H : (if t1104 = true then ((classes_Drop.f k a0_0 l0_1 a1).bind fun bt1105 => ((classes_Has.f k bt1105.1 bt1105.2 a1).bind fun t1109 => (if t1109 = true then (none) else ((classes_Words.f k t1081 t1082).bind fun t1110 => ((classes_Words.f k a0_0 l0_1).bind fun t1113 => (some ((t1110.length : Int) == (t1113.length : Int)))))))) else (none)) = some r := H
      have A17 := Aside0.mk A170
      clear A170
      by_cases c18 : t1104 = true
      ·
       subst c18
       have H1 : ((classes_Drop.f k a0_0 l0_1 a1).bind fun bt1105 => ((classes_Has.f k bt1105.1 bt1105.2 a1).bind fun t1109 => (if t1109 = true then (none) else ((classes_Words.f k t1081 t1082).bind fun t1110 => ((classes_Words.f k a0_0 l0_1).bind fun t1113 => (some ((t1110.length : Int) == (t1113.length : Int)))))))) = some r := by rw [if_pos rfl] at H; exact H
       clear H
       have H := H1
       clear H1
       replace H := Option.bind_eq_some_iff.mp H
       obtain ⟨⟨t1105, t1106⟩, A190, H⟩ := H
       replace H : ((classes_Has.f k t1105 t1106 a1).bind fun t1109 => (if t1109 = true then (none) else ((classes_Words.f k t1081 t1082).bind fun t1110 => ((classes_Words.f k a0_0 l0_1).bind fun t1113 => (some ((t1110.length : Int) == (t1113.length : Int))))))) = some r := H
       have A19 := Aside0.mk A190
       clear A190
       replace H := Option.bind_eq_some_iff.mp H
       obtain ⟨t1109, A200, H⟩ := H
       replace H : (if t1109 = true then (none) else ((classes_Words.f k t1081 t1082).bind fun t1110 => ((classes_Words.f k a0_0 l0_1).bind fun t1113 => (some ((t1110.length : Int) == (t1113.length : Int)))))) = some r := H
       have A20 := Aside0.mk A200
       clear A200
       by_cases c21 : t1109 = true
       ·
        subst c21
        have H1 : (none) = some r := by rw [if_pos rfl] at H; exact H
        clear H
        have H := H1
        clear H1
        exact absurd H (by simp)
       ·
        replace c21 := Bool.eq_false_iff.mpr c21
        subst c21
        have H1 : ((classes_Words.f k t1081 t1082).bind fun t1110 => ((classes_Words.f k a0_0 l0_1).bind fun t1113 => (some ((t1110.length : Int) == (t1113.length : Int))))) = some r := by rw [if_neg (show ¬ (false = true) by decide)] at H; exact H
        clear H
        have H := H1
        clear H1
        replace H := Option.bind_eq_some_iff.mp H
        obtain ⟨t1110, A220, H⟩ := H
        replace H : ((classes_Words.f k a0_0 l0_1).bind fun t1113 => (some ((t1110.length : Int) == (t1113.length : Int)))) = some r := H
        have A22 := Aside0.mk A220
        clear A220
        replace H := Option.bind_eq_some_iff.mp H
        obtain ⟨t1113, A230, H⟩ := H
        replace H : (some ((t1110.length : Int) == (t1113.length : Int))) = some r := H
        have A23 := Aside0.mk A230
        clear A230
        obtain rfl := Option.some.inj H
        go_enter Try.func13, Try.ntmps13
        try go_wp2_with (first | ((with_reducible refine gate_dst (N := 2) rfl ?_); refine box_event ?hg (N := 2) ?hd (cs := #[.string a0_0, .slice A0_1 l0_1.length c0_1]) (t := 24) ?hr ?_; (case hd => rfl); (case hg => rfl); (case hr => first | (go_simp; done) | (go_simp; rfl)); intro gb1068 hg w24 hbox hb; have n0_ := Aside0.mk (below_step (by repeat (first | (with_reducible first | exact HB.out | apply below_alloc | apply pw_below_drewN | apply below_drew1) | exact HB.out)) hb); have n1_ := Aside0.mk (hbox); have n2_ := Aside0.mk ((by rw [hg]; exact (below_size (by repeat (first | (with_reducible first | exact HB.out | apply below_alloc | apply pw_below_drewN | apply below_drew1) | exact HB.out))) : w.heap.size ≤ gb1068)); have n3_ := Aside0.mk ((by rw [hg]; exact (below_size (by repeat (first | (with_reducible first | exact HB.out | apply below_alloc | apply pw_below_drewN | apply below_drew1) | exact HB.out))) : w.heap.size ≤ gb1068)); clear HB; have HB := n0_; have BK1068 := n1_; have GW1068 := n2_; have GE1068 := n3_; clear n0_ n1_ n2_ n3_; clear hb hbox hg) | ((with_reducible refine gate_callee (f := 62) rfl ?_); refine goesL_ (some 12) rfl rfl Try.func62 (by kernel_rfl) rfl #[] rfl (by (try simp only [List.map_toArray, List.map_cons, List.map_nil]); first | done | rfl | (simp only [List.length_drop, List.length_take]; rfl)) ?_; (with_reducible refine (glazierlaw41_alive.calls k  true _ A3.out).mono ?_); rintro e w25 ⟨rfl, hb⟩; refine ⟨_, rfl, ?_⟩; have n0_ := Aside0.mk (blk_below (g := gb1068) (o := .cells #[.string a0_0, .slice A0_1 l0_1.length c0_1] 24 (0, 0)) (by (with_reducible repeat (first | refine blk_drewN ?_ _ | refine blk_drew ?_ | refine blk_alloc ?_ _)); exact BK1068.out) hb); have n1_ := Aside0.mk (below_step (by repeat (first | (with_reducible first | exact HB.out | apply below_alloc | apply pw_below_drewN | apply below_drew1 | refine below_set ?_ GE1068.out) | exact HB.out)) hb); clear BK1068; clear HB; have BK1068 := n0_; have HB := n1_; clear n0_ n1_; (try clear hb); (try clear hb2); (try clear hk); (try clear hi)) | ((with_reducible refine gate_callee (f := 63) rfl ?_); refine goesL_ (some 15) rfl rfl Try.func63 (by kernel_rfl) rfl #[.string a1, .int .i64 0] rfl (by (try simp only [List.map_toArray, List.map_cons, List.map_nil]); first | done | rfl | (simp only [List.length_drop, List.length_take]; rfl)) ?_; (with_reducible refine (mark_Of.calls a1 0 t1070 t1071 _ A5.out).mono ?_); rintro e w26 ⟨v1072, rfl, ho0, hb⟩; refine ⟨_, rfl, ?_⟩; have n0_ := Aside0.mk (Kd.R_lower ho0 (below_size (by repeat (first | (with_reducible first | exact HB.out | apply below_alloc | apply pw_below_drewN | apply below_drew1 | refine below_set ?_ GE1068.out) | exact HB.out)))); have n1_ := Aside0.mk (blk_below (g := gb1068) (o := .cells #[.string a0_0, .slice A0_1 l0_1.length c0_1] 24 (0, 0)) (by (with_reducible repeat (first | refine blk_drewN ?_ _ | refine blk_drew ?_ | refine blk_alloc ?_ _)); exact BK1068.out) hb); have n2_ := Aside0.mk (below_step (by repeat (first | (with_reducible first | exact HB.out | apply below_alloc | apply pw_below_drewN | apply below_drew1 | refine below_set ?_ GE1068.out) | exact HB.out)) hb); clear BK1068; clear HB; have HO1073 := n0_; have BK1068 := n1_; have HB := n2_; clear n0_ n1_ n2_; (try clear hb); (try clear hb2); (try clear hk); (try clear hi); (try clear ho0)) | ((with_reducible refine gate_dst (N := 5) rfl ?_); refine box_event ?hg (N := 5) ?hd (cs := #[.string (⟨#[]⟩ : ByteArray), .slice none 0 0]) (t := 24) ?hr ?_; (case hd => rfl); (case hg => rfl); (case hr => first | (go_simp; done) | (go_simp; rfl)); intro gb1074 hg w27 hbox hb; have n0_ := Aside0.mk (Kd.R_below (by (with_reducible repeat (first | apply Kd.R_alloc | apply Kd.R_drewN | apply Kd.R_drew)); exact HO1073.out) hb); have n1_ := Aside0.mk (blk_below (g := gb1068) (o := .cells #[.string a0_0, .slice A0_1 l0_1.length c0_1] 24 (0, 0)) (by (with_reducible repeat (first | refine blk_drewN ?_ _ | refine blk_drew ?_ | refine blk_alloc ?_ _)); exact BK1068.out) hb); have n2_ := Aside0.mk (below_step (by repeat (first | (with_reducible first | exact HB.out | apply below_alloc | apply pw_below_drewN | apply below_drew1 | refine below_set ?_ GE1068.out) | exact HB.out)) hb); have n3_ := Aside0.mk (hbox); have n4_ := Aside0.mk ((by rw [hg]; exact (below_size (by repeat (first | (with_reducible first | exact HB.out | apply below_alloc | apply pw_below_drewN | apply below_drew1 | refine below_set ?_ GE1068.out) | exact HB.out))) : w.heap.size ≤ gb1074)); have n5_ := Aside0.mk ((by rw [hg]; exact (below_size (by repeat (first | (with_reducible first | exact HB.out | apply below_alloc | apply pw_below_drewN | apply below_drew1 | refine below_set ?_ GE1068.out) | exact HB.out))) : w.heap.size ≤ gb1074)); have n6_ := Aside0.mk ((by rw [hg]; exact Nat.ne_of_lt (blk_lt (g := gb1068) (o := .cells #[.string a0_0, .slice A0_1 l0_1.length c0_1] 24 (0, 0)) (by (with_reducible repeat (first | refine blk_drewN ?_ _ | refine blk_drew ?_ | refine blk_alloc ?_ _)); exact BK1068.out)) : gb1068 ≠ gb1074)); have n7_ := Aside0.mk ((by rw [hg]; exact Nat.ne_of_gt (blk_lt (g := gb1068) (o := .cells #[.string a0_0, .slice A0_1 l0_1.length c0_1] 24 (0, 0)) (by (with_reducible repeat (first | refine blk_drewN ?_ _ | refine blk_drew ?_ | refine blk_alloc ?_ _)); exact BK1068.out)) : gb1074 ≠ gb1068)); clear HO1073; clear BK1068; clear HB; have HO1073 := n0_; have BK1068 := n1_; have HB := n2_; have BK1074 := n3_; have GW1074 := n4_; have GE1074 := n5_; have NB1068_1074 := n6_; have NB1074_1068 := n7_; clear n0_ n1_ n2_ n3_ n4_ n5_ n6_ n7_; clear hb hbox hg; have hnb28 := NB1074_1068.out; have hnc28 := NB1068_1074.out; have hcz29_0 : w27.cell? ⟨gb1074, 0, none⟩ = some (.string (⟨#[]⟩ : ByteArray)) := (blk_cell BK1074.out 0).trans rfl; have hcz29_1 : w27.cell? ⟨gb1074, 1, none⟩ = some (.slice none 0 0) := (blk_cell BK1074.out 1).trans rfl; have hfz29_0 := blk_frozen BK1074.out 0; have hfz29_1 := blk_frozen BK1074.out 1; obtain ⟨Ao30, co30, eo30⟩ := Kd.R_slice HO1073.out; subst eo30; have hcz31_0 : w27.cell? ⟨gb1068, 0, none⟩ = some (.string a0_0) := (blk_cell BK1068.out 0).trans rfl; have hcz31_1 : w27.cell? ⟨gb1068, 1, none⟩ = some (.slice A0_1 l0_1.length c0_1) := (blk_cell BK1068.out 1).trans rfl; have hfz31_0 := blk_frozen BK1068.out 0; have hfz31_1 := blk_frozen BK1068.out 1) | ((with_reducible refine gate_callee (f := 64) rfl ?_); refine goesL_ (some 19) rfl rfl Try.func64 (by kernel_rfl) rfl #[.agg #[.string a0_0, .slice A0_1 l0_1.length c0_1], .agg #[.string t1070, .slice Ao30 t1071.length co30]] rfl (by (try simp only [List.map_toArray, List.map_cons, List.map_nil]); first | done | rfl | (simp only [List.length_drop, List.length_take]; rfl)) ?_; (with_reducible refine (classes_Turn.calls k a0_0 _ _ l0_1 t1070 _ _ t1071 t1075 t1076 t1079 _ ?side1 ?side2 ?side3 ?side4 A6.out).mono ?_); (case side1 => exact Kd.C_below HR0_1.out (by repeat (first | (with_reducible first | exact HB.out | apply below_alloc | apply pw_below_drewN | apply below_drew1 | refine below_set ?_ GE1068.out | refine below_set ?_ GE1074.out) | exact HB.out))); (case side2 => exact HC0_1.out); (case side3 => refine (Kd.R_reads' (e := 85) (base := w.heap.size) (ok := fun k_ => True) (n := t1071.length) (c := co30) ?_).2.2; exact (by (with_reducible repeat (first | apply Kd.R_alloc | apply Kd.R_drewN | apply Kd.R_drew)); exact (Kd.R_mono (Kd.R_far (p := ⟨gb1074, 1, none⟩) (Kd.R_far (p := ⟨gb1074, 0, none⟩) (Kd.R_types HO1073.out BK1074.out (by decide)) (fun _ hk => hk.2) (.string t1070)) (fun _ hk => hk.2) (.slice Ao30 t1071.length co30)) (fun _ h_ => h_.1)))); (case side4 => exact (Kd.R_reads' HO1073.out).2.1); rintro e w32 ⟨v1077, rfl, ho0, hb⟩; refine ⟨_, rfl, ?_⟩; have n0_ := Aside0.mk (Kd.R_elder' (by (with_reducible repeat (first | apply Kd.R_alloc | apply Kd.R_drewN | apply Kd.R_drew)); exact (Kd.R_mono (Kd.R_far (p := ⟨gb1074, 1, none⟩) (Kd.R_far (p := ⟨gb1074, 0, none⟩) (Kd.R_types HO1073.out BK1074.out (by decide)) (fun _ hk => hk.2) (.string t1070)) (fun _ hk => hk.2) (.slice Ao30 t1071.length co30)) (fun _ h_ => h_.1))) (Kd.R_base ho0) hb); have n1_ := Aside0.mk (Kd.R_lower (Kd.R_new' ho0 (Kd.R_lt (by (with_reducible repeat (first | apply Kd.R_alloc | apply Kd.R_drewN | apply Kd.R_drew)); exact (Kd.R_mono (Kd.R_far (p := ⟨gb1074, 1, none⟩) (Kd.R_far (p := ⟨gb1074, 0, none⟩) (Kd.R_types HO1073.out BK1074.out (by decide)) (fun _ hk => hk.2) (.string t1070)) (fun _ hk => hk.2) (.slice Ao30 t1071.length co30)) (fun _ h_ => h_.1))))) (below_size (by repeat (first | (with_reducible first | exact HB.out | apply below_alloc | apply pw_below_drewN | apply below_drew1 | refine below_set ?_ GE1068.out | refine below_set ?_ GE1074.out) | exact HB.out)))); have n2_ := Aside0.mk (blk_below (g := gb1068) (o := .cells #[.string a0_0, .slice A0_1 l0_1.length c0_1] 24 (0, 0)) (by (with_reducible repeat (first | refine blk_drewN ?_ _ | refine blk_drew ?_ | refine blk_alloc ?_ _)); refine blk_far ?_ NB1068_1074.out _; (with_reducible repeat (first | refine blk_drewN ?_ _ | refine blk_drew ?_ | refine blk_alloc ?_ _)); refine blk_far ?_ NB1068_1074.out _; (with_reducible repeat (first | refine blk_drewN ?_ _ | refine blk_drew ?_ | refine blk_alloc ?_ _)); exact BK1068.out) hb); have n3_ := Aside0.mk (blk_below (g := gb1074) (o := .cells #[.string t1070, .slice Ao30 t1071.length co30] 24 (0, 0)) (by (with_reducible repeat (first | refine blk_drewN ?_ _ | refine blk_drew ?_ | refine blk_alloc ?_ _)); refine blk_put (cs := #[.string t1070, .slice none 0 0]) ?_ 1 _ rfl; (with_reducible repeat (first | refine blk_drewN ?_ _ | refine blk_drew ?_ | refine blk_alloc ?_ _)); refine blk_put (cs := #[.string (⟨#[]⟩ : ByteArray), .slice none 0 0]) ?_ 0 _ rfl; (with_reducible repeat (first | refine blk_drewN ?_ _ | refine blk_drew ?_ | refine blk_alloc ?_ _)); exact BK1074.out) hb); have n4_ := Aside0.mk (below_step (by repeat (first | (with_reducible first | exact HB.out | apply below_alloc | apply pw_below_drewN | apply below_drew1 | refine below_set ?_ GE1068.out | refine below_set ?_ GE1074.out) | exact HB.out)) hb); clear HO1073; clear BK1068; clear BK1074; clear HB; have HO1073 := n0_; have HO1078 := n1_; have BK1068 := n2_; have BK1074 := n3_; have HB := n4_; clear n0_ n1_ n2_ n3_ n4_; (try clear hb); (try clear hb2); (try clear hk); (try clear hi); (try clear ho0)) | ((with_reducible refine gate_dst (N := 6) rfl ?_); refine box_event ?hg (N := 6) ?hd (cs := #[.string (⟨#[]⟩ : ByteArray), .slice none 0 0]) (t := 24) ?hr ?_; (case hd => rfl); (case hg => rfl); (case hr => first | (go_simp; done) | (go_simp; rfl)); intro gb1080 hg w33 hbox hb; have n0_ := Aside0.mk (Kd.R_below (by (with_reducible repeat (first | apply Kd.R_alloc | apply Kd.R_drewN | apply Kd.R_drew)); exact HO1073.out) hb); have n1_ := Aside0.mk (Kd.R_below (by (with_reducible repeat (first | apply Kd.R_alloc | apply Kd.R_drewN | apply Kd.R_drew)); exact HO1078.out) hb); have n2_ := Aside0.mk (blk_below (g := gb1068) (o := .cells #[.string a0_0, .slice A0_1 l0_1.length c0_1] 24 (0, 0)) (by (with_reducible repeat (first | refine blk_drewN ?_ _ | refine blk_drew ?_ | refine blk_alloc ?_ _)); exact BK1068.out) hb); have n3_ := Aside0.mk (blk_below (g := gb1074) (o := .cells #[.string t1070, .slice Ao30 t1071.length co30] 24 (0, 0)) (by (with_reducible repeat (first | refine blk_drewN ?_ _ | refine blk_drew ?_ | refine blk_alloc ?_ _)); exact BK1074.out) hb); have n4_ := Aside0.mk (below_step (by repeat (first | (with_reducible first | exact HB.out | apply below_alloc | apply pw_below_drewN | apply below_drew1 | refine below_set ?_ GE1068.out | refine below_set ?_ GE1074.out) | exact HB.out)) hb); have n5_ := Aside0.mk (hbox); have n6_ := Aside0.mk ((by rw [hg]; exact (below_size (by repeat (first | (with_reducible first | exact HB.out | apply below_alloc | apply pw_below_drewN | apply below_drew1 | refine below_set ?_ GE1068.out | refine below_set ?_ GE1074.out) | exact HB.out))) : w.heap.size ≤ gb1080)); have n7_ := Aside0.mk ((by rw [hg]; exact (below_size (by repeat (first | (with_reducible first | exact HB.out | apply below_alloc | apply pw_below_drewN | apply below_drew1 | refine below_set ?_ GE1068.out | refine below_set ?_ GE1074.out) | exact HB.out))) : w.heap.size ≤ gb1080)); have n8_ := Aside0.mk ((by rw [hg]; exact Nat.ne_of_lt (blk_lt (g := gb1068) (o := .cells #[.string a0_0, .slice A0_1 l0_1.length c0_1] 24 (0, 0)) (by (with_reducible repeat (first | refine blk_drewN ?_ _ | refine blk_drew ?_ | refine blk_alloc ?_ _)); exact BK1068.out)) : gb1068 ≠ gb1080)); have n9_ := Aside0.mk ((by rw [hg]; exact Nat.ne_of_gt (blk_lt (g := gb1068) (o := .cells #[.string a0_0, .slice A0_1 l0_1.length c0_1] 24 (0, 0)) (by (with_reducible repeat (first | refine blk_drewN ?_ _ | refine blk_drew ?_ | refine blk_alloc ?_ _)); exact BK1068.out)) : gb1080 ≠ gb1068)); have n10_ := Aside0.mk ((by rw [hg]; exact Nat.ne_of_lt (blk_lt (g := gb1074) (o := .cells #[.string t1070, .slice Ao30 t1071.length co30] 24 (0, 0)) (by (with_reducible repeat (first | refine blk_drewN ?_ _ | refine blk_drew ?_ | refine blk_alloc ?_ _)); exact BK1074.out)) : gb1074 ≠ gb1080)); have n11_ := Aside0.mk ((by rw [hg]; exact Nat.ne_of_gt (blk_lt (g := gb1074) (o := .cells #[.string t1070, .slice Ao30 t1071.length co30] 24 (0, 0)) (by (with_reducible repeat (first | refine blk_drewN ?_ _ | refine blk_drew ?_ | refine blk_alloc ?_ _)); exact BK1074.out)) : gb1080 ≠ gb1074)); clear HO1073; clear HO1078; clear BK1068; clear BK1074; clear HB; have HO1073 := n0_; have HO1078 := n1_; have BK1068 := n2_; have BK1074 := n3_; have HB := n4_; have BK1080 := n5_; have GW1080 := n6_; have GE1080 := n7_; have NB1068_1080 := n8_; have NB1080_1068 := n9_; have NB1074_1080 := n10_; have NB1080_1074 := n11_; clear n0_ n1_ n2_ n3_ n4_ n5_ n6_ n7_ n8_ n9_ n10_ n11_; clear hb hbox hg; have hnb34 := NB1080_1068.out; have hnc34 := NB1068_1080.out; have hnb35 := NB1080_1074.out; have hnc35 := NB1074_1080.out; have hcz36_0 : w33.cell? ⟨gb1080, 0, none⟩ = some (.string (⟨#[]⟩ : ByteArray)) := (blk_cell BK1080.out 0).trans rfl; have hcz36_1 : w33.cell? ⟨gb1080, 1, none⟩ = some (.slice none 0 0) := (blk_cell BK1080.out 1).trans rfl; have hfz36_0 := blk_frozen BK1080.out 0; have hfz36_1 := blk_frozen BK1080.out 1; obtain ⟨Ao37, co37, eo37⟩ := Kd.R_slice HO1078.out; subst eo37; have hcz38_0 : w33.cell? ⟨gb1074, 0, none⟩ = some (.string t1070) := (blk_cell BK1074.out 0).trans rfl; have hcz38_1 : w33.cell? ⟨gb1074, 1, none⟩ = some (.slice Ao30 t1071.length co30) := (blk_cell BK1074.out 1).trans rfl; have hfz38_0 := blk_frozen BK1074.out 0; have hfz38_1 := blk_frozen BK1074.out 1) | ((with_reducible refine gate_callee (f := 64) rfl ?_); refine goesL_ (some 25) rfl rfl Try.func64 (by kernel_rfl) rfl #[.agg #[.string t1075, .slice Ao37 t1076.length co37], .agg #[.string t1070, .slice Ao30 t1071.length co30]] rfl (by (try simp only [List.map_toArray, List.map_cons, List.map_nil]); first | done | rfl | (simp only [List.length_drop, List.length_take]; rfl)) ?_; (with_reducible refine (classes_Turn.calls k t1075 _ _ t1076 t1070 _ _ t1071 t1081 t1082 t1085 _ ?side1 ?side2 ?side3 ?side4 A7.out).mono ?_); (case side1 => refine (Kd.R_reads' (e := 85) (base := w.heap.size) (ok := fun k_ => (True ∧ some k_ ≠ (.slice Ao30 t1071.length co30 : Value).ownBlock)) (n := t1076.length) (c := co37) ?_).2.2; exact (by (with_reducible repeat (first | apply Kd.R_alloc | apply Kd.R_drewN | apply Kd.R_drew)); exact (Kd.R_mono (Kd.R_far (p := ⟨gb1080, 1, none⟩) (Kd.R_far (p := ⟨gb1080, 0, none⟩) (Kd.R_types HO1078.out BK1080.out (by decide)) (fun _ hk => hk.2) (.string t1075)) (fun _ hk => hk.2) (.slice Ao37 t1076.length co37)) (fun _ h_ => h_.1)))); (case side2 => exact (Kd.R_reads' HO1078.out).2.1); (case side3 => refine (Kd.R_reads' (e := 85) (base := w.heap.size) (ok := fun k_ => (True ∧ some k_ ≠ (.slice Ao37 t1076.length co37 : Value).ownBlock)) (n := t1071.length) (c := co30) ?_).2.2; exact (by (with_reducible repeat (first | apply Kd.R_alloc | apply Kd.R_drewN | apply Kd.R_drew)); exact (Kd.R_mono (Kd.R_far (p := ⟨gb1080, 1, none⟩) (Kd.R_far (p := ⟨gb1080, 0, none⟩) (Kd.R_types HO1073.out BK1080.out (by decide)) (fun _ hk => hk.2) (.string t1075)) (fun _ hk => hk.2) (.slice Ao37 t1076.length co37)) (fun _ h_ => h_.1)))); (case side4 => exact (Kd.R_reads' HO1073.out).2.1); rintro e w39 ⟨v1083, rfl, ho0, hb⟩; refine ⟨_, rfl, ?_⟩; have n0_ := Aside0.mk (Kd.R_elder' (by (with_reducible repeat (first | apply Kd.R_alloc | apply Kd.R_drewN | apply Kd.R_drew)); exact (Kd.R_mono (Kd.R_far (p := ⟨gb1080, 1, none⟩) (Kd.R_far (p := ⟨gb1080, 0, none⟩) (Kd.R_types HO1073.out BK1080.out (by decide)) (fun _ hk => hk.2) (.string t1075)) (fun _ hk => hk.2) (.slice Ao37 t1076.length co37)) (fun _ h_ => h_.1))) (Kd.R_base ho0) hb); have n1_ := Aside0.mk (Kd.R_elder' (by (with_reducible repeat (first | apply Kd.R_alloc | apply Kd.R_drewN | apply Kd.R_drew)); exact (Kd.R_mono (Kd.R_far (p := ⟨gb1080, 1, none⟩) (Kd.R_far (p := ⟨gb1080, 0, none⟩) (Kd.R_types HO1078.out BK1080.out (by decide)) (fun _ hk => hk.2) (.string t1075)) (fun _ hk => hk.2) (.slice Ao37 t1076.length co37)) (fun _ h_ => h_.1))) (Kd.R_base ho0) hb); have n2_ := Aside0.mk (Kd.R_lower (Kd.R_new' (Kd.R_new' ho0 (Kd.R_lt (by (with_reducible repeat (first | apply Kd.R_alloc | apply Kd.R_drewN | apply Kd.R_drew)); exact (Kd.R_mono (Kd.R_far (p := ⟨gb1080, 1, none⟩) (Kd.R_far (p := ⟨gb1080, 0, none⟩) (Kd.R_types HO1073.out BK1080.out (by decide)) (fun _ hk => hk.2) (.string t1075)) (fun _ hk => hk.2) (.slice Ao37 t1076.length co37)) (fun _ h_ => h_.1))))) (Kd.R_lt (by (with_reducible repeat (first | apply Kd.R_alloc | apply Kd.R_drewN | apply Kd.R_drew)); exact (Kd.R_mono (Kd.R_far (p := ⟨gb1080, 1, none⟩) (Kd.R_far (p := ⟨gb1080, 0, none⟩) (Kd.R_types HO1078.out BK1080.out (by decide)) (fun _ hk => hk.2) (.string t1075)) (fun _ hk => hk.2) (.slice Ao37 t1076.length co37)) (fun _ h_ => h_.1))))) (below_size (by repeat (first | (with_reducible first | exact HB.out | apply below_alloc | apply pw_below_drewN | apply below_drew1 | refine below_set ?_ GE1068.out | refine below_set ?_ GE1074.out | refine below_set ?_ GE1080.out) | exact HB.out)))); have n3_ := Aside0.mk (blk_below (g := gb1068) (o := .cells #[.string a0_0, .slice A0_1 l0_1.length c0_1] 24 (0, 0)) (by (with_reducible repeat (first | refine blk_drewN ?_ _ | refine blk_drew ?_ | refine blk_alloc ?_ _)); refine blk_far ?_ NB1068_1080.out _; (with_reducible repeat (first | refine blk_drewN ?_ _ | refine blk_drew ?_ | refine blk_alloc ?_ _)); refine blk_far ?_ NB1068_1080.out _; (with_reducible repeat (first | refine blk_drewN ?_ _ | refine blk_drew ?_ | refine blk_alloc ?_ _)); exact BK1068.out) hb); have n4_ := Aside0.mk (blk_below (g := gb1074) (o := .cells #[.string t1070, .slice Ao30 t1071.length co30] 24 (0, 0)) (by (with_reducible repeat (first | refine blk_drewN ?_ _ | refine blk_drew ?_ | refine blk_alloc ?_ _)); refine blk_far ?_ NB1074_1080.out _; (with_reducible repeat (first | refine blk_drewN ?_ _ | refine blk_drew ?_ | refine blk_alloc ?_ _)); refine blk_far ?_ NB1074_1080.out _; (with_reducible repeat (first | refine blk_drewN ?_ _ | refine blk_drew ?_ | refine blk_alloc ?_ _)); exact BK1074.out) hb); have n5_ := Aside0.mk (blk_below (g := gb1080) (o := .cells #[.string t1075, .slice Ao37 t1076.length co37] 24 (0, 0)) (by (with_reducible repeat (first | refine blk_drewN ?_ _ | refine blk_drew ?_ | refine blk_alloc ?_ _)); refine blk_put (cs := #[.string t1075, .slice none 0 0]) ?_ 1 _ rfl; (with_reducible repeat (first | refine blk_drewN ?_ _ | refine blk_drew ?_ | refine blk_alloc ?_ _)); refine blk_put (cs := #[.string (⟨#[]⟩ : ByteArray), .slice none 0 0]) ?_ 0 _ rfl; (with_reducible repeat (first | refine blk_drewN ?_ _ | refine blk_drew ?_ | refine blk_alloc ?_ _)); exact BK1080.out) hb); have n6_ := Aside0.mk (below_step (by repeat (first | (with_reducible first | exact HB.out | apply below_alloc | apply pw_below_drewN | apply below_drew1 | refine below_set ?_ GE1068.out | refine below_set ?_ GE1074.out | refine below_set ?_ GE1080.out) | exact HB.out)) hb); clear HO1073; clear HO1078; clear BK1068; clear BK1074; clear BK1080; clear HB; have HO1073 := n0_; have HO1078 := n1_; have HO1084 := n2_; have BK1068 := n3_; have BK1074 := n4_; have BK1080 := n5_; have HB := n6_; clear n0_ n1_ n2_ n3_ n4_ n5_ n6_; (try clear hb); (try clear hb2); (try clear hk); (try clear hi); (try clear ho0)) | ((with_reducible refine gate_dst (N := 8) rfl ?_); refine box_event ?hg (N := 8) ?hd (cs := #[.string (⟨#[]⟩ : ByteArray), .slice none 0 0]) (t := 24) ?hr ?_; (case hd => rfl); (case hg => rfl); (case hr => first | (go_simp; done) | (go_simp; rfl)); intro gb1086 hg w40 hbox hb; have n0_ := Aside0.mk (Kd.R_below (by (with_reducible repeat (first | apply Kd.R_alloc | apply Kd.R_drewN | apply Kd.R_drew)); exact HO1073.out) hb); have n1_ := Aside0.mk (Kd.R_below (by (with_reducible repeat (first | apply Kd.R_alloc | apply Kd.R_drewN | apply Kd.R_drew)); exact HO1078.out) hb); have n2_ := Aside0.mk (Kd.R_below (by (with_reducible repeat (first | apply Kd.R_alloc | apply Kd.R_drewN | apply Kd.R_drew)); exact HO1084.out) hb); have n3_ := Aside0.mk (blk_below (g := gb1068) (o := .cells #[.string a0_0, .slice A0_1 l0_1.length c0_1] 24 (0, 0)) (by (with_reducible repeat (first | refine blk_drewN ?_ _ | refine blk_drew ?_ | refine blk_alloc ?_ _)); exact BK1068.out) hb); have n4_ := Aside0.mk (blk_below (g := gb1074) (o := .cells #[.string t1070, .slice Ao30 t1071.length co30] 24 (0, 0)) (by (with_reducible repeat (first | refine blk_drewN ?_ _ | refine blk_drew ?_ | refine blk_alloc ?_ _)); exact BK1074.out) hb); have n5_ := Aside0.mk (blk_below (g := gb1080) (o := .cells #[.string t1075, .slice Ao37 t1076.length co37] 24 (0, 0)) (by (with_reducible repeat (first | refine blk_drewN ?_ _ | refine blk_drew ?_ | refine blk_alloc ?_ _)); exact BK1080.out) hb); have n6_ := Aside0.mk (below_step (by repeat (first | (with_reducible first | exact HB.out | apply below_alloc | apply pw_below_drewN | apply below_drew1 | refine below_set ?_ GE1068.out | refine below_set ?_ GE1074.out | refine below_set ?_ GE1080.out) | exact HB.out)) hb); have n7_ := Aside0.mk (hbox); have n8_ := Aside0.mk ((by rw [hg]; exact (below_size (by repeat (first | (with_reducible first | exact HB.out | apply below_alloc | apply pw_below_drewN | apply below_drew1 | refine below_set ?_ GE1068.out | refine below_set ?_ GE1074.out | refine below_set ?_ GE1080.out) | exact HB.out))) : w.heap.size ≤ gb1086)); have n9_ := Aside0.mk ((by rw [hg]; exact (below_size (by repeat (first | (with_reducible first | exact HB.out | apply below_alloc | apply pw_below_drewN | apply below_drew1 | refine below_set ?_ GE1068.out | refine below_set ?_ GE1074.out | refine below_set ?_ GE1080.out) | exact HB.out))) : w.heap.size ≤ gb1086)); have n10_ := Aside0.mk ((by rw [hg]; exact Nat.ne_of_lt (blk_lt (g := gb1068) (o := .cells #[.string a0_0, .slice A0_1 l0_1.length c0_1] 24 (0, 0)) (by (with_reducible repeat (first | refine blk_drewN ?_ _ | refine blk_drew ?_ | refine blk_alloc ?_ _)); exact BK1068.out)) : gb1068 ≠ gb1086)); have n11_ := Aside0.mk ((by rw [hg]; exact Nat.ne_of_gt (blk_lt (g := gb1068) (o := .cells #[.string a0_0, .slice A0_1 l0_1.length c0_1] 24 (0, 0)) (by (with_reducible repeat (first | refine blk_drewN ?_ _ | refine blk_drew ?_ | refine blk_alloc ?_ _)); exact BK1068.out)) : gb1086 ≠ gb1068)); have n12_ := Aside0.mk ((by rw [hg]; exact Nat.ne_of_lt (blk_lt (g := gb1074) (o := .cells #[.string t1070, .slice Ao30 t1071.length co30] 24 (0, 0)) (by (with_reducible repeat (first | refine blk_drewN ?_ _ | refine blk_drew ?_ | refine blk_alloc ?_ _)); exact BK1074.out)) : gb1074 ≠ gb1086)); have n13_ := Aside0.mk ((by rw [hg]; exact Nat.ne_of_gt (blk_lt (g := gb1074) (o := .cells #[.string t1070, .slice Ao30 t1071.length co30] 24 (0, 0)) (by (with_reducible repeat (first | refine blk_drewN ?_ _ | refine blk_drew ?_ | refine blk_alloc ?_ _)); exact BK1074.out)) : gb1086 ≠ gb1074)); have n14_ := Aside0.mk ((by rw [hg]; exact Nat.ne_of_lt (blk_lt (g := gb1080) (o := .cells #[.string t1075, .slice Ao37 t1076.length co37] 24 (0, 0)) (by (with_reducible repeat (first | refine blk_drewN ?_ _ | refine blk_drew ?_ | refine blk_alloc ?_ _)); exact BK1080.out)) : gb1080 ≠ gb1086)); have n15_ := Aside0.mk ((by rw [hg]; exact Nat.ne_of_gt (blk_lt (g := gb1080) (o := .cells #[.string t1075, .slice Ao37 t1076.length co37] 24 (0, 0)) (by (with_reducible repeat (first | refine blk_drewN ?_ _ | refine blk_drew ?_ | refine blk_alloc ?_ _)); exact BK1080.out)) : gb1086 ≠ gb1080)); clear HO1073; clear HO1078; clear HO1084; clear BK1068; clear BK1074; clear BK1080; clear HB; have HO1073 := n0_; have HO1078 := n1_; have HO1084 := n2_; have BK1068 := n3_; have BK1074 := n4_; have BK1080 := n5_; have HB := n6_; have BK1086 := n7_; have GW1086 := n8_; have GE1086 := n9_; have NB1068_1086 := n10_; have NB1086_1068 := n11_; have NB1074_1086 := n12_; have NB1086_1074 := n13_; have NB1080_1086 := n14_; have NB1086_1080 := n15_; clear n0_ n1_ n2_ n3_ n4_ n5_ n6_ n7_ n8_ n9_ n10_ n11_ n12_ n13_ n14_ n15_; clear hb hbox hg; have hnb41 := NB1086_1068.out; have hnc41 := NB1068_1086.out; have hnb42 := NB1086_1074.out; have hnc42 := NB1074_1086.out; have hnb43 := NB1086_1080.out; have hnc43 := NB1080_1086.out; have hcz44_0 : w40.cell? ⟨gb1086, 0, none⟩ = some (.string (⟨#[]⟩ : ByteArray)) := (blk_cell BK1086.out 0).trans rfl; have hcz44_1 : w40.cell? ⟨gb1086, 1, none⟩ = some (.slice none 0 0) := (blk_cell BK1086.out 1).trans rfl; have hfz44_0 := blk_frozen BK1086.out 0; have hfz44_1 := blk_frozen BK1086.out 1; obtain ⟨Ao45, co45, eo45⟩ := Kd.R_slice HO1084.out; subst eo45; have hcz46_0 : w40.cell? ⟨gb1068, 0, none⟩ = some (.string a0_0) := (blk_cell BK1068.out 0).trans rfl; have hcz46_1 : w40.cell? ⟨gb1068, 1, none⟩ = some (.slice A0_1 l0_1.length c0_1) := (blk_cell BK1068.out 1).trans rfl; have hfz46_0 := blk_frozen BK1068.out 0; have hfz46_1 := blk_frozen BK1068.out 1; have hcz47_0 : w40.cell? ⟨gb1074, 0, none⟩ = some (.string t1070) := (blk_cell BK1074.out 0).trans rfl; have hcz47_1 : w40.cell? ⟨gb1074, 1, none⟩ = some (.slice Ao30 t1071.length co30) := (blk_cell BK1074.out 1).trans rfl; have hfz47_0 := blk_frozen BK1074.out 0; have hfz47_1 := blk_frozen BK1074.out 1) | ((with_reducible refine gate_callee (f := 66) rfl ?_); refine goesL_ (some 54) rfl rfl Try.func66 (by kernel_rfl) rfl #[.agg #[.string a0_0, .slice A0_1 l0_1.length c0_1], .agg #[.string t1070, .slice Ao30 t1071.length co30]] rfl (by (try simp only [List.map_toArray, List.map_cons, List.map_nil]); first | done | rfl | (simp only [List.length_drop, List.length_take]; rfl)) ?_; (with_reducible refine (classes_Add.calls k a0_0 _ _ l0_1 t1070 _ _ t1071 t1094 t1095 t1098 _ ?side1 ?side2 ?side3 ?side4 A9.out).mono ?_); (case side1 => exact Kd.C_below HR0_1.out (by repeat (first | (with_reducible first | exact HB.out | apply below_alloc | apply pw_below_drewN | apply below_drew1 | refine below_set ?_ GE1068.out | refine below_set ?_ GE1074.out | refine below_set ?_ GE1080.out | refine below_set ?_ GE1086.out) | exact HB.out))); (case side2 => exact HC0_1.out); (case side3 => refine (Kd.R_reads' (e := 85) (base := w.heap.size) (ok := fun k_ => ((True ∧ some k_ ≠ (.slice Ao37 t1076.length co37 : Value).ownBlock) ∧ some k_ ≠ (.slice Ao45 t1082.length co45 : Value).ownBlock)) (n := t1071.length) (c := co30) ?_).2.2; exact (by (with_reducible repeat (first | apply Kd.R_alloc | apply Kd.R_drewN | apply Kd.R_drew)); exact (Kd.R_mono (Kd.R_far (p := ⟨gb1086, 1, none⟩) (Kd.R_far (p := ⟨gb1086, 0, none⟩) (Kd.R_types HO1073.out BK1086.out (by decide)) (fun _ hk => hk.2) (.string t1081)) (fun _ hk => hk.2) (.slice Ao45 t1082.length co45)) (fun _ h_ => h_.1)))); (case side4 => exact (Kd.R_reads' HO1073.out).2.1); rintro e w48 ⟨v1096, rfl, ho0, hb⟩; refine ⟨_, rfl, ?_⟩; have n0_ := Aside0.mk (Kd.R_elder' (by (with_reducible repeat (first | apply Kd.R_alloc | apply Kd.R_drewN | apply Kd.R_drew)); exact (Kd.R_mono (Kd.R_far (p := ⟨gb1086, 1, none⟩) (Kd.R_far (p := ⟨gb1086, 0, none⟩) (Kd.R_types HO1073.out BK1086.out (by decide)) (fun _ hk => hk.2) (.string t1081)) (fun _ hk => hk.2) (.slice Ao45 t1082.length co45)) (fun _ h_ => h_.1))) (Kd.R_base ho0) hb); have n1_ := Aside0.mk (Kd.R_elder' (by (with_reducible repeat (first | apply Kd.R_alloc | apply Kd.R_drewN | apply Kd.R_drew)); exact (Kd.R_mono (Kd.R_far (p := ⟨gb1086, 1, none⟩) (Kd.R_far (p := ⟨gb1086, 0, none⟩) (Kd.R_types HO1078.out BK1086.out (by decide)) (fun _ hk => hk.2) (.string t1081)) (fun _ hk => hk.2) (.slice Ao45 t1082.length co45)) (fun _ h_ => h_.1))) (Kd.R_base ho0) hb); have n2_ := Aside0.mk (Kd.R_elder' (by (with_reducible repeat (first | apply Kd.R_alloc | apply Kd.R_drewN | apply Kd.R_drew)); exact (Kd.R_mono (Kd.R_far (p := ⟨gb1086, 1, none⟩) (Kd.R_far (p := ⟨gb1086, 0, none⟩) (Kd.R_types HO1084.out BK1086.out (by decide)) (fun _ hk => hk.2) (.string t1081)) (fun _ hk => hk.2) (.slice Ao45 t1082.length co45)) (fun _ h_ => h_.1))) (Kd.R_base ho0) hb); have n3_ := Aside0.mk (Kd.R_lower (Kd.R_new' (Kd.R_new' (Kd.R_new' ho0 (Kd.R_lt (by (with_reducible repeat (first | apply Kd.R_alloc | apply Kd.R_drewN | apply Kd.R_drew)); exact (Kd.R_mono (Kd.R_far (p := ⟨gb1086, 1, none⟩) (Kd.R_far (p := ⟨gb1086, 0, none⟩) (Kd.R_types HO1073.out BK1086.out (by decide)) (fun _ hk => hk.2) (.string t1081)) (fun _ hk => hk.2) (.slice Ao45 t1082.length co45)) (fun _ h_ => h_.1))))) (Kd.R_lt (by (with_reducible repeat (first | apply Kd.R_alloc | apply Kd.R_drewN | apply Kd.R_drew)); exact (Kd.R_mono (Kd.R_far (p := ⟨gb1086, 1, none⟩) (Kd.R_far (p := ⟨gb1086, 0, none⟩) (Kd.R_types HO1078.out BK1086.out (by decide)) (fun _ hk => hk.2) (.string t1081)) (fun _ hk => hk.2) (.slice Ao45 t1082.length co45)) (fun _ h_ => h_.1))))) (Kd.R_lt (by (with_reducible repeat (first | apply Kd.R_alloc | apply Kd.R_drewN | apply Kd.R_drew)); exact (Kd.R_mono (Kd.R_far (p := ⟨gb1086, 1, none⟩) (Kd.R_far (p := ⟨gb1086, 0, none⟩) (Kd.R_types HO1084.out BK1086.out (by decide)) (fun _ hk => hk.2) (.string t1081)) (fun _ hk => hk.2) (.slice Ao45 t1082.length co45)) (fun _ h_ => h_.1))))) (below_size (by repeat (first | (with_reducible first | exact HB.out | apply below_alloc | apply pw_below_drewN | apply below_drew1 | refine below_set ?_ GE1068.out | refine below_set ?_ GE1074.out | refine below_set ?_ GE1080.out | refine below_set ?_ GE1086.out) | exact HB.out)))); have n4_ := Aside0.mk (blk_below (g := gb1068) (o := .cells #[.string a0_0, .slice A0_1 l0_1.length c0_1] 24 (0, 0)) (by (with_reducible repeat (first | refine blk_drewN ?_ _ | refine blk_drew ?_ | refine blk_alloc ?_ _)); refine blk_far ?_ NB1068_1086.out _; (with_reducible repeat (first | refine blk_drewN ?_ _ | refine blk_drew ?_ | refine blk_alloc ?_ _)); refine blk_far ?_ NB1068_1086.out _; (with_reducible repeat (first | refine blk_drewN ?_ _ | refine blk_drew ?_ | refine blk_alloc ?_ _)); exact BK1068.out) hb); have n5_ := Aside0.mk (blk_below (g := gb1074) (o := .cells #[.string t1070, .slice Ao30 t1071.length co30] 24 (0, 0)) (by (with_reducible repeat (first | refine blk_drewN ?_ _ | refine blk_drew ?_ | refine blk_alloc ?_ _)); refine blk_far ?_ NB1074_1086.out _; (with_reducible repeat (first | refine blk_drewN ?_ _ | refine blk_drew ?_ | refine blk_alloc ?_ _)); refine blk_far ?_ NB1074_1086.out _; (with_reducible repeat (first | refine blk_drewN ?_ _ | refine blk_drew ?_ | refine blk_alloc ?_ _)); exact BK1074.out) hb); have n6_ := Aside0.mk (blk_below (g := gb1080) (o := .cells #[.string t1075, .slice Ao37 t1076.length co37] 24 (0, 0)) (by (with_reducible repeat (first | refine blk_drewN ?_ _ | refine blk_drew ?_ | refine blk_alloc ?_ _)); refine blk_far ?_ NB1080_1086.out _; (with_reducible repeat (first | refine blk_drewN ?_ _ | refine blk_drew ?_ | refine blk_alloc ?_ _)); refine blk_far ?_ NB1080_1086.out _; (with_reducible repeat (first | refine blk_drewN ?_ _ | refine blk_drew ?_ | refine blk_alloc ?_ _)); exact BK1080.out) hb); have n7_ := Aside0.mk (blk_below (g := gb1086) (o := .cells #[.string t1081, .slice Ao45 t1082.length co45] 24 (0, 0)) (by (with_reducible repeat (first | refine blk_drewN ?_ _ | refine blk_drew ?_ | refine blk_alloc ?_ _)); refine blk_put (cs := #[.string t1081, .slice none 0 0]) ?_ 1 _ rfl; (with_reducible repeat (first | refine blk_drewN ?_ _ | refine blk_drew ?_ | refine blk_alloc ?_ _)); refine blk_put (cs := #[.string (⟨#[]⟩ : ByteArray), .slice none 0 0]) ?_ 0 _ rfl; (with_reducible repeat (first | refine blk_drewN ?_ _ | refine blk_drew ?_ | refine blk_alloc ?_ _)); exact BK1086.out) hb); have n8_ := Aside0.mk (below_step (by repeat (first | (with_reducible first | exact HB.out | apply below_alloc | apply pw_below_drewN | apply below_drew1 | refine below_set ?_ GE1068.out | refine below_set ?_ GE1074.out | refine below_set ?_ GE1080.out | refine below_set ?_ GE1086.out) | exact HB.out)) hb); clear HO1073; clear HO1078; clear HO1084; clear BK1068; clear BK1074; clear BK1080; clear BK1086; clear HB; have HO1073 := n0_; have HO1078 := n1_; have HO1084 := n2_; have HO1097 := n3_; have BK1068 := n4_; have BK1074 := n5_; have BK1080 := n6_; have BK1086 := n7_; have HB := n8_; clear n0_ n1_ n2_ n3_ n4_ n5_ n6_ n7_ n8_; (try clear hb); (try clear hb2); (try clear hk); (try clear hi); (try clear ho0)) | ((with_reducible refine gate_dst (N := 10) rfl ?_); refine box_event ?hg (N := 10) ?hd (cs := #[.string (⟨#[]⟩ : ByteArray), .slice none 0 0]) (t := 24) ?hr ?_; (case hd => rfl); (case hg => rfl); (case hr => first | (go_simp; done) | (go_simp; rfl)); intro gb1099 hg w49 hbox hb; have n0_ := Aside0.mk (Kd.R_below (by (with_reducible repeat (first | apply Kd.R_alloc | apply Kd.R_drewN | apply Kd.R_drew)); exact HO1073.out) hb); have n1_ := Aside0.mk (Kd.R_below (by (with_reducible repeat (first | apply Kd.R_alloc | apply Kd.R_drewN | apply Kd.R_drew)); exact HO1078.out) hb); have n2_ := Aside0.mk (Kd.R_below (by (with_reducible repeat (first | apply Kd.R_alloc | apply Kd.R_drewN | apply Kd.R_drew)); exact HO1084.out) hb); have n3_ := Aside0.mk (Kd.R_below (by (with_reducible repeat (first | apply Kd.R_alloc | apply Kd.R_drewN | apply Kd.R_drew)); exact HO1097.out) hb); have n4_ := Aside0.mk (blk_below (g := gb1068) (o := .cells #[.string a0_0, .slice A0_1 l0_1.length c0_1] 24 (0, 0)) (by (with_reducible repeat (first | refine blk_drewN ?_ _ | refine blk_drew ?_ | refine blk_alloc ?_ _)); exact BK1068.out) hb); have n5_ := Aside0.mk (blk_below (g := gb1074) (o := .cells #[.string t1070, .slice Ao30 t1071.length co30] 24 (0, 0)) (by (with_reducible repeat (first | refine blk_drewN ?_ _ | refine blk_drew ?_ | refine blk_alloc ?_ _)); exact BK1074.out) hb); have n6_ := Aside0.mk (blk_below (g := gb1080) (o := .cells #[.string t1075, .slice Ao37 t1076.length co37] 24 (0, 0)) (by (with_reducible repeat (first | refine blk_drewN ?_ _ | refine blk_drew ?_ | refine blk_alloc ?_ _)); exact BK1080.out) hb); have n7_ := Aside0.mk (blk_below (g := gb1086) (o := .cells #[.string t1081, .slice Ao45 t1082.length co45] 24 (0, 0)) (by (with_reducible repeat (first | refine blk_drewN ?_ _ | refine blk_drew ?_ | refine blk_alloc ?_ _)); exact BK1086.out) hb); have n8_ := Aside0.mk (below_step (by repeat (first | (with_reducible first | exact HB.out | apply below_alloc | apply pw_below_drewN | apply below_drew1 | refine below_set ?_ GE1068.out | refine below_set ?_ GE1074.out | refine below_set ?_ GE1080.out | refine below_set ?_ GE1086.out) | exact HB.out)) hb); have n9_ := Aside0.mk (hbox); have n10_ := Aside0.mk ((by rw [hg]; exact (below_size (by repeat (first | (with_reducible first | exact HB.out | apply below_alloc | apply pw_below_drewN | apply below_drew1 | refine below_set ?_ GE1068.out | refine below_set ?_ GE1074.out | refine below_set ?_ GE1080.out | refine below_set ?_ GE1086.out) | exact HB.out))) : w.heap.size ≤ gb1099)); have n11_ := Aside0.mk ((by rw [hg]; exact (below_size (by repeat (first | (with_reducible first | exact HB.out | apply below_alloc | apply pw_below_drewN | apply below_drew1 | refine below_set ?_ GE1068.out | refine below_set ?_ GE1074.out | refine below_set ?_ GE1080.out | refine below_set ?_ GE1086.out) | exact HB.out))) : w.heap.size ≤ gb1099)); have n12_ := Aside0.mk ((by rw [hg]; exact Nat.ne_of_lt (blk_lt (g := gb1068) (o := .cells #[.string a0_0, .slice A0_1 l0_1.length c0_1] 24 (0, 0)) (by (with_reducible repeat (first | refine blk_drewN ?_ _ | refine blk_drew ?_ | refine blk_alloc ?_ _)); exact BK1068.out)) : gb1068 ≠ gb1099)); have n13_ := Aside0.mk ((by rw [hg]; exact Nat.ne_of_gt (blk_lt (g := gb1068) (o := .cells #[.string a0_0, .slice A0_1 l0_1.length c0_1] 24 (0, 0)) (by (with_reducible repeat (first | refine blk_drewN ?_ _ | refine blk_drew ?_ | refine blk_alloc ?_ _)); exact BK1068.out)) : gb1099 ≠ gb1068)); have n14_ := Aside0.mk ((by rw [hg]; exact Nat.ne_of_lt (blk_lt (g := gb1074) (o := .cells #[.string t1070, .slice Ao30 t1071.length co30] 24 (0, 0)) (by (with_reducible repeat (first | refine blk_drewN ?_ _ | refine blk_drew ?_ | refine blk_alloc ?_ _)); exact BK1074.out)) : gb1074 ≠ gb1099)); have n15_ := Aside0.mk ((by rw [hg]; exact Nat.ne_of_gt (blk_lt (g := gb1074) (o := .cells #[.string t1070, .slice Ao30 t1071.length co30] 24 (0, 0)) (by (with_reducible repeat (first | refine blk_drewN ?_ _ | refine blk_drew ?_ | refine blk_alloc ?_ _)); exact BK1074.out)) : gb1099 ≠ gb1074)); have n16_ := Aside0.mk ((by rw [hg]; exact Nat.ne_of_lt (blk_lt (g := gb1080) (o := .cells #[.string t1075, .slice Ao37 t1076.length co37] 24 (0, 0)) (by (with_reducible repeat (first | refine blk_drewN ?_ _ | refine blk_drew ?_ | refine blk_alloc ?_ _)); exact BK1080.out)) : gb1080 ≠ gb1099)); have n17_ := Aside0.mk ((by rw [hg]; exact Nat.ne_of_gt (blk_lt (g := gb1080) (o := .cells #[.string t1075, .slice Ao37 t1076.length co37] 24 (0, 0)) (by (with_reducible repeat (first | refine blk_drewN ?_ _ | refine blk_drew ?_ | refine blk_alloc ?_ _)); exact BK1080.out)) : gb1099 ≠ gb1080)); have n18_ := Aside0.mk ((by rw [hg]; exact Nat.ne_of_lt (blk_lt (g := gb1086) (o := .cells #[.string t1081, .slice Ao45 t1082.length co45] 24 (0, 0)) (by (with_reducible repeat (first | refine blk_drewN ?_ _ | refine blk_drew ?_ | refine blk_alloc ?_ _)); exact BK1086.out)) : gb1086 ≠ gb1099)); have n19_ := Aside0.mk ((by rw [hg]; exact Nat.ne_of_gt (blk_lt (g := gb1086) (o := .cells #[.string t1081, .slice Ao45 t1082.length co45] 24 (0, 0)) (by (with_reducible repeat (first | refine blk_drewN ?_ _ | refine blk_drew ?_ | refine blk_alloc ?_ _)); exact BK1086.out)) : gb1099 ≠ gb1086)); clear HO1073; clear HO1078; clear HO1084; clear HO1097; clear BK1068; clear BK1074; clear BK1080; clear BK1086; clear HB; have HO1073 := n0_; have HO1078 := n1_; have HO1084 := n2_; have HO1097 := n3_; have BK1068 := n4_; have BK1074 := n5_; have BK1080 := n6_; have BK1086 := n7_; have HB := n8_; have BK1099 := n9_; have GW1099 := n10_; have GE1099 := n11_; have NB1068_1099 := n12_; have NB1099_1068 := n13_; have NB1074_1099 := n14_; have NB1099_1074 := n15_; have NB1080_1099 := n16_; have NB1099_1080 := n17_; have NB1086_1099 := n18_; have NB1099_1086 := n19_; clear n0_ n1_ n2_ n3_ n4_ n5_ n6_ n7_ n8_ n9_ n10_ n11_ n12_ n13_ n14_ n15_ n16_ n17_ n18_ n19_; clear hb hbox hg; have hnb50 := NB1099_1068.out; have hnc50 := NB1068_1099.out; have hnb51 := NB1099_1074.out; have hnc51 := NB1074_1099.out; have hnb52 := NB1099_1080.out; have hnc52 := NB1080_1099.out; have hnb53 := NB1099_1086.out; have hnc53 := NB1086_1099.out; have hcz54_0 : w49.cell? ⟨gb1099, 0, none⟩ = some (.string (⟨#[]⟩ : ByteArray)) := (blk_cell BK1099.out 0).trans rfl; have hcz54_1 : w49.cell? ⟨gb1099, 1, none⟩ = some (.slice none 0 0) := (blk_cell BK1099.out 1).trans rfl; have hfz54_0 := blk_frozen BK1099.out 0; have hfz54_1 := blk_frozen BK1099.out 1; obtain ⟨Ao55, co55, eo55⟩ := Kd.R_slice HO1097.out; subst eo55))
        have n0_ : Aside0 (Kd.R k85 85 ((w49.setCell ⟨gb1099, 0, none⟩ (.string t1094)).setCell ⟨gb1099, 1, none⟩ (.slice Ao55 t1095.length co55)) w.heap.size (fun k_ => some k_ ≠ (.slice Ao37 t1076.length co37 : Value).ownBlock ∧ some k_ ≠ (.slice Ao45 t1082.length co45 : Value).ownBlock ∧ some k_ ≠ (.slice Ao55 t1095.length co55 : Value).ownBlock) (.slice Ao30 t1071.length co30) t1071) := ⟨by (with_reducible repeat (first | apply Kd.R_alloc | apply Kd.R_drewN | apply Kd.R_drew)); exact Kd.R_mono (Kd.R_far (p := ⟨gb1099, 1, none⟩) (Kd.R_far (p := ⟨gb1099, 0, none⟩) (Kd.R_types HO1073.out BK1099.out (by decide)) (fun _ hk => hk.2) (.string t1094)) (fun _ hk => hk.2) (.slice Ao55 t1095.length co55)) (fun _ hk => ⟨hk.1.1.1.2, ⟨hk.1.1.2, hk.1.2⟩⟩)⟩
        have n1_ : Aside0 (Kd.R k85 85 ((w49.setCell ⟨gb1099, 0, none⟩ (.string t1094)).setCell ⟨gb1099, 1, none⟩ (.slice Ao55 t1095.length co55)) w.heap.size (fun k_ => some k_ ≠ (.slice Ao30 t1071.length co30 : Value).ownBlock ∧ some k_ ≠ (.slice Ao45 t1082.length co45 : Value).ownBlock ∧ some k_ ≠ (.slice Ao55 t1095.length co55 : Value).ownBlock) (.slice Ao37 t1076.length co37) t1076) := ⟨by (with_reducible repeat (first | apply Kd.R_alloc | apply Kd.R_drewN | apply Kd.R_drew)); exact Kd.R_mono (Kd.R_far (p := ⟨gb1099, 1, none⟩) (Kd.R_far (p := ⟨gb1099, 0, none⟩) (Kd.R_types HO1078.out BK1099.out (by decide)) (fun _ hk => hk.2) (.string t1094)) (fun _ hk => hk.2) (.slice Ao55 t1095.length co55)) (fun _ hk => ⟨hk.1.1.1.2, ⟨hk.1.1.2, hk.1.2⟩⟩)⟩
        have n2_ : Aside0 (Kd.R k85 85 ((w49.setCell ⟨gb1099, 0, none⟩ (.string t1094)).setCell ⟨gb1099, 1, none⟩ (.slice Ao55 t1095.length co55)) w.heap.size (fun k_ => some k_ ≠ (.slice Ao30 t1071.length co30 : Value).ownBlock ∧ some k_ ≠ (.slice Ao37 t1076.length co37 : Value).ownBlock ∧ some k_ ≠ (.slice Ao55 t1095.length co55 : Value).ownBlock) (.slice Ao45 t1082.length co45) t1082) := ⟨by (with_reducible repeat (first | apply Kd.R_alloc | apply Kd.R_drewN | apply Kd.R_drew)); exact Kd.R_mono (Kd.R_far (p := ⟨gb1099, 1, none⟩) (Kd.R_far (p := ⟨gb1099, 0, none⟩) (Kd.R_types HO1084.out BK1099.out (by decide)) (fun _ hk => hk.2) (.string t1094)) (fun _ hk => hk.2) (.slice Ao55 t1095.length co55)) (fun _ hk => ⟨hk.1.1.1.2, ⟨hk.1.1.2, hk.1.2⟩⟩)⟩
        have n3_ : Aside0 (Kd.R k85 85 ((w49.setCell ⟨gb1099, 0, none⟩ (.string t1094)).setCell ⟨gb1099, 1, none⟩ (.slice Ao55 t1095.length co55)) w.heap.size (fun k_ => some k_ ≠ (.slice Ao30 t1071.length co30 : Value).ownBlock ∧ some k_ ≠ (.slice Ao37 t1076.length co37 : Value).ownBlock ∧ some k_ ≠ (.slice Ao45 t1082.length co45 : Value).ownBlock) (.slice Ao55 t1095.length co55) t1095) := ⟨by (with_reducible repeat (first | apply Kd.R_alloc | apply Kd.R_drewN | apply Kd.R_drew)); exact Kd.R_mono (Kd.R_far (p := ⟨gb1099, 1, none⟩) (Kd.R_far (p := ⟨gb1099, 0, none⟩) (Kd.R_types HO1097.out BK1099.out (by decide)) (fun _ hk => hk.2) (.string t1094)) (fun _ hk => hk.2) (.slice Ao55 t1095.length co55)) (fun _ hk => ⟨hk.1.1.1.2, ⟨hk.1.1.2, hk.1.2⟩⟩)⟩
        have n4_ : Aside0 (((w49.setCell ⟨gb1099, 0, none⟩ (.string t1094)).setCell ⟨gb1099, 1, none⟩ (.slice Ao55 t1095.length co55)).heap[gb1068]? = some (.cells #[.string a0_0, .slice A0_1 l0_1.length c0_1] 24 (0, 0))) := ⟨by (with_reducible repeat (first | refine blk_drewN ?_ _ | refine blk_drew ?_ | refine blk_alloc ?_ _)); refine blk_far ?_ NB1068_1099.out _; (with_reducible repeat (first | refine blk_drewN ?_ _ | refine blk_drew ?_ | refine blk_alloc ?_ _)); refine blk_far ?_ NB1068_1099.out _; (with_reducible repeat (first | refine blk_drewN ?_ _ | refine blk_drew ?_ | refine blk_alloc ?_ _)); exact BK1068.out⟩
        have n5_ : Aside0 (((w49.setCell ⟨gb1099, 0, none⟩ (.string t1094)).setCell ⟨gb1099, 1, none⟩ (.slice Ao55 t1095.length co55)).heap[gb1074]? = some (.cells #[.string t1070, .slice Ao30 t1071.length co30] 24 (0, 0))) := ⟨by (with_reducible repeat (first | refine blk_drewN ?_ _ | refine blk_drew ?_ | refine blk_alloc ?_ _)); refine blk_far ?_ NB1074_1099.out _; (with_reducible repeat (first | refine blk_drewN ?_ _ | refine blk_drew ?_ | refine blk_alloc ?_ _)); refine blk_far ?_ NB1074_1099.out _; (with_reducible repeat (first | refine blk_drewN ?_ _ | refine blk_drew ?_ | refine blk_alloc ?_ _)); exact BK1074.out⟩
        have n6_ : Aside0 (((w49.setCell ⟨gb1099, 0, none⟩ (.string t1094)).setCell ⟨gb1099, 1, none⟩ (.slice Ao55 t1095.length co55)).heap[gb1080]? = some (.cells #[.string t1075, .slice Ao37 t1076.length co37] 24 (0, 0))) := ⟨by (with_reducible repeat (first | refine blk_drewN ?_ _ | refine blk_drew ?_ | refine blk_alloc ?_ _)); refine blk_far ?_ NB1080_1099.out _; (with_reducible repeat (first | refine blk_drewN ?_ _ | refine blk_drew ?_ | refine blk_alloc ?_ _)); refine blk_far ?_ NB1080_1099.out _; (with_reducible repeat (first | refine blk_drewN ?_ _ | refine blk_drew ?_ | refine blk_alloc ?_ _)); exact BK1080.out⟩
        have n7_ : Aside0 (((w49.setCell ⟨gb1099, 0, none⟩ (.string t1094)).setCell ⟨gb1099, 1, none⟩ (.slice Ao55 t1095.length co55)).heap[gb1086]? = some (.cells #[.string t1081, .slice Ao45 t1082.length co45] 24 (0, 0))) := ⟨by (with_reducible repeat (first | refine blk_drewN ?_ _ | refine blk_drew ?_ | refine blk_alloc ?_ _)); refine blk_far ?_ NB1086_1099.out _; (with_reducible repeat (first | refine blk_drewN ?_ _ | refine blk_drew ?_ | refine blk_alloc ?_ _)); refine blk_far ?_ NB1086_1099.out _; (with_reducible repeat (first | refine blk_drewN ?_ _ | refine blk_drew ?_ | refine blk_alloc ?_ _)); exact BK1086.out⟩
        have n8_ : Aside0 (((w49.setCell ⟨gb1099, 0, none⟩ (.string t1094)).setCell ⟨gb1099, 1, none⟩ (.slice Ao55 t1095.length co55)).heap[gb1099]? = some (.cells #[.string t1094, .slice Ao55 t1095.length co55] 24 (0, 0))) := ⟨by (with_reducible repeat (first | refine blk_drewN ?_ _ | refine blk_drew ?_ | refine blk_alloc ?_ _)); refine blk_put (cs := #[.string t1094, .slice none 0 0]) ?_ 1 _ rfl; (with_reducible repeat (first | refine blk_drewN ?_ _ | refine blk_drew ?_ | refine blk_alloc ?_ _)); refine blk_put (cs := #[.string (⟨#[]⟩ : ByteArray), .slice none 0 0]) ?_ 0 _ rfl; (with_reducible repeat (first | refine blk_drewN ?_ _ | refine blk_drew ?_ | refine blk_alloc ?_ _)); exact BK1099.out⟩
        have n9_ : Aside0 (Below w.heap.size w ((w49.setCell ⟨gb1099, 0, none⟩ (.string t1094)).setCell ⟨gb1099, 1, none⟩ (.slice Ao55 t1095.length co55))) := ⟨by repeat (first | (with_reducible first | exact HB.out | apply below_alloc | apply pw_below_drewN | apply below_drew1 | refine below_set ?_ GE1068.out | refine below_set ?_ GE1074.out | refine below_set ?_ GE1080.out | refine below_set ?_ GE1086.out | refine below_set ?_ GE1099.out) | exact HB.out)⟩
        (try clear HO1073)
        (try clear HO1078)
        (try clear HO1084)
        (try clear HO1097)
        (try clear BK1068)
        (try clear BK1074)
        (try clear BK1080)
        (try clear BK1086)
        (try clear BK1099)
        (try clear HB)
        generalize ((w49.setCell ⟨gb1099, 0, none⟩ (.string t1094)).setCell ⟨gb1099, 1, none⟩ (.slice Ao55 t1095.length co55)) = w56 at n0_ n1_ n2_ n3_ n4_ n5_ n6_ n7_ n8_ n9_ ⊢
        have HO1073 := n0_
        have HO1078 := n1_
        have HO1084 := n2_
        have HO1097 := n3_
        have BK1068 := n4_
        have BK1074 := n5_
        have BK1080 := n6_
        have BK1086 := n7_
        have BK1099 := n8_
        have HB := n9_
        clear n0_ n1_ n2_ n3_ n4_ n5_ n6_ n7_ n8_ n9_
        have n0_ := Aside0.mk (Kd.R_drew HO1073.out)
        have n1_ := Aside0.mk (Kd.R_drew HO1078.out)
        have n2_ := Aside0.mk (Kd.R_drew HO1084.out)
        have n3_ := Aside0.mk (Kd.R_drew HO1097.out)
        have n4_ := Aside0.mk (blk_drew BK1068.out)
        have n5_ := Aside0.mk (blk_drew BK1074.out)
        have n6_ := Aside0.mk (blk_drew BK1080.out)
        have n7_ := Aside0.mk (blk_drew BK1086.out)
        have n8_ := Aside0.mk (blk_drew BK1099.out)
        have n9_ := Aside0.mk (below_drew1 HB.out)
        clear HO1073
        clear HO1078
        clear HO1084
        clear HO1097
        clear BK1068
        clear BK1074
        clear BK1080
        clear BK1086
        clear BK1099
        clear HB
        have HO1073 := n0_
        have HO1078 := n1_
        have HO1084 := n2_
        have HO1097 := n3_
        have BK1068 := n4_
        have BK1074 := n5_
        have BK1080 := n6_
        have BK1086 := n7_
        have BK1099 := n8_
        have HB := n9_
        clear n0_ n1_ n2_ n3_ n4_ n5_ n6_ n7_ n8_ n9_
        refine start_ (n := 43) (S := fun w' => w'.cell? ⟨gb1080, 0, none⟩ = some (.string t1075) ∧ w'.cell? ⟨gb1080, 1, none⟩ = some (.slice Ao37 t1076.length co37) ∧ w'.cell? ⟨gb1068, 0, none⟩ = some (.string a0_0) ∧ w'.cell? ⟨gb1068, 1, none⟩ = some (.slice A0_1 l0_1.length c0_1) ∧ w'.cell? ⟨gb1086, 0, none⟩ = some (.string t1081) ∧ w'.cell? ⟨gb1086, 1, none⟩ = some (.slice Ao45 t1082.length co45) ∧ w'.cell? ⟨gb1099, 0, none⟩ = some (.string t1094) ∧ w'.cell? ⟨gb1099, 1, none⟩ = some (.slice Ao55 t1095.length co55)) (ds := []) #[false, false, false, false, false, false, false, false, false, false, false, false, false, false, false, false, false, false, false, false, false, false, false, false, false, false, false, false, false, false, false, false, false, false, false, false, false, false, false, false, false, false, false] (by kernel_rfl) rfl rfl ⟨(blk_cell BK1080.out 0).trans rfl, (blk_cell BK1080.out 1).trans rfl, (blk_cell BK1068.out 0).trans rfl, (blk_cell BK1068.out 1).trans rfl, (blk_cell BK1086.out 0).trans rfl, (blk_cell BK1086.out 1).trans rfl, (blk_cell BK1099.out 0).trans rfl, (blk_cell BK1099.out 1).trans rfl⟩ (fun hHeld => ?_); refine with_tabW glazierlaw41_ClassesTurn.tab9 glazierlaw41_ClassesTurn.bits9 (fun HT_ HW_ => ?_)
        generalize w56.drew = w57 at HO1073 HO1078 HO1084 HO1097 BK1068 BK1074 BK1080 BK1086 BK1099 HB hHeld ⊢
        refine pure_ (i := 0) (N := some 57) (v := ?_) (a' := ?_) #[true, false, false, false, false, false, false, false, false, false, false, false, false, false, false, false, false, false, false, false, false, false, false, false, false, false, false, false, false, false, false, false, false, false, false, false, false, false, false, false, false, false, false] rfl rfl (any_of HT_.out (by kernel_rfl)) (fun _ _ _ h => h) (Or.inl ⟨by rfl, ?_⟩) ?_ ?_
        rotate_left
        ·
         intro w'
         go_simp
         with_reducible rfl
        rotate_left
        ·
         simp only [Act.put, List.setIfInBounds_toArray, List.set_cons_zero, List.set_cons_succ, i64_w, i32_w]
         rfl
        refine pure_ (i := 1) (N := some 58) (v := ?_) (a' := ?_) #[true, true, false, false, false, false, false, false, false, false, false, false, false, false, false, false, false, false, false, false, false, false, false, false, false, false, false, false, false, false, false, false, false, false, false, false, false, false, false, false, false, false, false] rfl rfl (any_of HT_.out (by kernel_rfl)) (fun _ _ _ h => h) (Or.inl ⟨by rfl, ?_⟩) ?_ ?_
        rotate_left
        ·
         intro w'
         go_simp
         with_reducible rfl
        rotate_left
        ·
         simp only [Act.put, List.setIfInBounds_toArray, List.set_cons_zero, List.set_cons_succ, i64_w, i32_w]
         rfl
        refine pure_ (i := 2) (N := some 59) (v := ?_) (a' := ?_) #[true, true, true, false, false, false, false, false, false, false, false, false, false, false, false, false, false, false, false, false, false, false, false, false, false, false, false, false, false, false, false, false, false, false, false, false, false, false, false, false, false, false, false] rfl rfl (any_of HT_.out (by kernel_rfl)) (fun _ _ _ h => h) (Or.inl ⟨by rfl, ?_⟩) ?_ ?_
        rotate_left
        ·
         intro w'
         go_simp
         with_reducible rfl
        rotate_left
        ·
         simp only [Act.put, List.setIfInBounds_toArray, List.set_cons_zero, List.set_cons_succ, i64_w, i32_w]
         rfl
        refine pure_ (i := 4) (N := some 61) (v := ?_) (a' := ?_) #[true, true, true, false, true, false, false, false, false, false, false, false, false, false, false, false, false, false, false, false, false, false, false, false, false, false, false, false, false, false, false, false, false, false, false, false, false, false, false, false, false, false, false] rfl rfl (any_of HT_.out (by kernel_rfl)) (fun _ _ _ h => h) (Or.inl ⟨by rfl, ?_⟩) ?_ ?_
        rotate_left
        ·
         intro w'
         go_simp
         with_reducible rfl
        rotate_left
        ·
         simp only [Act.put, List.setIfInBounds_toArray, List.set_cons_zero, List.set_cons_succ, i64_w, i32_w]
         rfl
        refine pure_ (i := 7) (N := some 64) (v := ?_) (a' := ?_) #[true, true, true, false, true, false, false, true, false, false, false, false, false, false, false, false, false, false, false, false, false, false, false, false, false, false, false, false, false, false, false, false, false, false, false, false, false, false, false, false, false, false, false] rfl rfl (any_of HT_.out (by kernel_rfl)) (fun _ _ _ h => h) (Or.inl ⟨by rfl, ?_⟩) ?_ ?_
        rotate_left
        ·
         intro w'
         go_simp
         with_reducible rfl
        rotate_left
        ·
         simp only [Act.put, List.setIfInBounds_toArray, List.set_cons_zero, List.set_cons_succ, i64_w, i32_w]
         rfl
        refine take_ (i := 3) (N := some 60) (v := ?_) (a' := ?_) #[true, true, true, true, true, false, false, true, false, false, false, false, false, false, false, false, false, false, false, false, false, false, false, false, false, false, false, false, false, false, false, false, false, false, false, false, false, false, false, false, false, false, false] rfl rfl (take_ofW HT_.out HW_.out (by kernel_rfl)) (fun _ _ _ h => h) (Or.inl ⟨by rfl, ?_⟩) hHeld ?_ ?_
        rotate_left
        ·
         rintro w' ⟨s0, s1, s2, s3, s4, s5, s6, s7⟩
         go_simp
         with_reducible rfl
        rotate_left
        ·
         simp only [Act.put, List.setIfInBounds_toArray, List.set_cons_zero, List.set_cons_succ, i64_w, i32_w]
         rfl
        refine take_ (i := 6) (N := some 63) (v := ?_) (a' := ?_) #[true, true, true, true, true, false, true, true, false, false, false, false, false, false, false, false, false, false, false, false, false, false, false, false, false, false, false, false, false, false, false, false, false, false, false, false, false, false, false, false, false, false, false] rfl rfl (take_ofW HT_.out HW_.out (by kernel_rfl)) (fun _ _ _ h => h) (Or.inl ⟨by rfl, ?_⟩) hHeld ?_ ?_
        rotate_left
        ·
         rintro w' ⟨s0, s1, s2, s3, s4, s5, s6, s7⟩
         go_simp
         with_reducible rfl
        rotate_left
        ·
         simp only [Act.put, List.setIfInBounds_toArray, List.set_cons_zero, List.set_cons_succ, i64_w, i32_w]
         rfl
        refine one_ (i := 5) (N := some 62) #[true, true, true, true, true, true, true, true, false, false, false, false, false, false, false, false, false, false, false, false, false, false, false, false, false, false, false, false, false, false, false, false, false, false, false, false, false, false, false, false, false, false, false] rfl rfl (one_of HT_.out (by kernel_rfl)) (by decide) (fun K hK => ?_)
        refine goes_ Try.func67 (by kernel_rfl) rfl #[.agg #[.string t1075, .slice Ao37 t1076.length co37], .string a1] (by rfl) rfl rfl (by (try simp only [List.map_toArray, List.map_cons, List.map_nil]); first | done | rfl | (simp only [List.length_drop, List.length_take]; rfl)) ?_
        with_reducible refine (classes_Has.calls k t1075 _ _ t1076 a1 t1100 _ ?side1 ?side2 A11.out).mono ?_
        (case side1 => repeat (first | exact (Kd.R_reads' HO1078.out).2.2 | (with_reducible refine Kd.C_alloc ?_ _) | (with_reducible refine Kd.C_drewN ?_ _) | (with_reducible refine Kd.C_drew ?_)))
        (case side2 => exact (Kd.R_reads' HO1078.out).2.1)
        rintro e w58 ⟨rfl, hb⟩
        refine ⟨_, rfl, ?_⟩
        have n0_ := Aside0.mk (Kd.R_below (by (with_reducible repeat (first | apply Kd.R_alloc | apply Kd.R_drewN | apply Kd.R_drew)); exact HO1073.out) hb)
        have n1_ := Aside0.mk (Kd.R_below (by (with_reducible repeat (first | apply Kd.R_alloc | apply Kd.R_drewN | apply Kd.R_drew)); exact HO1078.out) hb)
        have n2_ := Aside0.mk (Kd.R_below (by (with_reducible repeat (first | apply Kd.R_alloc | apply Kd.R_drewN | apply Kd.R_drew)); exact HO1084.out) hb)
        have n3_ := Aside0.mk (Kd.R_below (by (with_reducible repeat (first | apply Kd.R_alloc | apply Kd.R_drewN | apply Kd.R_drew)); exact HO1097.out) hb)
        have n4_ := Aside0.mk (blk_below (g := gb1068) (o := .cells #[.string a0_0, .slice A0_1 l0_1.length c0_1] 24 (0, 0)) (by (with_reducible repeat (first | refine blk_drewN ?_ _ | refine blk_drew ?_ | refine blk_alloc ?_ _)); exact BK1068.out) hb)
        have n5_ := Aside0.mk (blk_below (g := gb1074) (o := .cells #[.string t1070, .slice Ao30 t1071.length co30] 24 (0, 0)) (by (with_reducible repeat (first | refine blk_drewN ?_ _ | refine blk_drew ?_ | refine blk_alloc ?_ _)); exact BK1074.out) hb)
        have n6_ := Aside0.mk (blk_below (g := gb1080) (o := .cells #[.string t1075, .slice Ao37 t1076.length co37] 24 (0, 0)) (by (with_reducible repeat (first | refine blk_drewN ?_ _ | refine blk_drew ?_ | refine blk_alloc ?_ _)); exact BK1080.out) hb)
        have n7_ := Aside0.mk (blk_below (g := gb1086) (o := .cells #[.string t1081, .slice Ao45 t1082.length co45] 24 (0, 0)) (by (with_reducible repeat (first | refine blk_drewN ?_ _ | refine blk_drew ?_ | refine blk_alloc ?_ _)); exact BK1086.out) hb)
        have n8_ := Aside0.mk (blk_below (g := gb1099) (o := .cells #[.string t1094, .slice Ao55 t1095.length co55] 24 (0, 0)) (by (with_reducible repeat (first | refine blk_drewN ?_ _ | refine blk_drew ?_ | refine blk_alloc ?_ _)); exact BK1099.out) hb)
        have n9_ := Aside0.mk (below_step (by repeat (first | (with_reducible first | exact HB.out | apply below_alloc | apply pw_below_drewN | apply below_drew1 | refine below_set ?_ GE1068.out | refine below_set ?_ GE1074.out | refine below_set ?_ GE1080.out | refine below_set ?_ GE1086.out | refine below_set ?_ GE1099.out) | exact HB.out)) hb)
        clear HO1073
        clear HO1078
        clear HO1084
        clear HO1097
        clear BK1068
        clear BK1074
        clear BK1080
        clear BK1086
        clear BK1099
        clear HB
        have HO1073 := n0_
        have HO1078 := n1_
        have HO1084 := n2_
        have HO1097 := n3_
        have BK1068 := n4_
        have BK1074 := n5_
        have BK1080 := n6_
        have BK1086 := n7_
        have BK1099 := n8_
        have HB := n9_
        clear n0_ n1_ n2_ n3_ n4_ n5_ n6_ n7_ n8_ n9_
        (try clear hb)
        (try clear hb2)
        (try clear hk)
        (try clear hi)
        refine hK.out _ _ ⟨(blk_cell BK1080.out 0).trans rfl, (blk_cell BK1080.out 1).trans rfl, (blk_cell BK1068.out 0).trans rfl, (blk_cell BK1068.out 1).trans rfl, (blk_cell BK1086.out 0).trans rfl, (blk_cell BK1086.out 1).trans rfl, (blk_cell BK1099.out 0).trans rfl, (blk_cell BK1099.out 1).trans rfl⟩ (fun hHeld => ?_)
        clear hK K
        refine norm_ (a' := ?_) ?_ ?_
        rotate_left
        ·
         show Act.put _ (some 62) _ = _
         simp only [Act.put, List.setIfInBounds_toArray, List.set_cons_zero, List.set_cons_succ, i64_w, i32_w]
         rfl
        refine one_ (i := 8) (N := some 65) #[true, true, true, true, true, true, true, true, true, false, false, false, false, false, false, false, false, false, false, false, false, false, false, false, false, false, false, false, false, false, false, false, false, false, false, false, false, false, false, false, false, false, false] rfl rfl (one_of HT_.out (by kernel_rfl)) (by decide) (fun K hK => ?_)
        refine goes_ Try.func67 (by kernel_rfl) rfl #[.agg #[.string a0_0, .slice A0_1 l0_1.length c0_1], .string a1] (by rfl) rfl rfl (by (try simp only [List.map_toArray, List.map_cons, List.map_nil]); first | done | rfl | (simp only [List.length_drop, List.length_take]; rfl)) ?_
        with_reducible refine (classes_Has.calls k a0_0 _ _ l0_1 a1 t1101 _ ?side1 ?side2 A12.out).mono ?_
        (case side1 => repeat (first | exact (Kd.C_below HR0_1.out HB.out) | (with_reducible refine Kd.C_alloc ?_ _) | (with_reducible refine Kd.C_drewN ?_ _) | (with_reducible refine Kd.C_drew ?_)))
        (case side2 => exact HC0_1.out)
        rintro e w59 ⟨rfl, hb⟩
        refine ⟨_, rfl, ?_⟩
        have n0_ := Aside0.mk (Kd.R_below (by (with_reducible repeat (first | apply Kd.R_alloc | apply Kd.R_drewN | apply Kd.R_drew)); exact HO1073.out) hb)
        have n1_ := Aside0.mk (Kd.R_below (by (with_reducible repeat (first | apply Kd.R_alloc | apply Kd.R_drewN | apply Kd.R_drew)); exact HO1078.out) hb)
        have n2_ := Aside0.mk (Kd.R_below (by (with_reducible repeat (first | apply Kd.R_alloc | apply Kd.R_drewN | apply Kd.R_drew)); exact HO1084.out) hb)
        have n3_ := Aside0.mk (Kd.R_below (by (with_reducible repeat (first | apply Kd.R_alloc | apply Kd.R_drewN | apply Kd.R_drew)); exact HO1097.out) hb)
        have n4_ := Aside0.mk (blk_below (g := gb1068) (o := .cells #[.string a0_0, .slice A0_1 l0_1.length c0_1] 24 (0, 0)) (by (with_reducible repeat (first | refine blk_drewN ?_ _ | refine blk_drew ?_ | refine blk_alloc ?_ _)); exact BK1068.out) hb)
        have n5_ := Aside0.mk (blk_below (g := gb1074) (o := .cells #[.string t1070, .slice Ao30 t1071.length co30] 24 (0, 0)) (by (with_reducible repeat (first | refine blk_drewN ?_ _ | refine blk_drew ?_ | refine blk_alloc ?_ _)); exact BK1074.out) hb)
        have n6_ := Aside0.mk (blk_below (g := gb1080) (o := .cells #[.string t1075, .slice Ao37 t1076.length co37] 24 (0, 0)) (by (with_reducible repeat (first | refine blk_drewN ?_ _ | refine blk_drew ?_ | refine blk_alloc ?_ _)); exact BK1080.out) hb)
        have n7_ := Aside0.mk (blk_below (g := gb1086) (o := .cells #[.string t1081, .slice Ao45 t1082.length co45] 24 (0, 0)) (by (with_reducible repeat (first | refine blk_drewN ?_ _ | refine blk_drew ?_ | refine blk_alloc ?_ _)); exact BK1086.out) hb)
        have n8_ := Aside0.mk (blk_below (g := gb1099) (o := .cells #[.string t1094, .slice Ao55 t1095.length co55] 24 (0, 0)) (by (with_reducible repeat (first | refine blk_drewN ?_ _ | refine blk_drew ?_ | refine blk_alloc ?_ _)); exact BK1099.out) hb)
        have n9_ := Aside0.mk (below_step (by repeat (first | (with_reducible first | exact HB.out | apply below_alloc | apply pw_below_drewN | apply below_drew1 | refine below_set ?_ GE1068.out | refine below_set ?_ GE1074.out | refine below_set ?_ GE1080.out | refine below_set ?_ GE1086.out | refine below_set ?_ GE1099.out) | exact HB.out)) hb)
        clear HO1073
        clear HO1078
        clear HO1084
        clear HO1097
        clear BK1068
        clear BK1074
        clear BK1080
        clear BK1086
        clear BK1099
        clear HB
        have HO1073 := n0_
        have HO1078 := n1_
        have HO1084 := n2_
        have HO1097 := n3_
        have BK1068 := n4_
        have BK1074 := n5_
        have BK1080 := n6_
        have BK1086 := n7_
        have BK1099 := n8_
        have HB := n9_
        clear n0_ n1_ n2_ n3_ n4_ n5_ n6_ n7_ n8_ n9_
        (try clear hb)
        (try clear hb2)
        (try clear hk)
        (try clear hi)
        refine hK.out _ _ ⟨(blk_cell BK1080.out 0).trans rfl, (blk_cell BK1080.out 1).trans rfl, (blk_cell BK1068.out 0).trans rfl, (blk_cell BK1068.out 1).trans rfl, (blk_cell BK1086.out 0).trans rfl, (blk_cell BK1086.out 1).trans rfl, (blk_cell BK1099.out 0).trans rfl, (blk_cell BK1099.out 1).trans rfl⟩ (fun hHeld => ?_)
        clear hK K
        refine norm_ (a' := ?_) ?_ ?_
        rotate_left
        ·
         show Act.put _ (some 65) _ = _
         simp only [Act.put, List.setIfInBounds_toArray, List.set_cons_zero, List.set_cons_succ, i64_w, i32_w]
         rfl
        refine pure_ (i := 9) (N := some 66) (v := ?_) (a' := ?_) #[true, true, true, true, true, true, true, true, true, true, false, false, false, false, false, false, false, false, false, false, false, false, false, false, false, false, false, false, false, false, false, false, false, false, false, false, false, false, false, false, false, false, false] rfl rfl (any_of HT_.out (by kernel_rfl)) (fun _ _ _ h => h) (Or.inl ⟨by rfl, ?_⟩) ?_ ?_
        rotate_left
        ·
         intro w'
         go_simp
         with_reducible rfl
        rotate_left
        ·
         simp only [Act.put, List.setIfInBounds_toArray, List.set_cons_zero, List.set_cons_succ, i64_w, i32_w]
         rfl
        refine pure_ (i := 10) (N := some 67) (v := ?_) (a' := ?_) #[true, true, true, true, true, true, true, true, true, true, true, false, false, false, false, false, false, false, false, false, false, false, false, false, false, false, false, false, false, false, false, false, false, false, false, false, false, false, false, false, false, false, false] rfl rfl (any_of HT_.out (by kernel_rfl)) (fun _ _ _ h => h) (Or.inl ⟨by rfl, ?_⟩) ?_ ?_
        rotate_left
        ·
         intro w'
         go_simp
         with_reducible rfl
        rotate_left
        ·
         simp only [Act.put, List.setIfInBounds_toArray, List.set_cons_zero, List.set_cons_succ, i64_w, i32_w]
         rfl
        refine pure_ (i := 11) (N := some 68) (v := ?_) (a' := ?_) #[true, true, true, true, true, true, true, true, true, true, true, true, false, false, false, false, false, false, false, false, false, false, false, false, false, false, false, false, false, false, false, false, false, false, false, false, false, false, false, false, false, false, false] rfl rfl (any_of HT_.out (by kernel_rfl)) (fun _ _ _ h => h) (Or.inl ⟨by rfl, ?_⟩) ?_ ?_
        rotate_left
        ·
         intro w'
         go_simp
         with_reducible rfl
        rotate_left
        ·
         simp only [Act.put, List.setIfInBounds_toArray, List.set_cons_zero, List.set_cons_succ, i64_w, i32_w]
         rfl
        refine pure_ (i := 13) (N := some 70) (v := ?_) (a' := ?_) #[true, true, true, true, true, true, true, true, true, true, true, true, false, true, false, false, false, false, false, false, false, false, false, false, false, false, false, false, false, false, false, false, false, false, false, false, false, false, false, false, false, false, false] rfl rfl (any_of HT_.out (by kernel_rfl)) (fun _ _ _ h => h) (Or.inl ⟨by rfl, ?_⟩) ?_ ?_
        rotate_left
        ·
         intro w'
         go_simp
         with_reducible rfl
        rotate_left
        ·
         simp only [Act.put, List.setIfInBounds_toArray, List.set_cons_zero, List.set_cons_succ, i64_w, i32_w]
         rfl
        refine pure_ (i := 16) (N := some 73) (v := ?_) (a' := ?_) #[true, true, true, true, true, true, true, true, true, true, true, true, false, true, false, false, true, false, false, false, false, false, false, false, false, false, false, false, false, false, false, false, false, false, false, false, false, false, false, false, false, false, false] rfl rfl (any_of HT_.out (by kernel_rfl)) (fun _ _ _ h => h) (Or.inl ⟨by rfl, ?_⟩) ?_ ?_
        rotate_left
        ·
         intro w'
         go_simp
         with_reducible rfl
        rotate_left
        ·
         simp only [Act.put, List.setIfInBounds_toArray, List.set_cons_zero, List.set_cons_succ, i64_w, i32_w]
         rfl
        refine take_ (i := 12) (N := some 69) (v := ?_) (a' := ?_) #[true, true, true, true, true, true, true, true, true, true, true, true, true, true, false, false, true, false, false, false, false, false, false, false, false, false, false, false, false, false, false, false, false, false, false, false, false, false, false, false, false, false, false] rfl rfl (take_ofW HT_.out HW_.out (by kernel_rfl)) (fun _ _ _ h => h) (Or.inl ⟨by rfl, ?_⟩) hHeld ?_ ?_
        rotate_left
        ·
         rintro w' ⟨s0, s1, s2, s3, s4, s5, s6, s7⟩
         go_simp
         with_reducible rfl
        rotate_left
        ·
         simp only [Act.put, List.setIfInBounds_toArray, List.set_cons_zero, List.set_cons_succ, i64_w, i32_w]
         rfl
        refine take_ (i := 15) (N := some 72) (v := ?_) (a' := ?_) #[true, true, true, true, true, true, true, true, true, true, true, true, true, true, false, true, true, false, false, false, false, false, false, false, false, false, false, false, false, false, false, false, false, false, false, false, false, false, false, false, false, false, false] rfl rfl (take_ofW HT_.out HW_.out (by kernel_rfl)) (fun _ _ _ h => h) (Or.inl ⟨by rfl, ?_⟩) hHeld ?_ ?_
        rotate_left
        ·
         rintro w' ⟨s0, s1, s2, s3, s4, s5, s6, s7⟩
         go_simp
         with_reducible rfl
        rotate_left
        ·
         simp only [Act.put, List.setIfInBounds_toArray, List.set_cons_zero, List.set_cons_succ, i64_w, i32_w]
         rfl
        refine one_ (i := 14) (N := some 71) #[true, true, true, true, true, true, true, true, true, true, true, true, true, true, true, true, true, false, false, false, false, false, false, false, false, false, false, false, false, false, false, false, false, false, false, false, false, false, false, false, false, false, false] rfl rfl (one_of HT_.out (by kernel_rfl)) (by decide) (fun K hK => ?_)
        refine goes_ Try.func67 (by kernel_rfl) rfl #[.agg #[.string t1081, .slice Ao45 t1082.length co45], .string a1] (by rfl) rfl rfl (by (try simp only [List.map_toArray, List.map_cons, List.map_nil]); first | done | rfl | (simp only [List.length_drop, List.length_take]; rfl)) ?_
        with_reducible refine (classes_Has.calls k t1081 _ _ t1082 a1 t1102 _ ?side1 ?side2 A14.out).mono ?_
        (case side1 => repeat (first | exact (Kd.R_reads' HO1084.out).2.2 | (with_reducible refine Kd.C_alloc ?_ _) | (with_reducible refine Kd.C_drewN ?_ _) | (with_reducible refine Kd.C_drew ?_)))
        (case side2 => exact (Kd.R_reads' HO1084.out).2.1)
        rintro e w60 ⟨rfl, hb⟩
        refine ⟨_, rfl, ?_⟩
        have n0_ := Aside0.mk (Kd.R_below (by (with_reducible repeat (first | apply Kd.R_alloc | apply Kd.R_drewN | apply Kd.R_drew)); exact HO1073.out) hb)
        have n1_ := Aside0.mk (Kd.R_below (by (with_reducible repeat (first | apply Kd.R_alloc | apply Kd.R_drewN | apply Kd.R_drew)); exact HO1078.out) hb)
        have n2_ := Aside0.mk (Kd.R_below (by (with_reducible repeat (first | apply Kd.R_alloc | apply Kd.R_drewN | apply Kd.R_drew)); exact HO1084.out) hb)
        have n3_ := Aside0.mk (Kd.R_below (by (with_reducible repeat (first | apply Kd.R_alloc | apply Kd.R_drewN | apply Kd.R_drew)); exact HO1097.out) hb)
        have n4_ := Aside0.mk (blk_below (g := gb1068) (o := .cells #[.string a0_0, .slice A0_1 l0_1.length c0_1] 24 (0, 0)) (by (with_reducible repeat (first | refine blk_drewN ?_ _ | refine blk_drew ?_ | refine blk_alloc ?_ _)); exact BK1068.out) hb)
        have n5_ := Aside0.mk (blk_below (g := gb1074) (o := .cells #[.string t1070, .slice Ao30 t1071.length co30] 24 (0, 0)) (by (with_reducible repeat (first | refine blk_drewN ?_ _ | refine blk_drew ?_ | refine blk_alloc ?_ _)); exact BK1074.out) hb)
        have n6_ := Aside0.mk (blk_below (g := gb1080) (o := .cells #[.string t1075, .slice Ao37 t1076.length co37] 24 (0, 0)) (by (with_reducible repeat (first | refine blk_drewN ?_ _ | refine blk_drew ?_ | refine blk_alloc ?_ _)); exact BK1080.out) hb)
        have n7_ := Aside0.mk (blk_below (g := gb1086) (o := .cells #[.string t1081, .slice Ao45 t1082.length co45] 24 (0, 0)) (by (with_reducible repeat (first | refine blk_drewN ?_ _ | refine blk_drew ?_ | refine blk_alloc ?_ _)); exact BK1086.out) hb)
        have n8_ := Aside0.mk (blk_below (g := gb1099) (o := .cells #[.string t1094, .slice Ao55 t1095.length co55] 24 (0, 0)) (by (with_reducible repeat (first | refine blk_drewN ?_ _ | refine blk_drew ?_ | refine blk_alloc ?_ _)); exact BK1099.out) hb)
        have n9_ := Aside0.mk (below_step (by repeat (first | (with_reducible first | exact HB.out | apply below_alloc | apply pw_below_drewN | apply below_drew1 | refine below_set ?_ GE1068.out | refine below_set ?_ GE1074.out | refine below_set ?_ GE1080.out | refine below_set ?_ GE1086.out | refine below_set ?_ GE1099.out) | exact HB.out)) hb)
        clear HO1073
        clear HO1078
        clear HO1084
        clear HO1097
        clear BK1068
        clear BK1074
        clear BK1080
        clear BK1086
        clear BK1099
        clear HB
        have HO1073 := n0_
        have HO1078 := n1_
        have HO1084 := n2_
        have HO1097 := n3_
        have BK1068 := n4_
        have BK1074 := n5_
        have BK1080 := n6_
        have BK1086 := n7_
        have BK1099 := n8_
        have HB := n9_
        clear n0_ n1_ n2_ n3_ n4_ n5_ n6_ n7_ n8_ n9_
        (try clear hb)
        (try clear hb2)
        (try clear hk)
        (try clear hi)
        refine hK.out _ _ ⟨(blk_cell BK1080.out 0).trans rfl, (blk_cell BK1080.out 1).trans rfl, (blk_cell BK1068.out 0).trans rfl, (blk_cell BK1068.out 1).trans rfl, (blk_cell BK1086.out 0).trans rfl, (blk_cell BK1086.out 1).trans rfl, (blk_cell BK1099.out 0).trans rfl, (blk_cell BK1099.out 1).trans rfl⟩ (fun hHeld => ?_)
        clear hK K
        refine norm_ (a' := ?_) ?_ ?_
        rotate_left
        ·
         show Act.put _ (some 71) _ = _
         simp only [Act.put, List.setIfInBounds_toArray, List.set_cons_zero, List.set_cons_succ, i64_w, i32_w]
         rfl
        refine one_ (i := 17) (N := some 74) #[true, true, true, true, true, true, true, true, true, true, true, true, true, true, true, true, true, true, false, false, false, false, false, false, false, false, false, false, false, false, false, false, false, false, false, false, false, false, false, false, false, false, false] rfl rfl (one_of HT_.out (by kernel_rfl)) (by decide) (fun K hK => ?_)
        refine goes_ Try.func67 (by kernel_rfl) rfl #[.agg #[.string a0_0, .slice A0_1 l0_1.length c0_1], .string a1] (by rfl) rfl rfl (by (try simp only [List.map_toArray, List.map_cons, List.map_nil]); first | done | rfl | (simp only [List.length_drop, List.length_take]; rfl)) ?_
        with_reducible refine (classes_Has.calls k a0_0 _ _ l0_1 a1 t1103 _ ?side1 ?side2 A15.out).mono ?_
        (case side1 => repeat (first | exact (Kd.C_below HR0_1.out HB.out) | (with_reducible refine Kd.C_alloc ?_ _) | (with_reducible refine Kd.C_drewN ?_ _) | (with_reducible refine Kd.C_drew ?_)))
        (case side2 => exact HC0_1.out)
        rintro e w61 ⟨rfl, hb⟩
        refine ⟨_, rfl, ?_⟩
        have n0_ := Aside0.mk (Kd.R_below (by (with_reducible repeat (first | apply Kd.R_alloc | apply Kd.R_drewN | apply Kd.R_drew)); exact HO1073.out) hb)
        have n1_ := Aside0.mk (Kd.R_below (by (with_reducible repeat (first | apply Kd.R_alloc | apply Kd.R_drewN | apply Kd.R_drew)); exact HO1078.out) hb)
        have n2_ := Aside0.mk (Kd.R_below (by (with_reducible repeat (first | apply Kd.R_alloc | apply Kd.R_drewN | apply Kd.R_drew)); exact HO1084.out) hb)
        have n3_ := Aside0.mk (Kd.R_below (by (with_reducible repeat (first | apply Kd.R_alloc | apply Kd.R_drewN | apply Kd.R_drew)); exact HO1097.out) hb)
        have n4_ := Aside0.mk (blk_below (g := gb1068) (o := .cells #[.string a0_0, .slice A0_1 l0_1.length c0_1] 24 (0, 0)) (by (with_reducible repeat (first | refine blk_drewN ?_ _ | refine blk_drew ?_ | refine blk_alloc ?_ _)); exact BK1068.out) hb)
        have n5_ := Aside0.mk (blk_below (g := gb1074) (o := .cells #[.string t1070, .slice Ao30 t1071.length co30] 24 (0, 0)) (by (with_reducible repeat (first | refine blk_drewN ?_ _ | refine blk_drew ?_ | refine blk_alloc ?_ _)); exact BK1074.out) hb)
        have n6_ := Aside0.mk (blk_below (g := gb1080) (o := .cells #[.string t1075, .slice Ao37 t1076.length co37] 24 (0, 0)) (by (with_reducible repeat (first | refine blk_drewN ?_ _ | refine blk_drew ?_ | refine blk_alloc ?_ _)); exact BK1080.out) hb)
        have n7_ := Aside0.mk (blk_below (g := gb1086) (o := .cells #[.string t1081, .slice Ao45 t1082.length co45] 24 (0, 0)) (by (with_reducible repeat (first | refine blk_drewN ?_ _ | refine blk_drew ?_ | refine blk_alloc ?_ _)); exact BK1086.out) hb)
        have n8_ := Aside0.mk (blk_below (g := gb1099) (o := .cells #[.string t1094, .slice Ao55 t1095.length co55] 24 (0, 0)) (by (with_reducible repeat (first | refine blk_drewN ?_ _ | refine blk_drew ?_ | refine blk_alloc ?_ _)); exact BK1099.out) hb)
        have n9_ := Aside0.mk (below_step (by repeat (first | (with_reducible first | exact HB.out | apply below_alloc | apply pw_below_drewN | apply below_drew1 | refine below_set ?_ GE1068.out | refine below_set ?_ GE1074.out | refine below_set ?_ GE1080.out | refine below_set ?_ GE1086.out | refine below_set ?_ GE1099.out) | exact HB.out)) hb)
        clear HO1073
        clear HO1078
        clear HO1084
        clear HO1097
        clear BK1068
        clear BK1074
        clear BK1080
        clear BK1086
        clear BK1099
        clear HB
        have HO1073 := n0_
        have HO1078 := n1_
        have HO1084 := n2_
        have HO1097 := n3_
        have BK1068 := n4_
        have BK1074 := n5_
        have BK1080 := n6_
        have BK1086 := n7_
        have BK1099 := n8_
        have HB := n9_
        clear n0_ n1_ n2_ n3_ n4_ n5_ n6_ n7_ n8_ n9_
        (try clear hb)
        (try clear hb2)
        (try clear hk)
        (try clear hi)
        refine hK.out _ _ ⟨(blk_cell BK1080.out 0).trans rfl, (blk_cell BK1080.out 1).trans rfl, (blk_cell BK1068.out 0).trans rfl, (blk_cell BK1068.out 1).trans rfl, (blk_cell BK1086.out 0).trans rfl, (blk_cell BK1086.out 1).trans rfl, (blk_cell BK1099.out 0).trans rfl, (blk_cell BK1099.out 1).trans rfl⟩ (fun hHeld => ?_)
        clear hK K
        refine norm_ (a' := ?_) ?_ ?_
        rotate_left
        ·
         show Act.put _ (some 74) _ = _
         simp only [Act.put, List.setIfInBounds_toArray, List.set_cons_zero, List.set_cons_succ, i64_w, i32_w]
         rfl
        refine pure_ (i := 18) (N := some 75) (v := ?_) (a' := ?_) #[true, true, true, true, true, true, true, true, true, true, true, true, true, true, true, true, true, true, true, false, false, false, false, false, false, false, false, false, false, false, false, false, false, false, false, false, false, false, false, false, false, false, false] rfl rfl (any_of HT_.out (by kernel_rfl)) (fun _ _ _ h => h) (Or.inl ⟨by rfl, ?_⟩) ?_ ?_
        rotate_left
        ·
         intro w'
         go_simp
         with_reducible rfl
        rotate_left
        ·
         simp only [Act.put, List.setIfInBounds_toArray, List.set_cons_zero, List.set_cons_succ, i64_w, i32_w]
         rfl
        refine pure_ (i := 19) (N := some 76) (v := ?_) (a' := ?_) #[true, true, true, true, true, true, true, true, true, true, true, true, true, true, true, true, true, true, true, true, false, false, false, false, false, false, false, false, false, false, false, false, false, false, false, false, false, false, false, false, false, false, false] rfl rfl (any_of HT_.out (by kernel_rfl)) (fun _ _ _ h => h) (Or.inl ⟨by rfl, ?_⟩) ?_ ?_
        rotate_left
        ·
         intro w'
         go_simp
         with_reducible rfl
        rotate_left
        ·
         simp only [Act.put, List.setIfInBounds_toArray, List.set_cons_zero, List.set_cons_succ, i64_w, i32_w]
         rfl
        refine pure_ (i := 20) (N := some 77) (v := ?_) (a' := ?_) #[true, true, true, true, true, true, true, true, true, true, true, true, true, true, true, true, true, true, true, true, true, false, false, false, false, false, false, false, false, false, false, false, false, false, false, false, false, false, false, false, false, false, false] rfl rfl (any_of HT_.out (by kernel_rfl)) (fun _ _ _ h => h) (Or.inl ⟨by rfl, ?_⟩) ?_ ?_
        rotate_left
        ·
         intro w'
         go_simp
         with_reducible rfl
        rotate_left
        ·
         simp only [Act.put, List.setIfInBounds_toArray, List.set_cons_zero, List.set_cons_succ, i64_w, i32_w]
         rfl
        refine pure_ (i := 22) (N := some 79) (v := ?_) (a' := ?_) #[true, true, true, true, true, true, true, true, true, true, true, true, true, true, true, true, true, true, true, true, true, false, true, false, false, false, false, false, false, false, false, false, false, false, false, false, false, false, false, false, false, false, false] rfl rfl (any_of HT_.out (by kernel_rfl)) (fun _ _ _ h => h) (Or.inl ⟨by rfl, ?_⟩) ?_ ?_
        rotate_left
        ·
         intro w'
         go_simp
         with_reducible rfl
        rotate_left
        ·
         simp only [Act.put, List.setIfInBounds_toArray, List.set_cons_zero, List.set_cons_succ, i64_w, i32_w]
         rfl
        refine take_ (i := 21) (N := some 78) (v := ?_) (a' := ?_) #[true, true, true, true, true, true, true, true, true, true, true, true, true, true, true, true, true, true, true, true, true, true, true, false, false, false, false, false, false, false, false, false, false, false, false, false, false, false, false, false, false, false, false] rfl rfl (take_ofW HT_.out HW_.out (by kernel_rfl)) (fun _ _ _ h => h) (Or.inl ⟨by rfl, ?_⟩) hHeld ?_ ?_
        rotate_left
        ·
         rintro w' ⟨s0, s1, s2, s3, s4, s5, s6, s7⟩
         go_simp
         with_reducible rfl
        rotate_left
        ·
         simp only [Act.put, List.setIfInBounds_toArray, List.set_cons_zero, List.set_cons_succ, i64_w, i32_w]
         rfl
        refine one_ (i := 23) (N := some 80) #[true, true, true, true, true, true, true, true, true, true, true, true, true, true, true, true, true, true, true, true, true, true, true, true, false, false, false, false, false, false, false, false, false, false, false, false, false, false, false, false, false, false, false] rfl rfl (one_of HT_.out (by kernel_rfl)) (by decide) (fun K hK => ?_)
        refine goes_ Try.func67 (by kernel_rfl) rfl #[.agg #[.string t1094, .slice Ao55 t1095.length co55], .string a1] (by rfl) rfl rfl (by (try simp only [List.map_toArray, List.map_cons, List.map_nil]); first | done | rfl | (simp only [List.length_drop, List.length_take]; rfl)) ?_
        with_reducible refine (classes_Has.calls k t1094 _ _ t1095 a1 true _ ?side1 ?side2 A17.out).mono ?_
        (case side1 => repeat (first | exact (Kd.R_reads' HO1097.out).2.2 | (with_reducible refine Kd.C_alloc ?_ _) | (with_reducible refine Kd.C_drewN ?_ _) | (with_reducible refine Kd.C_drew ?_)))
        (case side2 => exact (Kd.R_reads' HO1097.out).2.1)
        rintro e w62 ⟨rfl, hb⟩
        refine ⟨_, rfl, ?_⟩
        have n0_ := Aside0.mk (Kd.R_below (by (with_reducible repeat (first | apply Kd.R_alloc | apply Kd.R_drewN | apply Kd.R_drew)); exact HO1073.out) hb)
        have n1_ := Aside0.mk (Kd.R_below (by (with_reducible repeat (first | apply Kd.R_alloc | apply Kd.R_drewN | apply Kd.R_drew)); exact HO1078.out) hb)
        have n2_ := Aside0.mk (Kd.R_below (by (with_reducible repeat (first | apply Kd.R_alloc | apply Kd.R_drewN | apply Kd.R_drew)); exact HO1084.out) hb)
        have n3_ := Aside0.mk (Kd.R_below (by (with_reducible repeat (first | apply Kd.R_alloc | apply Kd.R_drewN | apply Kd.R_drew)); exact HO1097.out) hb)
        have n4_ := Aside0.mk (blk_below (g := gb1068) (o := .cells #[.string a0_0, .slice A0_1 l0_1.length c0_1] 24 (0, 0)) (by (with_reducible repeat (first | refine blk_drewN ?_ _ | refine blk_drew ?_ | refine blk_alloc ?_ _)); exact BK1068.out) hb)
        have n5_ := Aside0.mk (blk_below (g := gb1074) (o := .cells #[.string t1070, .slice Ao30 t1071.length co30] 24 (0, 0)) (by (with_reducible repeat (first | refine blk_drewN ?_ _ | refine blk_drew ?_ | refine blk_alloc ?_ _)); exact BK1074.out) hb)
        have n6_ := Aside0.mk (blk_below (g := gb1080) (o := .cells #[.string t1075, .slice Ao37 t1076.length co37] 24 (0, 0)) (by (with_reducible repeat (first | refine blk_drewN ?_ _ | refine blk_drew ?_ | refine blk_alloc ?_ _)); exact BK1080.out) hb)
        have n7_ := Aside0.mk (blk_below (g := gb1086) (o := .cells #[.string t1081, .slice Ao45 t1082.length co45] 24 (0, 0)) (by (with_reducible repeat (first | refine blk_drewN ?_ _ | refine blk_drew ?_ | refine blk_alloc ?_ _)); exact BK1086.out) hb)
        have n8_ := Aside0.mk (blk_below (g := gb1099) (o := .cells #[.string t1094, .slice Ao55 t1095.length co55] 24 (0, 0)) (by (with_reducible repeat (first | refine blk_drewN ?_ _ | refine blk_drew ?_ | refine blk_alloc ?_ _)); exact BK1099.out) hb)
        have n9_ := Aside0.mk (below_step (by repeat (first | (with_reducible first | exact HB.out | apply below_alloc | apply pw_below_drewN | apply below_drew1 | refine below_set ?_ GE1068.out | refine below_set ?_ GE1074.out | refine below_set ?_ GE1080.out | refine below_set ?_ GE1086.out | refine below_set ?_ GE1099.out) | exact HB.out)) hb)
        clear HO1073
        clear HO1078
        clear HO1084
        clear HO1097
        clear BK1068
        clear BK1074
        clear BK1080
        clear BK1086
        clear BK1099
        clear HB
        have HO1073 := n0_
        have HO1078 := n1_
        have HO1084 := n2_
        have HO1097 := n3_
        have BK1068 := n4_
        have BK1074 := n5_
        have BK1080 := n6_
        have BK1086 := n7_
        have BK1099 := n8_
        have HB := n9_
        clear n0_ n1_ n2_ n3_ n4_ n5_ n6_ n7_ n8_ n9_
        (try clear hb)
        (try clear hb2)
        (try clear hk)
        (try clear hi)
        refine hK.out _ _ ⟨(blk_cell BK1080.out 0).trans rfl, (blk_cell BK1080.out 1).trans rfl, (blk_cell BK1068.out 0).trans rfl, (blk_cell BK1068.out 1).trans rfl, (blk_cell BK1086.out 0).trans rfl, (blk_cell BK1086.out 1).trans rfl, (blk_cell BK1099.out 0).trans rfl, (blk_cell BK1099.out 1).trans rfl⟩ (fun hHeld => ?_)
        clear hK K
        refine norm_ (a' := ?_) ?_ ?_
        rotate_left
        ·
         show Act.put _ (some 80) _ = _
         simp only [Act.put, List.setIfInBounds_toArray, List.set_cons_zero, List.set_cons_succ, i64_w, i32_w]
         rfl
        refine pure_ (i := 24) (N := some 81) (v := ?_) (a' := ?_) #[true, true, true, true, true, true, true, true, true, true, true, true, true, true, true, true, true, true, true, true, true, true, true, true, true, false, false, false, false, false, false, false, false, false, false, false, false, false, false, false, false, false, false] rfl rfl (any_of HT_.out (by kernel_rfl)) (fun _ _ _ h => h) (Or.inl ⟨by rfl, ?_⟩) ?_ ?_
        rotate_left
        ·
         intro w'
         go_simp
         with_reducible rfl
        rotate_left
        ·
         simp only [Act.put, List.setIfInBounds_toArray, List.set_cons_zero, List.set_cons_succ, i64_w, i32_w]
         rfl
        refine pure_ (i := 25) (N := some 82) (v := ?_) (a' := ?_) #[true, true, true, true, true, true, true, true, true, true, true, true, true, true, true, true, true, true, true, true, true, true, true, true, true, true, false, false, false, false, false, false, false, false, false, false, false, false, false, false, false, false, false] rfl rfl (any_of HT_.out (by kernel_rfl)) (fun _ _ _ h => h) (Or.inl ⟨by rfl, ?_⟩) ?_ ?_
        rotate_left
        ·
         intro w'
         go_simp
         with_reducible rfl
        rotate_left
        ·
         simp only [Act.put, List.setIfInBounds_toArray, List.set_cons_zero, List.set_cons_succ, i64_w, i32_w]
         rfl
        refine pure_ (i := 27) (N := some 84) (v := ?_) (a' := ?_) #[true, true, true, true, true, true, true, true, true, true, true, true, true, true, true, true, true, true, true, true, true, true, true, true, true, true, false, true, false, false, false, false, false, false, false, false, false, false, false, false, false, false, false] rfl rfl (any_of HT_.out (by kernel_rfl)) (fun _ _ _ h => h) (Or.inl ⟨by rfl, ?_⟩) ?_ ?_
        rotate_left
        ·
         intro w'
         go_simp
         with_reducible rfl
        rotate_left
        ·
         simp only [Act.put, List.setIfInBounds_toArray, List.set_cons_zero, List.set_cons_succ, i64_w, i32_w]
         rfl
        refine pure_ (i := 29) (N := some 86) (v := ?_) (a' := ?_) #[true, true, true, true, true, true, true, true, true, true, true, true, true, true, true, true, true, true, true, true, true, true, true, true, true, true, false, true, false, true, false, false, false, false, false, false, false, false, false, false, false, false, false] rfl rfl (any_of HT_.out (by kernel_rfl)) (fun _ _ _ h => h) (Or.inl ⟨by rfl, ?_⟩) ?_ ?_
        rotate_left
        ·
         intro w'
         go_simp
         with_reducible rfl
        rotate_left
        ·
         simp only [Act.put, List.setIfInBounds_toArray, List.set_cons_zero, List.set_cons_succ, i64_w, i32_w]
         rfl
        refine take_ (i := 26) (N := some 83) (v := ?_) (a' := ?_) #[true, true, true, true, true, true, true, true, true, true, true, true, true, true, true, true, true, true, true, true, true, true, true, true, true, true, true, true, false, true, false, false, false, false, false, false, false, false, false, false, false, false, false] rfl rfl (take_ofW HT_.out HW_.out (by kernel_rfl)) (fun _ _ _ h => h) (Or.inl ⟨by rfl, ?_⟩) hHeld ?_ ?_
        rotate_left
        ·
         rintro w' ⟨s0, s1, s2, s3, s4, s5, s6, s7⟩
         go_simp
         with_reducible rfl
        rotate_left
        ·
         simp only [Act.put, List.setIfInBounds_toArray, List.set_cons_zero, List.set_cons_succ, i64_w, i32_w]
         rfl
        refine one_ (i := 28) (N := some 85) #[true, true, true, true, true, true, true, true, true, true, true, true, true, true, true, true, true, true, true, true, true, true, true, true, true, true, true, true, true, true, false, false, false, false, false, false, false, false, false, false, false, false, false] rfl rfl (one_of HT_.out (by kernel_rfl)) (by decide) (fun K hK => ?_)
        refine goes_ Try.func68 (by kernel_rfl) rfl #[.agg #[.string a0_0, .slice A0_1 l0_1.length c0_1], .string a1] (by rfl) rfl rfl (by (try simp only [List.map_toArray, List.map_cons, List.map_nil]); first | done | rfl | (simp only [List.length_drop, List.length_take]; rfl)) ?_
        with_reducible refine (classes_Drop.calls k a0_0 _ _ l0_1 a1 t1105 t1106 _ ?side1 ?side2 A19.out).mono ?_
        (case side1 => repeat (first | exact (Kd.C_below HR0_1.out HB.out) | (with_reducible refine Kd.C_alloc ?_ _) | (with_reducible refine Kd.C_drewN ?_ _) | (with_reducible refine Kd.C_drew ?_)))
        (case side2 => exact HC0_1.out)
        rintro e w63 ⟨v1107, rfl, ho0, hb⟩
        refine ⟨_, rfl, ?_⟩
        have n0_ := Aside0.mk (Kd.R_elder' (by (with_reducible repeat (first | apply Kd.R_alloc | apply Kd.R_drewN | apply Kd.R_drew)); exact HO1073.out) (Kd.R_base ho0) hb)
        have n1_ := Aside0.mk (Kd.R_elder' (by (with_reducible repeat (first | apply Kd.R_alloc | apply Kd.R_drewN | apply Kd.R_drew)); exact HO1078.out) (Kd.R_base ho0) hb)
        have n2_ := Aside0.mk (Kd.R_elder' (by (with_reducible repeat (first | apply Kd.R_alloc | apply Kd.R_drewN | apply Kd.R_drew)); exact HO1084.out) (Kd.R_base ho0) hb)
        have n3_ := Aside0.mk (Kd.R_elder' (by (with_reducible repeat (first | apply Kd.R_alloc | apply Kd.R_drewN | apply Kd.R_drew)); exact HO1097.out) (Kd.R_base ho0) hb)
        have n4_ := Aside0.mk (Kd.R_lower (Kd.R_new' (Kd.R_new' (Kd.R_new' (Kd.R_new' ho0 (Kd.R_lt (by (with_reducible repeat (first | apply Kd.R_alloc | apply Kd.R_drewN | apply Kd.R_drew)); exact HO1073.out))) (Kd.R_lt (by (with_reducible repeat (first | apply Kd.R_alloc | apply Kd.R_drewN | apply Kd.R_drew)); exact HO1078.out))) (Kd.R_lt (by (with_reducible repeat (first | apply Kd.R_alloc | apply Kd.R_drewN | apply Kd.R_drew)); exact HO1084.out))) (Kd.R_lt (by (with_reducible repeat (first | apply Kd.R_alloc | apply Kd.R_drewN | apply Kd.R_drew)); exact HO1097.out))) (below_size (by repeat (first | (with_reducible first | exact HB.out | apply below_alloc | apply pw_below_drewN | apply below_drew1 | refine below_set ?_ GE1068.out | refine below_set ?_ GE1074.out | refine below_set ?_ GE1080.out | refine below_set ?_ GE1086.out | refine below_set ?_ GE1099.out) | exact HB.out))))
        have n5_ := Aside0.mk (blk_below (g := gb1068) (o := .cells #[.string a0_0, .slice A0_1 l0_1.length c0_1] 24 (0, 0)) (by (with_reducible repeat (first | refine blk_drewN ?_ _ | refine blk_drew ?_ | refine blk_alloc ?_ _)); exact BK1068.out) hb)
        have n6_ := Aside0.mk (blk_below (g := gb1074) (o := .cells #[.string t1070, .slice Ao30 t1071.length co30] 24 (0, 0)) (by (with_reducible repeat (first | refine blk_drewN ?_ _ | refine blk_drew ?_ | refine blk_alloc ?_ _)); exact BK1074.out) hb)
        have n7_ := Aside0.mk (blk_below (g := gb1080) (o := .cells #[.string t1075, .slice Ao37 t1076.length co37] 24 (0, 0)) (by (with_reducible repeat (first | refine blk_drewN ?_ _ | refine blk_drew ?_ | refine blk_alloc ?_ _)); exact BK1080.out) hb)
        have n8_ := Aside0.mk (blk_below (g := gb1086) (o := .cells #[.string t1081, .slice Ao45 t1082.length co45] 24 (0, 0)) (by (with_reducible repeat (first | refine blk_drewN ?_ _ | refine blk_drew ?_ | refine blk_alloc ?_ _)); exact BK1086.out) hb)
        have n9_ := Aside0.mk (blk_below (g := gb1099) (o := .cells #[.string t1094, .slice Ao55 t1095.length co55] 24 (0, 0)) (by (with_reducible repeat (first | refine blk_drewN ?_ _ | refine blk_drew ?_ | refine blk_alloc ?_ _)); exact BK1099.out) hb)
        have n10_ := Aside0.mk (below_step (by repeat (first | (with_reducible first | exact HB.out | apply below_alloc | apply pw_below_drewN | apply below_drew1 | refine below_set ?_ GE1068.out | refine below_set ?_ GE1074.out | refine below_set ?_ GE1080.out | refine below_set ?_ GE1086.out | refine below_set ?_ GE1099.out) | exact HB.out)) hb)
        clear HO1073
        clear HO1078
        clear HO1084
        clear HO1097
        clear BK1068
        clear BK1074
        clear BK1080
        clear BK1086
        clear BK1099
        clear HB
        have HO1073 := n0_
        have HO1078 := n1_
        have HO1084 := n2_
        have HO1097 := n3_
        have HO1108 := n4_
        have BK1068 := n5_
        have BK1074 := n6_
        have BK1080 := n7_
        have BK1086 := n8_
        have BK1099 := n9_
        have HB := n10_
        clear n0_ n1_ n2_ n3_ n4_ n5_ n6_ n7_ n8_ n9_ n10_
        (try clear hb)
        (try clear hb2)
        (try clear hk)
        (try clear hi)
        (try clear ho0)
        obtain ⟨Ao64, co64, eo64⟩ := Kd.R_slice HO1108.out
        (first | subst eo64 | (injection eo64 with f1_ f2_ f3_; have f4_ := f1_.symm; have f5_ := f3_.symm; clear f1_ f2_ f3_; subst f4_; subst f5_))
        refine hK.out _ _ ⟨(blk_cell BK1080.out 0).trans rfl, (blk_cell BK1080.out 1).trans rfl, (blk_cell BK1068.out 0).trans rfl, (blk_cell BK1068.out 1).trans rfl, (blk_cell BK1086.out 0).trans rfl, (blk_cell BK1086.out 1).trans rfl, (blk_cell BK1099.out 0).trans rfl, (blk_cell BK1099.out 1).trans rfl⟩ (fun hHeld => ?_)
        clear hK K
        refine norm_ (a' := ?_) ?_ ?_
        rotate_left
        ·
         show Act.put _ (some 85) _ = _
         simp only [Act.put, List.setIfInBounds_toArray, List.set_cons_zero, List.set_cons_succ, i64_w, i32_w]
         rfl
        refine one_ (i := 30) (N := some 87) #[true, true, true, true, true, true, true, true, true, true, true, true, true, true, true, true, true, true, true, true, true, true, true, true, true, true, true, true, true, true, true, false, false, false, false, false, false, false, false, false, false, false, false] rfl rfl (one_of HT_.out (by kernel_rfl)) (by decide) (fun K hK => ?_)
        refine goes_ Try.func67 (by kernel_rfl) rfl #[.agg #[.string t1105, .slice Ao64 t1106.length co64], .string a1] (by rfl) rfl rfl (by (try simp only [List.map_toArray, List.map_cons, List.map_nil]); first | done | rfl | (simp only [List.length_drop, List.length_take]; rfl)) ?_
        with_reducible refine (classes_Has.calls k t1105 _ _ t1106 a1 false _ ?side1 ?side2 A20.out).mono ?_
        (case side1 => repeat (first | exact (Kd.R_reads' HO1108.out).2.2 | (with_reducible refine Kd.C_alloc ?_ _) | (with_reducible refine Kd.C_drewN ?_ _) | (with_reducible refine Kd.C_drew ?_)))
        (case side2 => exact (Kd.R_reads' HO1108.out).2.1)
        rintro e w65 ⟨rfl, hb⟩
        refine ⟨_, rfl, ?_⟩
        have n0_ := Aside0.mk (Kd.R_below (by (with_reducible repeat (first | apply Kd.R_alloc | apply Kd.R_drewN | apply Kd.R_drew)); exact HO1073.out) hb)
        have n1_ := Aside0.mk (Kd.R_below (by (with_reducible repeat (first | apply Kd.R_alloc | apply Kd.R_drewN | apply Kd.R_drew)); exact HO1078.out) hb)
        have n2_ := Aside0.mk (Kd.R_below (by (with_reducible repeat (first | apply Kd.R_alloc | apply Kd.R_drewN | apply Kd.R_drew)); exact HO1084.out) hb)
        have n3_ := Aside0.mk (Kd.R_below (by (with_reducible repeat (first | apply Kd.R_alloc | apply Kd.R_drewN | apply Kd.R_drew)); exact HO1097.out) hb)
        have n4_ := Aside0.mk (Kd.R_below (by (with_reducible repeat (first | apply Kd.R_alloc | apply Kd.R_drewN | apply Kd.R_drew)); exact HO1108.out) hb)
        have n5_ := Aside0.mk (blk_below (g := gb1068) (o := .cells #[.string a0_0, .slice A0_1 l0_1.length c0_1] 24 (0, 0)) (by (with_reducible repeat (first | refine blk_drewN ?_ _ | refine blk_drew ?_ | refine blk_alloc ?_ _)); exact BK1068.out) hb)
        have n6_ := Aside0.mk (blk_below (g := gb1074) (o := .cells #[.string t1070, .slice Ao30 t1071.length co30] 24 (0, 0)) (by (with_reducible repeat (first | refine blk_drewN ?_ _ | refine blk_drew ?_ | refine blk_alloc ?_ _)); exact BK1074.out) hb)
        have n7_ := Aside0.mk (blk_below (g := gb1080) (o := .cells #[.string t1075, .slice Ao37 t1076.length co37] 24 (0, 0)) (by (with_reducible repeat (first | refine blk_drewN ?_ _ | refine blk_drew ?_ | refine blk_alloc ?_ _)); exact BK1080.out) hb)
        have n8_ := Aside0.mk (blk_below (g := gb1086) (o := .cells #[.string t1081, .slice Ao45 t1082.length co45] 24 (0, 0)) (by (with_reducible repeat (first | refine blk_drewN ?_ _ | refine blk_drew ?_ | refine blk_alloc ?_ _)); exact BK1086.out) hb)
        have n9_ := Aside0.mk (blk_below (g := gb1099) (o := .cells #[.string t1094, .slice Ao55 t1095.length co55] 24 (0, 0)) (by (with_reducible repeat (first | refine blk_drewN ?_ _ | refine blk_drew ?_ | refine blk_alloc ?_ _)); exact BK1099.out) hb)
        have n10_ := Aside0.mk (below_step (by repeat (first | (with_reducible first | exact HB.out | apply below_alloc | apply pw_below_drewN | apply below_drew1 | refine below_set ?_ GE1068.out | refine below_set ?_ GE1074.out | refine below_set ?_ GE1080.out | refine below_set ?_ GE1086.out | refine below_set ?_ GE1099.out) | exact HB.out)) hb)
        clear HO1073
        clear HO1078
        clear HO1084
        clear HO1097
        clear HO1108
        clear BK1068
        clear BK1074
        clear BK1080
        clear BK1086
        clear BK1099
        clear HB
        have HO1073 := n0_
        have HO1078 := n1_
        have HO1084 := n2_
        have HO1097 := n3_
        have HO1108 := n4_
        have BK1068 := n5_
        have BK1074 := n6_
        have BK1080 := n7_
        have BK1086 := n8_
        have BK1099 := n9_
        have HB := n10_
        clear n0_ n1_ n2_ n3_ n4_ n5_ n6_ n7_ n8_ n9_ n10_
        (try clear hb)
        (try clear hb2)
        (try clear hk)
        (try clear hi)
        refine hK.out _ _ ⟨(blk_cell BK1080.out 0).trans rfl, (blk_cell BK1080.out 1).trans rfl, (blk_cell BK1068.out 0).trans rfl, (blk_cell BK1068.out 1).trans rfl, (blk_cell BK1086.out 0).trans rfl, (blk_cell BK1086.out 1).trans rfl, (blk_cell BK1099.out 0).trans rfl, (blk_cell BK1099.out 1).trans rfl⟩ (fun hHeld => ?_)
        clear hK K
        refine norm_ (a' := ?_) ?_ ?_
        rotate_left
        ·
         show Act.put _ (some 87) _ = _
         simp only [Act.put, List.setIfInBounds_toArray, List.set_cons_zero, List.set_cons_succ, i64_w, i32_w]
         rfl
        refine pure_ (i := 31) (N := some 88) (v := ?_) (a' := ?_) #[true, true, true, true, true, true, true, true, true, true, true, true, true, true, true, true, true, true, true, true, true, true, true, true, true, true, true, true, true, true, true, true, false, false, false, false, false, false, false, false, false, false, false] rfl rfl (any_of HT_.out (by kernel_rfl)) (fun _ _ _ h => h) (Or.inl ⟨by rfl, ?_⟩) ?_ ?_
        rotate_left
        ·
         intro w'
         go_simp
         with_reducible rfl
        rotate_left
        ·
         simp only [Act.put, List.setIfInBounds_toArray, List.set_cons_zero, List.set_cons_succ, i64_w, i32_w]
         rfl
        refine pure_ (i := 32) (N := some 89) (v := ?_) (a' := ?_) #[true, true, true, true, true, true, true, true, true, true, true, true, true, true, true, true, true, true, true, true, true, true, true, true, true, true, true, true, true, true, true, true, true, false, false, false, false, false, false, false, false, false, false] rfl rfl (any_of HT_.out (by kernel_rfl)) (fun _ _ _ h => h) (Or.inl ⟨by rfl, ?_⟩) ?_ ?_
        rotate_left
        ·
         intro w'
         go_simp
         with_reducible rfl
        rotate_left
        ·
         simp only [Act.put, List.setIfInBounds_toArray, List.set_cons_zero, List.set_cons_succ, i64_w, i32_w]
         rfl
        refine pure_ (i := 33) (N := some 90) (v := ?_) (a' := ?_) #[true, true, true, true, true, true, true, true, true, true, true, true, true, true, true, true, true, true, true, true, true, true, true, true, true, true, true, true, true, true, true, true, true, true, false, false, false, false, false, false, false, false, false] rfl rfl (any_of HT_.out (by kernel_rfl)) (fun _ _ _ h => h) (Or.inl ⟨by rfl, ?_⟩) ?_ ?_
        rotate_left
        ·
         intro w'
         go_simp
         with_reducible rfl
        rotate_left
        ·
         simp only [Act.put, List.setIfInBounds_toArray, List.set_cons_zero, List.set_cons_succ, i64_w, i32_w]
         rfl
        refine take_ (i := 34) (N := some 91) (v := ?_) (a' := ?_) #[true, true, true, true, true, true, true, true, true, true, true, true, true, true, true, true, true, true, true, true, true, true, true, true, true, true, true, true, true, true, true, true, true, true, true, false, false, false, false, false, false, false, false] rfl rfl (take_ofW HT_.out HW_.out (by kernel_rfl)) (fun _ _ _ h => h) (Or.inl ⟨by rfl, ?_⟩) hHeld ?_ ?_
        rotate_left
        ·
         rintro w' ⟨s0, s1, s2, s3, s4, s5, s6, s7⟩
         go_simp
         with_reducible rfl
        rotate_left
        ·
         simp only [Act.put, List.setIfInBounds_toArray, List.set_cons_zero, List.set_cons_succ, i64_w, i32_w]
         rfl
        refine take_ (i := 37) (N := some 94) (v := ?_) (a' := ?_) #[true, true, true, true, true, true, true, true, true, true, true, true, true, true, true, true, true, true, true, true, true, true, true, true, true, true, true, true, true, true, true, true, true, true, true, false, false, true, false, false, false, false, false] rfl rfl (take_ofW HT_.out HW_.out (by kernel_rfl)) (fun _ _ _ h => h) (Or.inl ⟨by rfl, ?_⟩) hHeld ?_ ?_
        rotate_left
        ·
         rintro w' ⟨s0, s1, s2, s3, s4, s5, s6, s7⟩
         go_simp
         with_reducible rfl
        rotate_left
        ·
         simp only [Act.put, List.setIfInBounds_toArray, List.set_cons_zero, List.set_cons_succ, i64_w, i32_w]
         rfl
        refine one_ (i := 35) (N := some 92) #[true, true, true, true, true, true, true, true, true, true, true, true, true, true, true, true, true, true, true, true, true, true, true, true, true, true, true, true, true, true, true, true, true, true, true, true, false, true, false, false, false, false, false] rfl rfl (one_of HT_.out (by kernel_rfl)) (by decide) (fun K hK => ?_)
        refine goes_ Try.func69 (by kernel_rfl) rfl #[.agg #[.string t1081, .slice Ao45 t1082.length co45]] (by rfl) rfl rfl (by (try simp only [List.map_toArray, List.map_cons, List.map_nil]); first | done | rfl | (simp only [List.length_drop, List.length_take]; rfl)) ?_
        with_reducible refine (classes_Words.calls k t1081 _ _ t1082 t1110 _ ?side1 ?side2 A22.out).mono ?_
        (case side1 => repeat (first | exact (Kd.R_reads' HO1084.out).2.2 | (with_reducible refine Kd.C_alloc ?_ _) | (with_reducible refine Kd.C_drewN ?_ _) | (with_reducible refine Kd.C_drew ?_)))
        (case side2 => exact (Kd.R_reads' HO1084.out).2.1)
        rintro e w66 ⟨v1111, rfl, ho0, hb⟩
        refine ⟨_, rfl, ?_⟩
        have n0_ := Aside0.mk (Kd.R_below (by (with_reducible repeat (first | apply Kd.R_alloc | apply Kd.R_drewN | apply Kd.R_drew)); exact HO1073.out) hb)
        have n1_ := Aside0.mk (Kd.R_below (by (with_reducible repeat (first | apply Kd.R_alloc | apply Kd.R_drewN | apply Kd.R_drew)); exact HO1078.out) hb)
        have n2_ := Aside0.mk (Kd.R_below (by (with_reducible repeat (first | apply Kd.R_alloc | apply Kd.R_drewN | apply Kd.R_drew)); exact HO1084.out) hb)
        have n3_ := Aside0.mk (Kd.R_below (by (with_reducible repeat (first | apply Kd.R_alloc | apply Kd.R_drewN | apply Kd.R_drew)); exact HO1097.out) hb)
        have n4_ := Aside0.mk (Kd.R_below (by (with_reducible repeat (first | apply Kd.R_alloc | apply Kd.R_drewN | apply Kd.R_drew)); exact HO1108.out) hb)
        have n5_ := Aside0.mk (Kd.N_lower (Kd.N_mono (ok' := fun k_ => some k_ ≠ (.slice Ao30 t1071.length co30 : Value).ownBlock ∧ some k_ ≠ (.slice Ao37 t1076.length co37 : Value).ownBlock ∧ some k_ ≠ (.slice Ao45 t1082.length co45 : Value).ownBlock ∧ some k_ ≠ (.slice Ao55 t1095.length co55 : Value).ownBlock ∧ some k_ ≠ (.slice Ao64 t1106.length co64 : Value).ownBlock ∧ k_ ≠ gb1068 ∧ k_ ≠ gb1074 ∧ k_ ≠ gb1080 ∧ k_ ≠ gb1086 ∧ k_ ≠ gb1099) ho0 (fun k_ hk_ => ⟨(Kd.fresh' (Kd.R_lt (by (with_reducible repeat (first | apply Kd.R_alloc | apply Kd.R_drewN | apply Kd.R_drew)); exact HO1073.out)) k_ hk_), (Kd.fresh' (Kd.R_lt (by (with_reducible repeat (first | apply Kd.R_alloc | apply Kd.R_drewN | apply Kd.R_drew)); exact HO1078.out)) k_ hk_), (Kd.fresh' (Kd.R_lt (by (with_reducible repeat (first | apply Kd.R_alloc | apply Kd.R_drewN | apply Kd.R_drew)); exact HO1084.out)) k_ hk_), (Kd.fresh' (Kd.R_lt (by (with_reducible repeat (first | apply Kd.R_alloc | apply Kd.R_drewN | apply Kd.R_drew)); exact HO1097.out)) k_ hk_), (Kd.fresh' (Kd.R_lt (by (with_reducible repeat (first | apply Kd.R_alloc | apply Kd.R_drewN | apply Kd.R_drew)); exact HO1108.out)) k_ hk_), (Kd.freshB (g := gb1068) (o := .cells #[.string a0_0, .slice A0_1 l0_1.length c0_1] 24 (0, 0)) (by (with_reducible repeat (first | refine blk_drewN ?_ _ | refine blk_drew ?_ | refine blk_alloc ?_ _)); exact BK1068.out) k_ hk_), (Kd.freshB (g := gb1074) (o := .cells #[.string t1070, .slice Ao30 t1071.length co30] 24 (0, 0)) (by (with_reducible repeat (first | refine blk_drewN ?_ _ | refine blk_drew ?_ | refine blk_alloc ?_ _)); exact BK1074.out) k_ hk_), (Kd.freshB (g := gb1080) (o := .cells #[.string t1075, .slice Ao37 t1076.length co37] 24 (0, 0)) (by (with_reducible repeat (first | refine blk_drewN ?_ _ | refine blk_drew ?_ | refine blk_alloc ?_ _)); exact BK1080.out) k_ hk_), (Kd.freshB (g := gb1086) (o := .cells #[.string t1081, .slice Ao45 t1082.length co45] 24 (0, 0)) (by (with_reducible repeat (first | refine blk_drewN ?_ _ | refine blk_drew ?_ | refine blk_alloc ?_ _)); exact BK1086.out) k_ hk_), (Kd.freshB (g := gb1099) (o := .cells #[.string t1094, .slice Ao55 t1095.length co55] 24 (0, 0)) (by (with_reducible repeat (first | refine blk_drewN ?_ _ | refine blk_drew ?_ | refine blk_alloc ?_ _)); exact BK1099.out) k_ hk_)⟩)) (below_size (by repeat (first | (with_reducible first | exact HB.out | apply below_alloc | apply pw_below_drewN | apply below_drew1 | refine below_set ?_ GE1068.out | refine below_set ?_ GE1074.out | refine below_set ?_ GE1080.out | refine below_set ?_ GE1086.out | refine below_set ?_ GE1099.out) | exact HB.out))))
        have n6_ := Aside0.mk (blk_below (g := gb1068) (o := .cells #[.string a0_0, .slice A0_1 l0_1.length c0_1] 24 (0, 0)) (by (with_reducible repeat (first | refine blk_drewN ?_ _ | refine blk_drew ?_ | refine blk_alloc ?_ _)); exact BK1068.out) hb)
        have n7_ := Aside0.mk (blk_below (g := gb1074) (o := .cells #[.string t1070, .slice Ao30 t1071.length co30] 24 (0, 0)) (by (with_reducible repeat (first | refine blk_drewN ?_ _ | refine blk_drew ?_ | refine blk_alloc ?_ _)); exact BK1074.out) hb)
        have n8_ := Aside0.mk (blk_below (g := gb1080) (o := .cells #[.string t1075, .slice Ao37 t1076.length co37] 24 (0, 0)) (by (with_reducible repeat (first | refine blk_drewN ?_ _ | refine blk_drew ?_ | refine blk_alloc ?_ _)); exact BK1080.out) hb)
        have n9_ := Aside0.mk (blk_below (g := gb1086) (o := .cells #[.string t1081, .slice Ao45 t1082.length co45] 24 (0, 0)) (by (with_reducible repeat (first | refine blk_drewN ?_ _ | refine blk_drew ?_ | refine blk_alloc ?_ _)); exact BK1086.out) hb)
        have n10_ := Aside0.mk (blk_below (g := gb1099) (o := .cells #[.string t1094, .slice Ao55 t1095.length co55] 24 (0, 0)) (by (with_reducible repeat (first | refine blk_drewN ?_ _ | refine blk_drew ?_ | refine blk_alloc ?_ _)); exact BK1099.out) hb)
        have n11_ := Aside0.mk (below_step (by repeat (first | (with_reducible first | exact HB.out | apply below_alloc | apply pw_below_drewN | apply below_drew1 | refine below_set ?_ GE1068.out | refine below_set ?_ GE1074.out | refine below_set ?_ GE1080.out | refine below_set ?_ GE1086.out | refine below_set ?_ GE1099.out) | exact HB.out)) hb)
        clear HO1073
        clear HO1078
        clear HO1084
        clear HO1097
        clear HO1108
        clear BK1068
        clear BK1074
        clear BK1080
        clear BK1086
        clear BK1099
        clear HB
        have HO1073 := n0_
        have HO1078 := n1_
        have HO1084 := n2_
        have HO1097 := n3_
        have HO1108 := n4_
        have HO1112 := n5_
        have BK1068 := n6_
        have BK1074 := n7_
        have BK1080 := n8_
        have BK1086 := n9_
        have BK1099 := n10_
        have HB := n11_
        clear n0_ n1_ n2_ n3_ n4_ n5_ n6_ n7_ n8_ n9_ n10_ n11_
        (try clear hb)
        (try clear hb2)
        (try clear hk)
        (try clear hi)
        (try clear ho0)
        obtain ⟨Ao67, co67, eo67⟩ := Kd.N_slice HO1112.out
        (first | subst eo67 | (injection eo67 with f1_ f2_ f3_; have f4_ := f1_.symm; have f5_ := f3_.symm; clear f1_ f2_ f3_; subst f4_; subst f5_))
        refine hK.out _ _ ⟨(blk_cell BK1080.out 0).trans rfl, (blk_cell BK1080.out 1).trans rfl, (blk_cell BK1068.out 0).trans rfl, (blk_cell BK1068.out 1).trans rfl, (blk_cell BK1086.out 0).trans rfl, (blk_cell BK1086.out 1).trans rfl, (blk_cell BK1099.out 0).trans rfl, (blk_cell BK1099.out 1).trans rfl⟩ (fun hHeld => ?_)
        clear hK K
        refine norm_ (a' := ?_) ?_ ?_
        rotate_left
        ·
         show Act.put _ (some 92) _ = _
         simp only [Act.put, List.setIfInBounds_toArray, List.set_cons_zero, List.set_cons_succ, i64_w, i32_w]
         rfl
        refine pure_ (i := 36) (N := some 93) (v := ?_) (a' := ?_) #[true, true, true, true, true, true, true, true, true, true, true, true, true, true, true, true, true, true, true, true, true, true, true, true, true, true, true, true, true, true, true, true, true, true, true, true, true, true, false, false, false, false, false] rfl rfl (any_of HT_.out (by kernel_rfl)) (fun _ _ _ h => h) (Or.inl ⟨by rfl, ?_⟩) ?_ ?_
        rotate_left
        ·
         intro w'
         go_simp
         with_reducible rfl
        rotate_left
        ·
         simp only [Act.put, List.setIfInBounds_toArray, List.set_cons_zero, List.set_cons_succ, i64_w, i32_w]
         rfl
        refine one_ (i := 38) (N := some 95) #[true, true, true, true, true, true, true, true, true, true, true, true, true, true, true, true, true, true, true, true, true, true, true, true, true, true, true, true, true, true, true, true, true, true, true, true, true, true, true, false, false, false, false] rfl rfl (one_of HT_.out (by kernel_rfl)) (by decide) (fun K hK => ?_)
        refine goes_ Try.func69 (by kernel_rfl) rfl #[.agg #[.string a0_0, .slice A0_1 l0_1.length c0_1]] (by rfl) rfl rfl (by (try simp only [List.map_toArray, List.map_cons, List.map_nil]); first | done | rfl | (simp only [List.length_drop, List.length_take]; rfl)) ?_
        with_reducible refine (classes_Words.calls k a0_0 _ _ l0_1 t1113 _ ?side1 ?side2 A23.out).mono ?_
        (case side1 => repeat (first | exact (Kd.C_below HR0_1.out HB.out) | (with_reducible refine Kd.C_alloc ?_ _) | (with_reducible refine Kd.C_drewN ?_ _) | (with_reducible refine Kd.C_drew ?_)))
        (case side2 => exact HC0_1.out)
        rintro e w68 ⟨v1114, rfl, ho0, hb⟩
        refine ⟨_, rfl, ?_⟩
        have n0_ := Aside0.mk (Kd.R_below (by (with_reducible repeat (first | apply Kd.R_alloc | apply Kd.R_drewN | apply Kd.R_drew)); exact HO1073.out) hb)
        have n1_ := Aside0.mk (Kd.R_below (by (with_reducible repeat (first | apply Kd.R_alloc | apply Kd.R_drewN | apply Kd.R_drew)); exact HO1078.out) hb)
        have n2_ := Aside0.mk (Kd.R_below (by (with_reducible repeat (first | apply Kd.R_alloc | apply Kd.R_drewN | apply Kd.R_drew)); exact HO1084.out) hb)
        have n3_ := Aside0.mk (Kd.R_below (by (with_reducible repeat (first | apply Kd.R_alloc | apply Kd.R_drewN | apply Kd.R_drew)); exact HO1097.out) hb)
        have n4_ := Aside0.mk (Kd.R_below (by (with_reducible repeat (first | apply Kd.R_alloc | apply Kd.R_drewN | apply Kd.R_drew)); exact HO1108.out) hb)
        have n5_ := Aside0.mk (Kd.N_elder' (by (with_reducible repeat (first | apply Kd.N_alloc | apply Kd.N_drewN | apply Kd.N_drew)); exact HO1112.out) (Kd.N_base ho0) hb)
        have n6_ := Aside0.mk (Kd.N_lower (Kd.N_mono (ok' := fun k_ => some k_ ≠ (.slice Ao30 t1071.length co30 : Value).ownBlock ∧ some k_ ≠ (.slice Ao37 t1076.length co37 : Value).ownBlock ∧ some k_ ≠ (.slice Ao45 t1082.length co45 : Value).ownBlock ∧ some k_ ≠ (.slice Ao55 t1095.length co55 : Value).ownBlock ∧ some k_ ≠ (.slice Ao64 t1106.length co64 : Value).ownBlock ∧ some k_ ≠ (.slice Ao67 t1110.length co67 : Value).ownBlock ∧ k_ ≠ gb1068 ∧ k_ ≠ gb1074 ∧ k_ ≠ gb1080 ∧ k_ ≠ gb1086 ∧ k_ ≠ gb1099) ho0 (fun k_ hk_ => ⟨(Kd.fresh' (Kd.R_lt (by (with_reducible repeat (first | apply Kd.R_alloc | apply Kd.R_drewN | apply Kd.R_drew)); exact HO1073.out)) k_ hk_), (Kd.fresh' (Kd.R_lt (by (with_reducible repeat (first | apply Kd.R_alloc | apply Kd.R_drewN | apply Kd.R_drew)); exact HO1078.out)) k_ hk_), (Kd.fresh' (Kd.R_lt (by (with_reducible repeat (first | apply Kd.R_alloc | apply Kd.R_drewN | apply Kd.R_drew)); exact HO1084.out)) k_ hk_), (Kd.fresh' (Kd.R_lt (by (with_reducible repeat (first | apply Kd.R_alloc | apply Kd.R_drewN | apply Kd.R_drew)); exact HO1097.out)) k_ hk_), (Kd.fresh' (Kd.R_lt (by (with_reducible repeat (first | apply Kd.R_alloc | apply Kd.R_drewN | apply Kd.R_drew)); exact HO1108.out)) k_ hk_), (Kd.fresh' (Kd.N_lt (by (with_reducible repeat (first | apply Kd.N_alloc | apply Kd.N_drewN | apply Kd.N_drew)); exact HO1112.out)) k_ hk_), (Kd.freshB (g := gb1068) (o := .cells #[.string a0_0, .slice A0_1 l0_1.length c0_1] 24 (0, 0)) (by (with_reducible repeat (first | refine blk_drewN ?_ _ | refine blk_drew ?_ | refine blk_alloc ?_ _)); exact BK1068.out) k_ hk_), (Kd.freshB (g := gb1074) (o := .cells #[.string t1070, .slice Ao30 t1071.length co30] 24 (0, 0)) (by (with_reducible repeat (first | refine blk_drewN ?_ _ | refine blk_drew ?_ | refine blk_alloc ?_ _)); exact BK1074.out) k_ hk_), (Kd.freshB (g := gb1080) (o := .cells #[.string t1075, .slice Ao37 t1076.length co37] 24 (0, 0)) (by (with_reducible repeat (first | refine blk_drewN ?_ _ | refine blk_drew ?_ | refine blk_alloc ?_ _)); exact BK1080.out) k_ hk_), (Kd.freshB (g := gb1086) (o := .cells #[.string t1081, .slice Ao45 t1082.length co45] 24 (0, 0)) (by (with_reducible repeat (first | refine blk_drewN ?_ _ | refine blk_drew ?_ | refine blk_alloc ?_ _)); exact BK1086.out) k_ hk_), (Kd.freshB (g := gb1099) (o := .cells #[.string t1094, .slice Ao55 t1095.length co55] 24 (0, 0)) (by (with_reducible repeat (first | refine blk_drewN ?_ _ | refine blk_drew ?_ | refine blk_alloc ?_ _)); exact BK1099.out) k_ hk_)⟩)) (below_size (by repeat (first | (with_reducible first | exact HB.out | apply below_alloc | apply pw_below_drewN | apply below_drew1 | refine below_set ?_ GE1068.out | refine below_set ?_ GE1074.out | refine below_set ?_ GE1080.out | refine below_set ?_ GE1086.out | refine below_set ?_ GE1099.out) | exact HB.out))))
        have n7_ := Aside0.mk (blk_below (g := gb1068) (o := .cells #[.string a0_0, .slice A0_1 l0_1.length c0_1] 24 (0, 0)) (by (with_reducible repeat (first | refine blk_drewN ?_ _ | refine blk_drew ?_ | refine blk_alloc ?_ _)); exact BK1068.out) hb)
        have n8_ := Aside0.mk (blk_below (g := gb1074) (o := .cells #[.string t1070, .slice Ao30 t1071.length co30] 24 (0, 0)) (by (with_reducible repeat (first | refine blk_drewN ?_ _ | refine blk_drew ?_ | refine blk_alloc ?_ _)); exact BK1074.out) hb)
        have n9_ := Aside0.mk (blk_below (g := gb1080) (o := .cells #[.string t1075, .slice Ao37 t1076.length co37] 24 (0, 0)) (by (with_reducible repeat (first | refine blk_drewN ?_ _ | refine blk_drew ?_ | refine blk_alloc ?_ _)); exact BK1080.out) hb)
        have n10_ := Aside0.mk (blk_below (g := gb1086) (o := .cells #[.string t1081, .slice Ao45 t1082.length co45] 24 (0, 0)) (by (with_reducible repeat (first | refine blk_drewN ?_ _ | refine blk_drew ?_ | refine blk_alloc ?_ _)); exact BK1086.out) hb)
        have n11_ := Aside0.mk (blk_below (g := gb1099) (o := .cells #[.string t1094, .slice Ao55 t1095.length co55] 24 (0, 0)) (by (with_reducible repeat (first | refine blk_drewN ?_ _ | refine blk_drew ?_ | refine blk_alloc ?_ _)); exact BK1099.out) hb)
        have n12_ := Aside0.mk (below_step (by repeat (first | (with_reducible first | exact HB.out | apply below_alloc | apply pw_below_drewN | apply below_drew1 | refine below_set ?_ GE1068.out | refine below_set ?_ GE1074.out | refine below_set ?_ GE1080.out | refine below_set ?_ GE1086.out | refine below_set ?_ GE1099.out) | exact HB.out)) hb)
        clear HO1073
        clear HO1078
        clear HO1084
        clear HO1097
        clear HO1108
        clear HO1112
        clear BK1068
        clear BK1074
        clear BK1080
        clear BK1086
        clear BK1099
        clear HB
        have HO1073 := n0_
        have HO1078 := n1_
        have HO1084 := n2_
        have HO1097 := n3_
        have HO1108 := n4_
        have HO1112 := n5_
        have HO1115 := n6_
        have BK1068 := n7_
        have BK1074 := n8_
        have BK1080 := n9_
        have BK1086 := n10_
        have BK1099 := n11_
        have HB := n12_
        clear n0_ n1_ n2_ n3_ n4_ n5_ n6_ n7_ n8_ n9_ n10_ n11_ n12_
        (try clear hb)
        (try clear hb2)
        (try clear hk)
        (try clear hi)
        (try clear ho0)
        obtain ⟨Ao69, co69, eo69⟩ := Kd.N_slice HO1115.out
        (first | subst eo69 | (injection eo69 with f1_ f2_ f3_; have f4_ := f1_.symm; have f5_ := f3_.symm; clear f1_ f2_ f3_; subst f4_; subst f5_))
        refine hK.out _ _ ⟨(blk_cell BK1080.out 0).trans rfl, (blk_cell BK1080.out 1).trans rfl, (blk_cell BK1068.out 0).trans rfl, (blk_cell BK1068.out 1).trans rfl, (blk_cell BK1086.out 0).trans rfl, (blk_cell BK1086.out 1).trans rfl, (blk_cell BK1099.out 0).trans rfl, (blk_cell BK1099.out 1).trans rfl⟩ (fun hHeld => ?_)
        clear hK K
        refine norm_ (a' := ?_) ?_ ?_
        rotate_left
        ·
         show Act.put _ (some 95) _ = _
         simp only [Act.put, List.setIfInBounds_toArray, List.set_cons_zero, List.set_cons_succ, i64_w, i32_w]
         rfl
        refine pure_ (i := 39) (N := some 96) (v := ?_) (a' := ?_) #[true, true, true, true, true, true, true, true, true, true, true, true, true, true, true, true, true, true, true, true, true, true, true, true, true, true, true, true, true, true, true, true, true, true, true, true, true, true, true, true, false, false, false] rfl rfl (any_of HT_.out (by kernel_rfl)) (fun _ _ _ h => h) (Or.inl ⟨by rfl, ?_⟩) ?_ ?_
        rotate_left
        ·
         intro w'
         go_simp
         with_reducible rfl
        rotate_left
        ·
         simp only [Act.put, List.setIfInBounds_toArray, List.set_cons_zero, List.set_cons_succ, i64_w, i32_w]
         rfl
        refine pure_ (i := 40) (N := some 97) (v := ?_) (a' := ?_) #[true, true, true, true, true, true, true, true, true, true, true, true, true, true, true, true, true, true, true, true, true, true, true, true, true, true, true, true, true, true, true, true, true, true, true, true, true, true, true, true, true, false, false] rfl rfl (any_of HT_.out (by kernel_rfl)) (fun _ _ _ h => h) (Or.inl ⟨by rfl, ?_⟩) ?_ ?_
        rotate_left
        ·
         intro w'
         go_simp
         with_reducible rfl
        rotate_left
        ·
         simp only [Act.put, List.setIfInBounds_toArray, List.set_cons_zero, List.set_cons_succ, i64_w, i32_w]
         rfl
        refine pure_ (i := 41) (N := some 98) (v := ?_) (a' := ?_) #[true, true, true, true, true, true, true, true, true, true, true, true, true, true, true, true, true, true, true, true, true, true, true, true, true, true, true, true, true, true, true, true, true, true, true, true, true, true, true, true, true, true, false] rfl rfl (any_of HT_.out (by kernel_rfl)) (fun _ _ _ h => h) (Or.inl ⟨by rfl, ?_⟩) ?_ ?_
        rotate_left
        ·
         intro w'
         go_simp
         with_reducible rfl
        rotate_left
        ·
         simp only [Act.put, List.setIfInBounds_toArray, List.set_cons_zero, List.set_cons_succ, i64_w, i32_w]
         rfl
        refine pure_ (i := 42) (N := some 4) (v := ?_) (a' := ?_) #[true, true, true, true, true, true, true, true, true, true, true, true, true, true, true, true, true, true, true, true, true, true, true, true, true, true, true, true, true, true, true, true, true, true, true, true, true, true, true, true, true, true, true] rfl rfl (any_of HT_.out (by kernel_rfl)) (fun _ _ _ h => h) (Or.inl ⟨by rfl, ?_⟩) ?_ ?_
        rotate_left
        ·
         intro w'
         go_simp
         with_reducible rfl
        rotate_left
        ·
         simp only [Act.put, List.setIfInBounds_toArray, List.set_cons_zero, List.set_cons_succ, i64_w, i32_w]
         rfl
        refine done_ (done_of HT_.out (by kernel_rfl)) ?_
        try go_wp2
        go_ret
        exact ⟨by first | rfl | (simp [errW_none, errW_some] <;> rfl) | (simp [*, errW_none, errW_some] <;> rfl), by repeat (first | (with_reducible first | exact HB.out | apply below_alloc | apply pw_below_drewN | apply below_drew1 | refine below_set ?_ GE1068.out | refine below_set ?_ GE1074.out | refine below_set ?_ GE1080.out | refine below_set ?_ GE1086.out | refine below_set ?_ GE1099.out) | exact HB.out)⟩
      ·
       replace c18 := Bool.eq_false_iff.mpr c18
       subst c18
       have H1 : (none) = some r := by rw [if_neg (show ¬ (false = true) by decide)] at H; exact H
       clear H
       have H := H1
       clear H1
       exact absurd H (by simp)
     ·
      rw [if_neg c16] at H
      have c16b0 : (t1102 == t1103) = false := by simpa using c16
      (try (have c16b1 : decide (t1102 = t1103) = false := by simpa using c16))
      (try (have c16b2 : (t1102 == t1103) = false := by simpa using c16))
      (try (have c16b3 : ¬ (t1102 = t1103) := by simpa using c16))
      clear c16
      exact absurd H (by simp)
    ·
     rw [if_neg c13] at H
     have c13b0 : (t1100 != t1101) = false := by simpa using c13
     (try (have c13b1 : decide (t1100 = t1101) = true := by simpa using c13))
     (try (have c13b2 : (t1100 == t1101) = true := by simpa using c13))
     clear c13
     exact absurd H (by simp)
   ·
    rw [if_neg c10] at H
    have c10b0 : (t1085 == 0) = false := beq_eq_false_iff_ne.mpr c10
    have c10b1 : (t1085 != 0) = true := bne_iff_ne.mpr c10
    exact absurd H (by simp)
  ·
   rw [if_neg c8] at H
   have c8b0 : (t1079 == 0) = false := beq_eq_false_iff_ne.mpr c8
   have c8b1 : (t1079 != 0) = true := bne_iff_ne.mpr c8
   by_cases c70 : t1079 = 16
   ·
    rw [if_pos c70] at H
    have c70b0 : (t1079 == 16) = true := beq_iff_eq.mpr c70
    have c70b1 : (t1079 != 16) = false := bne_eq_false_iff_eq.mpr c70
    clear c70
    replace H := Option.bind_eq_some_iff.mp H
    obtain ⟨t1087, A710, H⟩ := H
    replace H : (if (t1087.length : Int) = 1 then ((seek_Fields.f k t1070 t1071).bind fun t1090 => (if 0 < (t1090.length : Int) then (some (((rd_T24 t1090 0).f0).toList != a1.toList)) else (none))) else (some true)) = some r := H
    have A71 := Aside0.mk A710
    clear A710
    by_cases c72 : (t1087.length : Int) = 1
    ·
     rw [if_pos c72] at H
     have c72b0 : ((t1087.length : Int) == 1) = true := beq_iff_eq.mpr c72
     have c72b1 : ((t1087.length : Int) != 1) = false := bne_eq_false_iff_eq.mpr c72
     clear c72
     replace H := Option.bind_eq_some_iff.mp H
     obtain ⟨t1090, A730, H⟩ := H
     replace H : (if 0 < (t1090.length : Int) then (some (((rd_T24 t1090 0).f0).toList != a1.toList)) else (none)) = some r := H
     have A73 := Aside0.mk A730
     clear A730
     by_cases c74 : 0 < (t1090.length : Int)
     ·
      rw [if_pos c74] at H
      have c74b0 : decide (0 < (t1090.length : Int)) = true := decide_eq_true c74
      have c74b1 : decide (0 < t1090.length) = true := decide_eq_true (by omega)
      clear c74
      obtain rfl := Option.some.inj H
      go_enter Try.func13, Try.ntmps13
      go_wp2_with (first | ((with_reducible refine gate_dst (N := 2) rfl ?_); refine box_event ?hg (N := 2) ?hd (cs := #[.string a0_0, .slice A0_1 l0_1.length c0_1]) (t := 24) ?hr ?_; (case hd => rfl); (case hg => rfl); (case hr => first | (go_simp; done) | (go_simp; rfl)); intro gb1068 hg w75 hbox hb; have n0_ := Aside0.mk (below_step (by repeat (first | (with_reducible first | exact HB.out | apply below_alloc | apply pw_below_drewN | apply below_drew1) | exact HB.out)) hb); have n1_ := Aside0.mk (hbox); have n2_ := Aside0.mk ((by rw [hg]; exact (below_size (by repeat (first | (with_reducible first | exact HB.out | apply below_alloc | apply pw_below_drewN | apply below_drew1) | exact HB.out))) : w.heap.size ≤ gb1068)); have n3_ := Aside0.mk ((by rw [hg]; exact (below_size (by repeat (first | (with_reducible first | exact HB.out | apply below_alloc | apply pw_below_drewN | apply below_drew1) | exact HB.out))) : w.heap.size ≤ gb1068)); clear HB; have HB := n0_; have BK1068 := n1_; have GW1068 := n2_; have GE1068 := n3_; clear n0_ n1_ n2_ n3_; clear hb hbox hg) | ((with_reducible refine gate_callee (f := 62) rfl ?_); refine goesL_ (some 12) rfl rfl Try.func62 (by kernel_rfl) rfl #[] rfl (by (try simp only [List.map_toArray, List.map_cons, List.map_nil]); first | done | rfl | (simp only [List.length_drop, List.length_take]; rfl)) ?_; (with_reducible refine (glazierlaw41_alive.calls k  true _ A3.out).mono ?_); rintro e w76 ⟨rfl, hb⟩; refine ⟨_, rfl, ?_⟩; have n0_ := Aside0.mk (blk_below (g := gb1068) (o := .cells #[.string a0_0, .slice A0_1 l0_1.length c0_1] 24 (0, 0)) (by (with_reducible repeat (first | refine blk_drewN ?_ _ | refine blk_drew ?_ | refine blk_alloc ?_ _)); exact BK1068.out) hb); have n1_ := Aside0.mk (below_step (by repeat (first | (with_reducible first | exact HB.out | apply below_alloc | apply pw_below_drewN | apply below_drew1 | refine below_set ?_ GE1068.out) | exact HB.out)) hb); clear BK1068; clear HB; have BK1068 := n0_; have HB := n1_; clear n0_ n1_; (try clear hb); (try clear hb2); (try clear hk); (try clear hi)) | ((with_reducible refine gate_callee (f := 63) rfl ?_); refine goesL_ (some 15) rfl rfl Try.func63 (by kernel_rfl) rfl #[.string a1, .int .i64 0] rfl (by (try simp only [List.map_toArray, List.map_cons, List.map_nil]); first | done | rfl | (simp only [List.length_drop, List.length_take]; rfl)) ?_; (with_reducible refine (mark_Of.calls a1 0 t1070 t1071 _ A5.out).mono ?_); rintro e w77 ⟨v1072, rfl, ho0, hb⟩; refine ⟨_, rfl, ?_⟩; have n0_ := Aside0.mk (Kd.R_lower ho0 (below_size (by repeat (first | (with_reducible first | exact HB.out | apply below_alloc | apply pw_below_drewN | apply below_drew1 | refine below_set ?_ GE1068.out) | exact HB.out)))); have n1_ := Aside0.mk (blk_below (g := gb1068) (o := .cells #[.string a0_0, .slice A0_1 l0_1.length c0_1] 24 (0, 0)) (by (with_reducible repeat (first | refine blk_drewN ?_ _ | refine blk_drew ?_ | refine blk_alloc ?_ _)); exact BK1068.out) hb); have n2_ := Aside0.mk (below_step (by repeat (first | (with_reducible first | exact HB.out | apply below_alloc | apply pw_below_drewN | apply below_drew1 | refine below_set ?_ GE1068.out) | exact HB.out)) hb); clear BK1068; clear HB; have HO1073 := n0_; have BK1068 := n1_; have HB := n2_; clear n0_ n1_ n2_; (try clear hb); (try clear hb2); (try clear hk); (try clear hi); (try clear ho0)) | ((with_reducible refine gate_dst (N := 5) rfl ?_); refine box_event ?hg (N := 5) ?hd (cs := #[.string (⟨#[]⟩ : ByteArray), .slice none 0 0]) (t := 24) ?hr ?_; (case hd => rfl); (case hg => rfl); (case hr => first | (go_simp; done) | (go_simp; rfl)); intro gb1074 hg w78 hbox hb; have n0_ := Aside0.mk (Kd.R_below (by (with_reducible repeat (first | apply Kd.R_alloc | apply Kd.R_drewN | apply Kd.R_drew)); exact HO1073.out) hb); have n1_ := Aside0.mk (blk_below (g := gb1068) (o := .cells #[.string a0_0, .slice A0_1 l0_1.length c0_1] 24 (0, 0)) (by (with_reducible repeat (first | refine blk_drewN ?_ _ | refine blk_drew ?_ | refine blk_alloc ?_ _)); exact BK1068.out) hb); have n2_ := Aside0.mk (below_step (by repeat (first | (with_reducible first | exact HB.out | apply below_alloc | apply pw_below_drewN | apply below_drew1 | refine below_set ?_ GE1068.out) | exact HB.out)) hb); have n3_ := Aside0.mk (hbox); have n4_ := Aside0.mk ((by rw [hg]; exact (below_size (by repeat (first | (with_reducible first | exact HB.out | apply below_alloc | apply pw_below_drewN | apply below_drew1 | refine below_set ?_ GE1068.out) | exact HB.out))) : w.heap.size ≤ gb1074)); have n5_ := Aside0.mk ((by rw [hg]; exact (below_size (by repeat (first | (with_reducible first | exact HB.out | apply below_alloc | apply pw_below_drewN | apply below_drew1 | refine below_set ?_ GE1068.out) | exact HB.out))) : w.heap.size ≤ gb1074)); have n6_ := Aside0.mk ((by rw [hg]; exact Nat.ne_of_lt (blk_lt (g := gb1068) (o := .cells #[.string a0_0, .slice A0_1 l0_1.length c0_1] 24 (0, 0)) (by (with_reducible repeat (first | refine blk_drewN ?_ _ | refine blk_drew ?_ | refine blk_alloc ?_ _)); exact BK1068.out)) : gb1068 ≠ gb1074)); have n7_ := Aside0.mk ((by rw [hg]; exact Nat.ne_of_gt (blk_lt (g := gb1068) (o := .cells #[.string a0_0, .slice A0_1 l0_1.length c0_1] 24 (0, 0)) (by (with_reducible repeat (first | refine blk_drewN ?_ _ | refine blk_drew ?_ | refine blk_alloc ?_ _)); exact BK1068.out)) : gb1074 ≠ gb1068)); clear HO1073; clear BK1068; clear HB; have HO1073 := n0_; have BK1068 := n1_; have HB := n2_; have BK1074 := n3_; have GW1074 := n4_; have GE1074 := n5_; have NB1068_1074 := n6_; have NB1074_1068 := n7_; clear n0_ n1_ n2_ n3_ n4_ n5_ n6_ n7_; clear hb hbox hg; have hnb79 := NB1074_1068.out; have hnc79 := NB1068_1074.out; have hcz80_0 : w78.cell? ⟨gb1074, 0, none⟩ = some (.string (⟨#[]⟩ : ByteArray)) := (blk_cell BK1074.out 0).trans rfl; have hcz80_1 : w78.cell? ⟨gb1074, 1, none⟩ = some (.slice none 0 0) := (blk_cell BK1074.out 1).trans rfl; have hfz80_0 := blk_frozen BK1074.out 0; have hfz80_1 := blk_frozen BK1074.out 1; obtain ⟨Ao81, co81, eo81⟩ := Kd.R_slice HO1073.out; subst eo81; have hcz82_0 : w78.cell? ⟨gb1068, 0, none⟩ = some (.string a0_0) := (blk_cell BK1068.out 0).trans rfl; have hcz82_1 : w78.cell? ⟨gb1068, 1, none⟩ = some (.slice A0_1 l0_1.length c0_1) := (blk_cell BK1068.out 1).trans rfl; have hfz82_0 := blk_frozen BK1068.out 0; have hfz82_1 := blk_frozen BK1068.out 1) | ((with_reducible refine gate_callee (f := 64) rfl ?_); refine goesL_ (some 19) rfl rfl Try.func64 (by kernel_rfl) rfl #[.agg #[.string a0_0, .slice A0_1 l0_1.length c0_1], .agg #[.string t1070, .slice Ao81 t1071.length co81]] rfl (by (try simp only [List.map_toArray, List.map_cons, List.map_nil]); first | done | rfl | (simp only [List.length_drop, List.length_take]; rfl)) ?_; (with_reducible refine (classes_Turn.calls k a0_0 _ _ l0_1 t1070 _ _ t1071 t1075 t1076 t1079 _ ?side1 ?side2 ?side3 ?side4 A6.out).mono ?_); (case side1 => exact Kd.C_below HR0_1.out (by repeat (first | (with_reducible first | exact HB.out | apply below_alloc | apply pw_below_drewN | apply below_drew1 | refine below_set ?_ GE1068.out | refine below_set ?_ GE1074.out) | exact HB.out))); (case side2 => exact HC0_1.out); (case side3 => refine (Kd.R_reads' (e := 85) (base := w.heap.size) (ok := fun k_ => True) (n := t1071.length) (c := co81) ?_).2.2; exact (by (with_reducible repeat (first | apply Kd.R_alloc | apply Kd.R_drewN | apply Kd.R_drew)); exact (Kd.R_mono (Kd.R_far (p := ⟨gb1074, 1, none⟩) (Kd.R_far (p := ⟨gb1074, 0, none⟩) (Kd.R_types HO1073.out BK1074.out (by decide)) (fun _ hk => hk.2) (.string t1070)) (fun _ hk => hk.2) (.slice Ao81 t1071.length co81)) (fun _ h_ => h_.1)))); (case side4 => exact (Kd.R_reads' HO1073.out).2.1); rintro e w83 ⟨v1077, rfl, ho0, hb⟩; refine ⟨_, rfl, ?_⟩; have n0_ := Aside0.mk (Kd.R_elder' (by (with_reducible repeat (first | apply Kd.R_alloc | apply Kd.R_drewN | apply Kd.R_drew)); exact (Kd.R_mono (Kd.R_far (p := ⟨gb1074, 1, none⟩) (Kd.R_far (p := ⟨gb1074, 0, none⟩) (Kd.R_types HO1073.out BK1074.out (by decide)) (fun _ hk => hk.2) (.string t1070)) (fun _ hk => hk.2) (.slice Ao81 t1071.length co81)) (fun _ h_ => h_.1))) (Kd.R_base ho0) hb); have n1_ := Aside0.mk (Kd.R_lower (Kd.R_new' ho0 (Kd.R_lt (by (with_reducible repeat (first | apply Kd.R_alloc | apply Kd.R_drewN | apply Kd.R_drew)); exact (Kd.R_mono (Kd.R_far (p := ⟨gb1074, 1, none⟩) (Kd.R_far (p := ⟨gb1074, 0, none⟩) (Kd.R_types HO1073.out BK1074.out (by decide)) (fun _ hk => hk.2) (.string t1070)) (fun _ hk => hk.2) (.slice Ao81 t1071.length co81)) (fun _ h_ => h_.1))))) (below_size (by repeat (first | (with_reducible first | exact HB.out | apply below_alloc | apply pw_below_drewN | apply below_drew1 | refine below_set ?_ GE1068.out | refine below_set ?_ GE1074.out) | exact HB.out)))); have n2_ := Aside0.mk (blk_below (g := gb1068) (o := .cells #[.string a0_0, .slice A0_1 l0_1.length c0_1] 24 (0, 0)) (by (with_reducible repeat (first | refine blk_drewN ?_ _ | refine blk_drew ?_ | refine blk_alloc ?_ _)); refine blk_far ?_ NB1068_1074.out _; (with_reducible repeat (first | refine blk_drewN ?_ _ | refine blk_drew ?_ | refine blk_alloc ?_ _)); refine blk_far ?_ NB1068_1074.out _; (with_reducible repeat (first | refine blk_drewN ?_ _ | refine blk_drew ?_ | refine blk_alloc ?_ _)); exact BK1068.out) hb); have n3_ := Aside0.mk (blk_below (g := gb1074) (o := .cells #[.string t1070, .slice Ao81 t1071.length co81] 24 (0, 0)) (by (with_reducible repeat (first | refine blk_drewN ?_ _ | refine blk_drew ?_ | refine blk_alloc ?_ _)); refine blk_put (cs := #[.string t1070, .slice none 0 0]) ?_ 1 _ rfl; (with_reducible repeat (first | refine blk_drewN ?_ _ | refine blk_drew ?_ | refine blk_alloc ?_ _)); refine blk_put (cs := #[.string (⟨#[]⟩ : ByteArray), .slice none 0 0]) ?_ 0 _ rfl; (with_reducible repeat (first | refine blk_drewN ?_ _ | refine blk_drew ?_ | refine blk_alloc ?_ _)); exact BK1074.out) hb); have n4_ := Aside0.mk (below_step (by repeat (first | (with_reducible first | exact HB.out | apply below_alloc | apply pw_below_drewN | apply below_drew1 | refine below_set ?_ GE1068.out | refine below_set ?_ GE1074.out) | exact HB.out)) hb); clear HO1073; clear BK1068; clear BK1074; clear HB; have HO1073 := n0_; have HO1078 := n1_; have BK1068 := n2_; have BK1074 := n3_; have HB := n4_; clear n0_ n1_ n2_ n3_ n4_; (try clear hb); (try clear hb2); (try clear hk); (try clear hi); (try clear ho0)) | ((with_reducible refine gate_dst (N := 6) rfl ?_); refine box_event ?hg (N := 6) ?hd (cs := #[.string (⟨#[]⟩ : ByteArray), .slice none 0 0]) (t := 24) ?hr ?_; (case hd => rfl); (case hg => rfl); (case hr => first | (go_simp; done) | (go_simp; rfl)); intro gb1080 hg w84 hbox hb; have n0_ := Aside0.mk (Kd.R_below (by (with_reducible repeat (first | apply Kd.R_alloc | apply Kd.R_drewN | apply Kd.R_drew)); exact HO1073.out) hb); have n1_ := Aside0.mk (Kd.R_below (by (with_reducible repeat (first | apply Kd.R_alloc | apply Kd.R_drewN | apply Kd.R_drew)); exact HO1078.out) hb); have n2_ := Aside0.mk (blk_below (g := gb1068) (o := .cells #[.string a0_0, .slice A0_1 l0_1.length c0_1] 24 (0, 0)) (by (with_reducible repeat (first | refine blk_drewN ?_ _ | refine blk_drew ?_ | refine blk_alloc ?_ _)); exact BK1068.out) hb); have n3_ := Aside0.mk (blk_below (g := gb1074) (o := .cells #[.string t1070, .slice Ao81 t1071.length co81] 24 (0, 0)) (by (with_reducible repeat (first | refine blk_drewN ?_ _ | refine blk_drew ?_ | refine blk_alloc ?_ _)); exact BK1074.out) hb); have n4_ := Aside0.mk (below_step (by repeat (first | (with_reducible first | exact HB.out | apply below_alloc | apply pw_below_drewN | apply below_drew1 | refine below_set ?_ GE1068.out | refine below_set ?_ GE1074.out) | exact HB.out)) hb); have n5_ := Aside0.mk (hbox); have n6_ := Aside0.mk ((by rw [hg]; exact (below_size (by repeat (first | (with_reducible first | exact HB.out | apply below_alloc | apply pw_below_drewN | apply below_drew1 | refine below_set ?_ GE1068.out | refine below_set ?_ GE1074.out) | exact HB.out))) : w.heap.size ≤ gb1080)); have n7_ := Aside0.mk ((by rw [hg]; exact (below_size (by repeat (first | (with_reducible first | exact HB.out | apply below_alloc | apply pw_below_drewN | apply below_drew1 | refine below_set ?_ GE1068.out | refine below_set ?_ GE1074.out) | exact HB.out))) : w.heap.size ≤ gb1080)); have n8_ := Aside0.mk ((by rw [hg]; exact Nat.ne_of_lt (blk_lt (g := gb1068) (o := .cells #[.string a0_0, .slice A0_1 l0_1.length c0_1] 24 (0, 0)) (by (with_reducible repeat (first | refine blk_drewN ?_ _ | refine blk_drew ?_ | refine blk_alloc ?_ _)); exact BK1068.out)) : gb1068 ≠ gb1080)); have n9_ := Aside0.mk ((by rw [hg]; exact Nat.ne_of_gt (blk_lt (g := gb1068) (o := .cells #[.string a0_0, .slice A0_1 l0_1.length c0_1] 24 (0, 0)) (by (with_reducible repeat (first | refine blk_drewN ?_ _ | refine blk_drew ?_ | refine blk_alloc ?_ _)); exact BK1068.out)) : gb1080 ≠ gb1068)); have n10_ := Aside0.mk ((by rw [hg]; exact Nat.ne_of_lt (blk_lt (g := gb1074) (o := .cells #[.string t1070, .slice Ao81 t1071.length co81] 24 (0, 0)) (by (with_reducible repeat (first | refine blk_drewN ?_ _ | refine blk_drew ?_ | refine blk_alloc ?_ _)); exact BK1074.out)) : gb1074 ≠ gb1080)); have n11_ := Aside0.mk ((by rw [hg]; exact Nat.ne_of_gt (blk_lt (g := gb1074) (o := .cells #[.string t1070, .slice Ao81 t1071.length co81] 24 (0, 0)) (by (with_reducible repeat (first | refine blk_drewN ?_ _ | refine blk_drew ?_ | refine blk_alloc ?_ _)); exact BK1074.out)) : gb1080 ≠ gb1074)); clear HO1073; clear HO1078; clear BK1068; clear BK1074; clear HB; have HO1073 := n0_; have HO1078 := n1_; have BK1068 := n2_; have BK1074 := n3_; have HB := n4_; have BK1080 := n5_; have GW1080 := n6_; have GE1080 := n7_; have NB1068_1080 := n8_; have NB1080_1068 := n9_; have NB1074_1080 := n10_; have NB1080_1074 := n11_; clear n0_ n1_ n2_ n3_ n4_ n5_ n6_ n7_ n8_ n9_ n10_ n11_; clear hb hbox hg; have hnb85 := NB1080_1068.out; have hnc85 := NB1068_1080.out; have hnb86 := NB1080_1074.out; have hnc86 := NB1074_1080.out; have hcz87_0 : w84.cell? ⟨gb1080, 0, none⟩ = some (.string (⟨#[]⟩ : ByteArray)) := (blk_cell BK1080.out 0).trans rfl; have hcz87_1 : w84.cell? ⟨gb1080, 1, none⟩ = some (.slice none 0 0) := (blk_cell BK1080.out 1).trans rfl; have hfz87_0 := blk_frozen BK1080.out 0; have hfz87_1 := blk_frozen BK1080.out 1; obtain ⟨Ao88, co88, eo88⟩ := Kd.R_slice HO1078.out; subst eo88; have hcz89_0 : w84.cell? ⟨gb1074, 0, none⟩ = some (.string t1070) := (blk_cell BK1074.out 0).trans rfl; have hcz89_1 : w84.cell? ⟨gb1074, 1, none⟩ = some (.slice Ao81 t1071.length co81) := (blk_cell BK1074.out 1).trans rfl; have hfz89_0 := blk_frozen BK1074.out 0; have hfz89_1 := blk_frozen BK1074.out 1) | ((with_reducible refine gate_callee (f := 64) rfl ?_); refine goesL_ (some 25) rfl rfl Try.func64 (by kernel_rfl) rfl #[.agg #[.string t1075, .slice Ao88 t1076.length co88], .agg #[.string t1070, .slice Ao81 t1071.length co81]] rfl (by (try simp only [List.map_toArray, List.map_cons, List.map_nil]); first | done | rfl | (simp only [List.length_drop, List.length_take]; rfl)) ?_; (with_reducible refine (classes_Turn.calls k t1075 _ _ t1076 t1070 _ _ t1071 t1081 t1082 t1085 _ ?side1 ?side2 ?side3 ?side4 A7.out).mono ?_); (case side1 => refine (Kd.R_reads' (e := 85) (base := w.heap.size) (ok := fun k_ => (True ∧ some k_ ≠ (.slice Ao81 t1071.length co81 : Value).ownBlock)) (n := t1076.length) (c := co88) ?_).2.2; exact (by (with_reducible repeat (first | apply Kd.R_alloc | apply Kd.R_drewN | apply Kd.R_drew)); exact (Kd.R_mono (Kd.R_far (p := ⟨gb1080, 1, none⟩) (Kd.R_far (p := ⟨gb1080, 0, none⟩) (Kd.R_types HO1078.out BK1080.out (by decide)) (fun _ hk => hk.2) (.string t1075)) (fun _ hk => hk.2) (.slice Ao88 t1076.length co88)) (fun _ h_ => h_.1)))); (case side2 => exact (Kd.R_reads' HO1078.out).2.1); (case side3 => refine (Kd.R_reads' (e := 85) (base := w.heap.size) (ok := fun k_ => (True ∧ some k_ ≠ (.slice Ao88 t1076.length co88 : Value).ownBlock)) (n := t1071.length) (c := co81) ?_).2.2; exact (by (with_reducible repeat (first | apply Kd.R_alloc | apply Kd.R_drewN | apply Kd.R_drew)); exact (Kd.R_mono (Kd.R_far (p := ⟨gb1080, 1, none⟩) (Kd.R_far (p := ⟨gb1080, 0, none⟩) (Kd.R_types HO1073.out BK1080.out (by decide)) (fun _ hk => hk.2) (.string t1075)) (fun _ hk => hk.2) (.slice Ao88 t1076.length co88)) (fun _ h_ => h_.1)))); (case side4 => exact (Kd.R_reads' HO1073.out).2.1); rintro e w90 ⟨v1083, rfl, ho0, hb⟩; refine ⟨_, rfl, ?_⟩; have n0_ := Aside0.mk (Kd.R_elder' (by (with_reducible repeat (first | apply Kd.R_alloc | apply Kd.R_drewN | apply Kd.R_drew)); exact (Kd.R_mono (Kd.R_far (p := ⟨gb1080, 1, none⟩) (Kd.R_far (p := ⟨gb1080, 0, none⟩) (Kd.R_types HO1073.out BK1080.out (by decide)) (fun _ hk => hk.2) (.string t1075)) (fun _ hk => hk.2) (.slice Ao88 t1076.length co88)) (fun _ h_ => h_.1))) (Kd.R_base ho0) hb); have n1_ := Aside0.mk (Kd.R_elder' (by (with_reducible repeat (first | apply Kd.R_alloc | apply Kd.R_drewN | apply Kd.R_drew)); exact (Kd.R_mono (Kd.R_far (p := ⟨gb1080, 1, none⟩) (Kd.R_far (p := ⟨gb1080, 0, none⟩) (Kd.R_types HO1078.out BK1080.out (by decide)) (fun _ hk => hk.2) (.string t1075)) (fun _ hk => hk.2) (.slice Ao88 t1076.length co88)) (fun _ h_ => h_.1))) (Kd.R_base ho0) hb); have n2_ := Aside0.mk (Kd.R_lower (Kd.R_new' (Kd.R_new' ho0 (Kd.R_lt (by (with_reducible repeat (first | apply Kd.R_alloc | apply Kd.R_drewN | apply Kd.R_drew)); exact (Kd.R_mono (Kd.R_far (p := ⟨gb1080, 1, none⟩) (Kd.R_far (p := ⟨gb1080, 0, none⟩) (Kd.R_types HO1073.out BK1080.out (by decide)) (fun _ hk => hk.2) (.string t1075)) (fun _ hk => hk.2) (.slice Ao88 t1076.length co88)) (fun _ h_ => h_.1))))) (Kd.R_lt (by (with_reducible repeat (first | apply Kd.R_alloc | apply Kd.R_drewN | apply Kd.R_drew)); exact (Kd.R_mono (Kd.R_far (p := ⟨gb1080, 1, none⟩) (Kd.R_far (p := ⟨gb1080, 0, none⟩) (Kd.R_types HO1078.out BK1080.out (by decide)) (fun _ hk => hk.2) (.string t1075)) (fun _ hk => hk.2) (.slice Ao88 t1076.length co88)) (fun _ h_ => h_.1))))) (below_size (by repeat (first | (with_reducible first | exact HB.out | apply below_alloc | apply pw_below_drewN | apply below_drew1 | refine below_set ?_ GE1068.out | refine below_set ?_ GE1074.out | refine below_set ?_ GE1080.out) | exact HB.out)))); have n3_ := Aside0.mk (blk_below (g := gb1068) (o := .cells #[.string a0_0, .slice A0_1 l0_1.length c0_1] 24 (0, 0)) (by (with_reducible repeat (first | refine blk_drewN ?_ _ | refine blk_drew ?_ | refine blk_alloc ?_ _)); refine blk_far ?_ NB1068_1080.out _; (with_reducible repeat (first | refine blk_drewN ?_ _ | refine blk_drew ?_ | refine blk_alloc ?_ _)); refine blk_far ?_ NB1068_1080.out _; (with_reducible repeat (first | refine blk_drewN ?_ _ | refine blk_drew ?_ | refine blk_alloc ?_ _)); exact BK1068.out) hb); have n4_ := Aside0.mk (blk_below (g := gb1074) (o := .cells #[.string t1070, .slice Ao81 t1071.length co81] 24 (0, 0)) (by (with_reducible repeat (first | refine blk_drewN ?_ _ | refine blk_drew ?_ | refine blk_alloc ?_ _)); refine blk_far ?_ NB1074_1080.out _; (with_reducible repeat (first | refine blk_drewN ?_ _ | refine blk_drew ?_ | refine blk_alloc ?_ _)); refine blk_far ?_ NB1074_1080.out _; (with_reducible repeat (first | refine blk_drewN ?_ _ | refine blk_drew ?_ | refine blk_alloc ?_ _)); exact BK1074.out) hb); have n5_ := Aside0.mk (blk_below (g := gb1080) (o := .cells #[.string t1075, .slice Ao88 t1076.length co88] 24 (0, 0)) (by (with_reducible repeat (first | refine blk_drewN ?_ _ | refine blk_drew ?_ | refine blk_alloc ?_ _)); refine blk_put (cs := #[.string t1075, .slice none 0 0]) ?_ 1 _ rfl; (with_reducible repeat (first | refine blk_drewN ?_ _ | refine blk_drew ?_ | refine blk_alloc ?_ _)); refine blk_put (cs := #[.string (⟨#[]⟩ : ByteArray), .slice none 0 0]) ?_ 0 _ rfl; (with_reducible repeat (first | refine blk_drewN ?_ _ | refine blk_drew ?_ | refine blk_alloc ?_ _)); exact BK1080.out) hb); have n6_ := Aside0.mk (below_step (by repeat (first | (with_reducible first | exact HB.out | apply below_alloc | apply pw_below_drewN | apply below_drew1 | refine below_set ?_ GE1068.out | refine below_set ?_ GE1074.out | refine below_set ?_ GE1080.out) | exact HB.out)) hb); clear HO1073; clear HO1078; clear BK1068; clear BK1074; clear BK1080; clear HB; have HO1073 := n0_; have HO1078 := n1_; have HO1084 := n2_; have BK1068 := n3_; have BK1074 := n4_; have BK1080 := n5_; have HB := n6_; clear n0_ n1_ n2_ n3_ n4_ n5_ n6_; (try clear hb); (try clear hb2); (try clear hk); (try clear hi); (try clear ho0)) | ((with_reducible refine gate_dst (N := 8) rfl ?_); refine box_event ?hg (N := 8) ?hd (cs := #[.string (⟨#[]⟩ : ByteArray), .slice none 0 0]) (t := 24) ?hr ?_; (case hd => rfl); (case hg => rfl); (case hr => first | (go_simp; done) | (go_simp; rfl)); intro gb1086 hg w91 hbox hb; have n0_ := Aside0.mk (Kd.R_below (by (with_reducible repeat (first | apply Kd.R_alloc | apply Kd.R_drewN | apply Kd.R_drew)); exact HO1073.out) hb); have n1_ := Aside0.mk (Kd.R_below (by (with_reducible repeat (first | apply Kd.R_alloc | apply Kd.R_drewN | apply Kd.R_drew)); exact HO1078.out) hb); have n2_ := Aside0.mk (Kd.R_below (by (with_reducible repeat (first | apply Kd.R_alloc | apply Kd.R_drewN | apply Kd.R_drew)); exact HO1084.out) hb); have n3_ := Aside0.mk (blk_below (g := gb1068) (o := .cells #[.string a0_0, .slice A0_1 l0_1.length c0_1] 24 (0, 0)) (by (with_reducible repeat (first | refine blk_drewN ?_ _ | refine blk_drew ?_ | refine blk_alloc ?_ _)); exact BK1068.out) hb); have n4_ := Aside0.mk (blk_below (g := gb1074) (o := .cells #[.string t1070, .slice Ao81 t1071.length co81] 24 (0, 0)) (by (with_reducible repeat (first | refine blk_drewN ?_ _ | refine blk_drew ?_ | refine blk_alloc ?_ _)); exact BK1074.out) hb); have n5_ := Aside0.mk (blk_below (g := gb1080) (o := .cells #[.string t1075, .slice Ao88 t1076.length co88] 24 (0, 0)) (by (with_reducible repeat (first | refine blk_drewN ?_ _ | refine blk_drew ?_ | refine blk_alloc ?_ _)); exact BK1080.out) hb); have n6_ := Aside0.mk (below_step (by repeat (first | (with_reducible first | exact HB.out | apply below_alloc | apply pw_below_drewN | apply below_drew1 | refine below_set ?_ GE1068.out | refine below_set ?_ GE1074.out | refine below_set ?_ GE1080.out) | exact HB.out)) hb); have n7_ := Aside0.mk (hbox); have n8_ := Aside0.mk ((by rw [hg]; exact (below_size (by repeat (first | (with_reducible first | exact HB.out | apply below_alloc | apply pw_below_drewN | apply below_drew1 | refine below_set ?_ GE1068.out | refine below_set ?_ GE1074.out | refine below_set ?_ GE1080.out) | exact HB.out))) : w.heap.size ≤ gb1086)); have n9_ := Aside0.mk ((by rw [hg]; exact (below_size (by repeat (first | (with_reducible first | exact HB.out | apply below_alloc | apply pw_below_drewN | apply below_drew1 | refine below_set ?_ GE1068.out | refine below_set ?_ GE1074.out | refine below_set ?_ GE1080.out) | exact HB.out))) : w.heap.size ≤ gb1086)); have n10_ := Aside0.mk ((by rw [hg]; exact Nat.ne_of_lt (blk_lt (g := gb1068) (o := .cells #[.string a0_0, .slice A0_1 l0_1.length c0_1] 24 (0, 0)) (by (with_reducible repeat (first | refine blk_drewN ?_ _ | refine blk_drew ?_ | refine blk_alloc ?_ _)); exact BK1068.out)) : gb1068 ≠ gb1086)); have n11_ := Aside0.mk ((by rw [hg]; exact Nat.ne_of_gt (blk_lt (g := gb1068) (o := .cells #[.string a0_0, .slice A0_1 l0_1.length c0_1] 24 (0, 0)) (by (with_reducible repeat (first | refine blk_drewN ?_ _ | refine blk_drew ?_ | refine blk_alloc ?_ _)); exact BK1068.out)) : gb1086 ≠ gb1068)); have n12_ := Aside0.mk ((by rw [hg]; exact Nat.ne_of_lt (blk_lt (g := gb1074) (o := .cells #[.string t1070, .slice Ao81 t1071.length co81] 24 (0, 0)) (by (with_reducible repeat (first | refine blk_drewN ?_ _ | refine blk_drew ?_ | refine blk_alloc ?_ _)); exact BK1074.out)) : gb1074 ≠ gb1086)); have n13_ := Aside0.mk ((by rw [hg]; exact Nat.ne_of_gt (blk_lt (g := gb1074) (o := .cells #[.string t1070, .slice Ao81 t1071.length co81] 24 (0, 0)) (by (with_reducible repeat (first | refine blk_drewN ?_ _ | refine blk_drew ?_ | refine blk_alloc ?_ _)); exact BK1074.out)) : gb1086 ≠ gb1074)); have n14_ := Aside0.mk ((by rw [hg]; exact Nat.ne_of_lt (blk_lt (g := gb1080) (o := .cells #[.string t1075, .slice Ao88 t1076.length co88] 24 (0, 0)) (by (with_reducible repeat (first | refine blk_drewN ?_ _ | refine blk_drew ?_ | refine blk_alloc ?_ _)); exact BK1080.out)) : gb1080 ≠ gb1086)); have n15_ := Aside0.mk ((by rw [hg]; exact Nat.ne_of_gt (blk_lt (g := gb1080) (o := .cells #[.string t1075, .slice Ao88 t1076.length co88] 24 (0, 0)) (by (with_reducible repeat (first | refine blk_drewN ?_ _ | refine blk_drew ?_ | refine blk_alloc ?_ _)); exact BK1080.out)) : gb1086 ≠ gb1080)); clear HO1073; clear HO1078; clear HO1084; clear BK1068; clear BK1074; clear BK1080; clear HB; have HO1073 := n0_; have HO1078 := n1_; have HO1084 := n2_; have BK1068 := n3_; have BK1074 := n4_; have BK1080 := n5_; have HB := n6_; have BK1086 := n7_; have GW1086 := n8_; have GE1086 := n9_; have NB1068_1086 := n10_; have NB1086_1068 := n11_; have NB1074_1086 := n12_; have NB1086_1074 := n13_; have NB1080_1086 := n14_; have NB1086_1080 := n15_; clear n0_ n1_ n2_ n3_ n4_ n5_ n6_ n7_ n8_ n9_ n10_ n11_ n12_ n13_ n14_ n15_; clear hb hbox hg; have hnb92 := NB1086_1068.out; have hnc92 := NB1068_1086.out; have hnb93 := NB1086_1074.out; have hnc93 := NB1074_1086.out; have hnb94 := NB1086_1080.out; have hnc94 := NB1080_1086.out; have hcz95_0 : w91.cell? ⟨gb1086, 0, none⟩ = some (.string (⟨#[]⟩ : ByteArray)) := (blk_cell BK1086.out 0).trans rfl; have hcz95_1 : w91.cell? ⟨gb1086, 1, none⟩ = some (.slice none 0 0) := (blk_cell BK1086.out 1).trans rfl; have hfz95_0 := blk_frozen BK1086.out 0; have hfz95_1 := blk_frozen BK1086.out 1; obtain ⟨Ao96, co96, eo96⟩ := Kd.R_slice HO1084.out; subst eo96; have hcz97_0 : w91.cell? ⟨gb1074, 0, none⟩ = some (.string t1070) := (blk_cell BK1074.out 0).trans rfl; have hcz97_1 : w91.cell? ⟨gb1074, 1, none⟩ = some (.slice Ao81 t1071.length co81) := (blk_cell BK1074.out 1).trans rfl; have hfz97_0 := blk_frozen BK1074.out 0; have hfz97_1 := blk_frozen BK1074.out 1) | (go_at_call 65; (with_reducible refine (seek_Fields.calls k t1070 _ _ t1071 t1087 _ ?side1 ?side2 A71.out).mono ?_); (case side1 => refine (Kd.R_reads' (e := 85) (base := w.heap.size) (ok := fun k_ => ((True ∧ some k_ ≠ (.slice Ao88 t1076.length co88 : Value).ownBlock) ∧ some k_ ≠ (.slice Ao96 t1082.length co96 : Value).ownBlock)) (n := t1071.length) (c := co81) ?_).2.2; exact (by (with_reducible repeat (first | apply Kd.R_alloc | apply Kd.R_drewN | apply Kd.R_drew)); exact (Kd.R_mono (Kd.R_far (p := ⟨gb1086, 1, none⟩) (Kd.R_far (p := ⟨gb1086, 0, none⟩) (Kd.R_types HO1073.out BK1086.out (by decide)) (fun _ hk => hk.2) (.string t1081)) (fun _ hk => hk.2) (.slice Ao96 t1082.length co96)) (fun _ h_ => h_.1)))); (case side2 => exact (Kd.R_reads' HO1073.out).2.1); rintro e w98 ⟨v1088, rfl, ho0, hb⟩; have n0_ := Aside0.mk (Kd.R_below (by (with_reducible repeat (first | apply Kd.R_alloc | apply Kd.R_drewN | apply Kd.R_drew)); exact (Kd.R_mono (Kd.R_far (p := ⟨gb1086, 1, none⟩) (Kd.R_far (p := ⟨gb1086, 0, none⟩) (Kd.R_types HO1073.out BK1086.out (by decide)) (fun _ hk => hk.2) (.string t1081)) (fun _ hk => hk.2) (.slice Ao96 t1082.length co96)) (fun _ h_ => h_.1))) hb); have n1_ := Aside0.mk (Kd.R_below (by (with_reducible repeat (first | apply Kd.R_alloc | apply Kd.R_drewN | apply Kd.R_drew)); exact (Kd.R_mono (Kd.R_far (p := ⟨gb1086, 1, none⟩) (Kd.R_far (p := ⟨gb1086, 0, none⟩) (Kd.R_types HO1078.out BK1086.out (by decide)) (fun _ hk => hk.2) (.string t1081)) (fun _ hk => hk.2) (.slice Ao96 t1082.length co96)) (fun _ h_ => h_.1))) hb); have n2_ := Aside0.mk (Kd.R_below (by (with_reducible repeat (first | apply Kd.R_alloc | apply Kd.R_drewN | apply Kd.R_drew)); exact (Kd.R_mono (Kd.R_far (p := ⟨gb1086, 1, none⟩) (Kd.R_far (p := ⟨gb1086, 0, none⟩) (Kd.R_types HO1084.out BK1086.out (by decide)) (fun _ hk => hk.2) (.string t1081)) (fun _ hk => hk.2) (.slice Ao96 t1082.length co96)) (fun _ h_ => h_.1))) hb); have n3_ := Aside0.mk (Kd.N_lower (Kd.N_mono (ok' := fun k_ => some k_ ≠ (.slice Ao81 t1071.length co81 : Value).ownBlock ∧ some k_ ≠ (.slice Ao88 t1076.length co88 : Value).ownBlock ∧ some k_ ≠ (.slice Ao96 t1082.length co96 : Value).ownBlock ∧ k_ ≠ gb1068 ∧ k_ ≠ gb1074 ∧ k_ ≠ gb1080 ∧ k_ ≠ gb1086) ho0 (fun k_ hk_ => ⟨(Kd.fresh' (Kd.R_lt (by (with_reducible repeat (first | apply Kd.R_alloc | apply Kd.R_drewN | apply Kd.R_drew)); exact (Kd.R_mono (Kd.R_far (p := ⟨gb1086, 1, none⟩) (Kd.R_far (p := ⟨gb1086, 0, none⟩) (Kd.R_types HO1073.out BK1086.out (by decide)) (fun _ hk => hk.2) (.string t1081)) (fun _ hk => hk.2) (.slice Ao96 t1082.length co96)) (fun _ h_ => h_.1)))) k_ hk_), (Kd.fresh' (Kd.R_lt (by (with_reducible repeat (first | apply Kd.R_alloc | apply Kd.R_drewN | apply Kd.R_drew)); exact (Kd.R_mono (Kd.R_far (p := ⟨gb1086, 1, none⟩) (Kd.R_far (p := ⟨gb1086, 0, none⟩) (Kd.R_types HO1078.out BK1086.out (by decide)) (fun _ hk => hk.2) (.string t1081)) (fun _ hk => hk.2) (.slice Ao96 t1082.length co96)) (fun _ h_ => h_.1)))) k_ hk_), (Kd.fresh' (Kd.R_lt (by (with_reducible repeat (first | apply Kd.R_alloc | apply Kd.R_drewN | apply Kd.R_drew)); exact (Kd.R_mono (Kd.R_far (p := ⟨gb1086, 1, none⟩) (Kd.R_far (p := ⟨gb1086, 0, none⟩) (Kd.R_types HO1084.out BK1086.out (by decide)) (fun _ hk => hk.2) (.string t1081)) (fun _ hk => hk.2) (.slice Ao96 t1082.length co96)) (fun _ h_ => h_.1)))) k_ hk_), (Kd.freshB (g := gb1068) (o := .cells #[.string a0_0, .slice A0_1 l0_1.length c0_1] 24 (0, 0)) (by (with_reducible repeat (first | refine blk_drewN ?_ _ | refine blk_drew ?_ | refine blk_alloc ?_ _)); refine blk_far ?_ NB1068_1086.out _; (with_reducible repeat (first | refine blk_drewN ?_ _ | refine blk_drew ?_ | refine blk_alloc ?_ _)); refine blk_far ?_ NB1068_1086.out _; (with_reducible repeat (first | refine blk_drewN ?_ _ | refine blk_drew ?_ | refine blk_alloc ?_ _)); exact BK1068.out) k_ hk_), (Kd.freshB (g := gb1074) (o := .cells #[.string t1070, .slice Ao81 t1071.length co81] 24 (0, 0)) (by (with_reducible repeat (first | refine blk_drewN ?_ _ | refine blk_drew ?_ | refine blk_alloc ?_ _)); refine blk_far ?_ NB1074_1086.out _; (with_reducible repeat (first | refine blk_drewN ?_ _ | refine blk_drew ?_ | refine blk_alloc ?_ _)); refine blk_far ?_ NB1074_1086.out _; (with_reducible repeat (first | refine blk_drewN ?_ _ | refine blk_drew ?_ | refine blk_alloc ?_ _)); exact BK1074.out) k_ hk_), (Kd.freshB (g := gb1080) (o := .cells #[.string t1075, .slice Ao88 t1076.length co88] 24 (0, 0)) (by (with_reducible repeat (first | refine blk_drewN ?_ _ | refine blk_drew ?_ | refine blk_alloc ?_ _)); refine blk_far ?_ NB1080_1086.out _; (with_reducible repeat (first | refine blk_drewN ?_ _ | refine blk_drew ?_ | refine blk_alloc ?_ _)); refine blk_far ?_ NB1080_1086.out _; (with_reducible repeat (first | refine blk_drewN ?_ _ | refine blk_drew ?_ | refine blk_alloc ?_ _)); exact BK1080.out) k_ hk_), (Kd.freshB (g := gb1086) (o := .cells #[.string t1081, .slice Ao96 t1082.length co96] 24 (0, 0)) (by (with_reducible repeat (first | refine blk_drewN ?_ _ | refine blk_drew ?_ | refine blk_alloc ?_ _)); refine blk_put (cs := #[.string t1081, .slice none 0 0]) ?_ 1 _ rfl; (with_reducible repeat (first | refine blk_drewN ?_ _ | refine blk_drew ?_ | refine blk_alloc ?_ _)); refine blk_put (cs := #[.string (⟨#[]⟩ : ByteArray), .slice none 0 0]) ?_ 0 _ rfl; (with_reducible repeat (first | refine blk_drewN ?_ _ | refine blk_drew ?_ | refine blk_alloc ?_ _)); exact BK1086.out) k_ hk_)⟩)) (below_size (by repeat (first | (with_reducible first | exact HB.out | apply below_alloc | apply pw_below_drewN | apply below_drew1 | refine below_set ?_ GE1068.out | refine below_set ?_ GE1074.out | refine below_set ?_ GE1080.out | refine below_set ?_ GE1086.out) | exact HB.out)))); have n4_ := Aside0.mk (blk_below (g := gb1068) (o := .cells #[.string a0_0, .slice A0_1 l0_1.length c0_1] 24 (0, 0)) (by (with_reducible repeat (first | refine blk_drewN ?_ _ | refine blk_drew ?_ | refine blk_alloc ?_ _)); refine blk_far ?_ NB1068_1086.out _; (with_reducible repeat (first | refine blk_drewN ?_ _ | refine blk_drew ?_ | refine blk_alloc ?_ _)); refine blk_far ?_ NB1068_1086.out _; (with_reducible repeat (first | refine blk_drewN ?_ _ | refine blk_drew ?_ | refine blk_alloc ?_ _)); exact BK1068.out) hb); have n5_ := Aside0.mk (blk_below (g := gb1074) (o := .cells #[.string t1070, .slice Ao81 t1071.length co81] 24 (0, 0)) (by (with_reducible repeat (first | refine blk_drewN ?_ _ | refine blk_drew ?_ | refine blk_alloc ?_ _)); refine blk_far ?_ NB1074_1086.out _; (with_reducible repeat (first | refine blk_drewN ?_ _ | refine blk_drew ?_ | refine blk_alloc ?_ _)); refine blk_far ?_ NB1074_1086.out _; (with_reducible repeat (first | refine blk_drewN ?_ _ | refine blk_drew ?_ | refine blk_alloc ?_ _)); exact BK1074.out) hb); have n6_ := Aside0.mk (blk_below (g := gb1080) (o := .cells #[.string t1075, .slice Ao88 t1076.length co88] 24 (0, 0)) (by (with_reducible repeat (first | refine blk_drewN ?_ _ | refine blk_drew ?_ | refine blk_alloc ?_ _)); refine blk_far ?_ NB1080_1086.out _; (with_reducible repeat (first | refine blk_drewN ?_ _ | refine blk_drew ?_ | refine blk_alloc ?_ _)); refine blk_far ?_ NB1080_1086.out _; (with_reducible repeat (first | refine blk_drewN ?_ _ | refine blk_drew ?_ | refine blk_alloc ?_ _)); exact BK1080.out) hb); have n7_ := Aside0.mk (blk_below (g := gb1086) (o := .cells #[.string t1081, .slice Ao96 t1082.length co96] 24 (0, 0)) (by (with_reducible repeat (first | refine blk_drewN ?_ _ | refine blk_drew ?_ | refine blk_alloc ?_ _)); refine blk_put (cs := #[.string t1081, .slice none 0 0]) ?_ 1 _ rfl; (with_reducible repeat (first | refine blk_drewN ?_ _ | refine blk_drew ?_ | refine blk_alloc ?_ _)); refine blk_put (cs := #[.string (⟨#[]⟩ : ByteArray), .slice none 0 0]) ?_ 0 _ rfl; (with_reducible repeat (first | refine blk_drewN ?_ _ | refine blk_drew ?_ | refine blk_alloc ?_ _)); exact BK1086.out) hb); have n8_ := Aside0.mk (below_step (by repeat (first | (with_reducible first | exact HB.out | apply below_alloc | apply pw_below_drewN | apply below_drew1 | refine below_set ?_ GE1068.out | refine below_set ?_ GE1074.out | refine below_set ?_ GE1080.out | refine below_set ?_ GE1086.out) | exact HB.out)) hb); clear HO1073; clear HO1078; clear HO1084; clear BK1068; clear BK1074; clear BK1080; clear BK1086; clear HB; have HO1073 := n0_; have HO1078 := n1_; have HO1084 := n2_; have HO1089 := n3_; have BK1068 := n4_; have BK1074 := n5_; have BK1080 := n6_; have BK1086 := n7_; have HB := n8_; clear n0_ n1_ n2_ n3_ n4_ n5_ n6_ n7_ n8_; (try clear hb); (try clear hb2); (try clear hk); (try clear hi); (try clear ho0); obtain ⟨Ao99, co99, eo99⟩ := Kd.N_slice HO1089.out; subst eo99; have hcz100_0 : w98.cell? ⟨gb1074, 0, none⟩ = some (.string t1070) := (blk_cell BK1074.out 0).trans rfl; have hcz100_1 : w98.cell? ⟨gb1074, 1, none⟩ = some (.slice Ao81 t1071.length co81) := (blk_cell BK1074.out 1).trans rfl; have hfz100_0 := blk_frozen BK1074.out 0; have hfz100_1 := blk_frozen BK1074.out 1) | (go_at_call 65; (with_reducible refine (seek_Fields.calls k t1070 _ _ t1071 t1090 _ ?side1 ?side2 A73.out).mono ?_); (case side1 => repeat (first | exact (Kd.R_reads' HO1073.out).2.2 | (with_reducible refine Kd.C_alloc ?_ _) | (with_reducible refine Kd.C_drewN ?_ _) | (with_reducible refine Kd.C_drew ?_))); (case side2 => exact (Kd.R_reads' HO1073.out).2.1); rintro e w101 ⟨v1091, rfl, ho0, hb⟩; have n0_ := Aside0.mk (Kd.R_below (by (with_reducible repeat (first | apply Kd.R_alloc | apply Kd.R_drewN | apply Kd.R_drew)); exact HO1073.out) hb); have n1_ := Aside0.mk (Kd.R_below (by (with_reducible repeat (first | apply Kd.R_alloc | apply Kd.R_drewN | apply Kd.R_drew)); exact HO1078.out) hb); have n2_ := Aside0.mk (Kd.R_below (by (with_reducible repeat (first | apply Kd.R_alloc | apply Kd.R_drewN | apply Kd.R_drew)); exact HO1084.out) hb); have n3_ := Aside0.mk (Kd.N_elder' (by (with_reducible repeat (first | apply Kd.N_alloc | apply Kd.N_drewN | apply Kd.N_drew)); exact HO1089.out) (Kd.N_base ho0) hb); have n4_ := Aside0.mk (Kd.N_lower (Kd.N_mono (ok' := fun k_ => some k_ ≠ (.slice Ao81 t1071.length co81 : Value).ownBlock ∧ some k_ ≠ (.slice Ao88 t1076.length co88 : Value).ownBlock ∧ some k_ ≠ (.slice Ao96 t1082.length co96 : Value).ownBlock ∧ some k_ ≠ (.slice Ao99 t1087.length co99 : Value).ownBlock ∧ k_ ≠ gb1068 ∧ k_ ≠ gb1074 ∧ k_ ≠ gb1080 ∧ k_ ≠ gb1086) ho0 (fun k_ hk_ => ⟨(Kd.fresh' (Kd.R_lt (by (with_reducible repeat (first | apply Kd.R_alloc | apply Kd.R_drewN | apply Kd.R_drew)); exact HO1073.out)) k_ hk_), (Kd.fresh' (Kd.R_lt (by (with_reducible repeat (first | apply Kd.R_alloc | apply Kd.R_drewN | apply Kd.R_drew)); exact HO1078.out)) k_ hk_), (Kd.fresh' (Kd.R_lt (by (with_reducible repeat (first | apply Kd.R_alloc | apply Kd.R_drewN | apply Kd.R_drew)); exact HO1084.out)) k_ hk_), (Kd.fresh' (Kd.N_lt (by (with_reducible repeat (first | apply Kd.N_alloc | apply Kd.N_drewN | apply Kd.N_drew)); exact HO1089.out)) k_ hk_), (Kd.freshB (g := gb1068) (o := .cells #[.string a0_0, .slice A0_1 l0_1.length c0_1] 24 (0, 0)) (by (with_reducible repeat (first | refine blk_drewN ?_ _ | refine blk_drew ?_ | refine blk_alloc ?_ _)); exact BK1068.out) k_ hk_), (Kd.freshB (g := gb1074) (o := .cells #[.string t1070, .slice Ao81 t1071.length co81] 24 (0, 0)) (by (with_reducible repeat (first | refine blk_drewN ?_ _ | refine blk_drew ?_ | refine blk_alloc ?_ _)); exact BK1074.out) k_ hk_), (Kd.freshB (g := gb1080) (o := .cells #[.string t1075, .slice Ao88 t1076.length co88] 24 (0, 0)) (by (with_reducible repeat (first | refine blk_drewN ?_ _ | refine blk_drew ?_ | refine blk_alloc ?_ _)); exact BK1080.out) k_ hk_), (Kd.freshB (g := gb1086) (o := .cells #[.string t1081, .slice Ao96 t1082.length co96] 24 (0, 0)) (by (with_reducible repeat (first | refine blk_drewN ?_ _ | refine blk_drew ?_ | refine blk_alloc ?_ _)); exact BK1086.out) k_ hk_)⟩)) (below_size (by repeat (first | (with_reducible first | exact HB.out | apply below_alloc | apply pw_below_drewN | apply below_drew1 | refine below_set ?_ GE1068.out | refine below_set ?_ GE1074.out | refine below_set ?_ GE1080.out | refine below_set ?_ GE1086.out) | exact HB.out)))); have n5_ := Aside0.mk (blk_below (g := gb1068) (o := .cells #[.string a0_0, .slice A0_1 l0_1.length c0_1] 24 (0, 0)) (by (with_reducible repeat (first | refine blk_drewN ?_ _ | refine blk_drew ?_ | refine blk_alloc ?_ _)); exact BK1068.out) hb); have n6_ := Aside0.mk (blk_below (g := gb1074) (o := .cells #[.string t1070, .slice Ao81 t1071.length co81] 24 (0, 0)) (by (with_reducible repeat (first | refine blk_drewN ?_ _ | refine blk_drew ?_ | refine blk_alloc ?_ _)); exact BK1074.out) hb); have n7_ := Aside0.mk (blk_below (g := gb1080) (o := .cells #[.string t1075, .slice Ao88 t1076.length co88] 24 (0, 0)) (by (with_reducible repeat (first | refine blk_drewN ?_ _ | refine blk_drew ?_ | refine blk_alloc ?_ _)); exact BK1080.out) hb); have n8_ := Aside0.mk (blk_below (g := gb1086) (o := .cells #[.string t1081, .slice Ao96 t1082.length co96] 24 (0, 0)) (by (with_reducible repeat (first | refine blk_drewN ?_ _ | refine blk_drew ?_ | refine blk_alloc ?_ _)); exact BK1086.out) hb); have n9_ := Aside0.mk (below_step (by repeat (first | (with_reducible first | exact HB.out | apply below_alloc | apply pw_below_drewN | apply below_drew1 | refine below_set ?_ GE1068.out | refine below_set ?_ GE1074.out | refine below_set ?_ GE1080.out | refine below_set ?_ GE1086.out) | exact HB.out)) hb); clear HO1073; clear HO1078; clear HO1084; clear HO1089; clear BK1068; clear BK1074; clear BK1080; clear BK1086; clear HB; have HO1073 := n0_; have HO1078 := n1_; have HO1084 := n2_; have HO1089 := n3_; have HO1092 := n4_; have BK1068 := n5_; have BK1074 := n6_; have BK1080 := n7_; have BK1086 := n8_; have HB := n9_; clear n0_ n1_ n2_ n3_ n4_ n5_ n6_ n7_ n8_ n9_; (try clear hb); (try clear hb2); (try clear hk); (try clear hi); (try clear ho0); obtain ⟨Ao102, co102, eo102⟩ := Kd.N_slice HO1092.out; subst eo102; have p1093 : 0 ≤ (0 : Int) := (by omega); have q1093 : 0 < (t1090.length : Int) := of_decide_eq_true (by first | (with_reducible assumption) | assumption); obtain ⟨ad1093, A1093_1, c1093_1, e1093, hx1093_0, hx1093_1, hl1093_1, hi1093_1⟩ := at_T24 (Kd.N_reads' HO1092.out).2.2 0 p1093 q1093; cases e1093; obtain ⟨ce1093, hce1093, hMe1093, hcc1093⟩ := Kd.N_get HO1092.out z24 0 p1093 (by first | exact q1093 | exact of_decide_eq_true (by first | (with_reducible assumption) | assumption) | (have e_ := (Kd.N_reads' HO1092.out).1; omega)); obtain ⟨ua1093_1, uc1093_1, rfl, ul1093_1, ge1093_1⟩ := k24_openF hMe1093; have hv1093_1 := hcc1093 1 _ rfl; rw [add_field _ _ 1 (by omega)] at hv1093_1; replace hv1093_1 := Option.some.inj (hv1093_1.symm.trans hx1093_1); injection hv1093_1 with hva_ hvn_ hvc_; rw [hva_] at ge1093_1; rw [hvc_] at ul1093_1; have HL1093_1 := Aside0.mk (show Kd.V k85 85 _ w.heap.size _ _ ((rd_T24 t1090 0).f1) from Kd.V_mk ul1093_1 ge1093_1); clear hva_ hvn_ hvc_ ge1093_1 ul1093_1; clear hcc1093 hce1093; have qi1093 : (0 < t1090.length) = True := eq_true (by omega); (try rw [show ((0 : Int)).toNat = 0 from rfl] at hx1093_0); (try rw [show 0 * 2 = 0 from rfl] at hx1093_0); (try rw [Addr.add_zero'] at hx1093_0); (try rw [show ((0 : Int)).toNat = 0 from rfl] at hx1093_1); (try rw [show 0 * 2 = 0 from rfl] at hx1093_1); (try rw [Addr.add_zero'] at hx1093_1); have HR1093_1 := Aside0.mk hi1093_1; have HC1093_1 := Aside0.mk hl1093_1; clear hi1093_1 hl1093_1; replace p1093 := eq_true p1093; replace q1093 := eq_true q1093))
      go_ret
      exact ⟨by first | rfl | (simp [errW_none, errW_some] <;> rfl) | (simp [*, errW_none, errW_some] <;> rfl), by repeat (first | (with_reducible first | exact HB.out | apply below_alloc | apply pw_below_drewN | apply below_drew1 | refine below_set ?_ GE1068.out | refine below_set ?_ GE1074.out | refine below_set ?_ GE1080.out | refine below_set ?_ GE1086.out) | exact HB.out)⟩
     ·
      rw [if_neg c74] at H
      exact absurd H (by simp)
    ·
     rw [if_neg c72] at H
     have c72b0 : ((t1087.length : Int) == 1) = false := beq_eq_false_iff_ne.mpr c72
     have c72b1 : ((t1087.length : Int) != 1) = true := bne_iff_ne.mpr c72
     obtain rfl := Option.some.inj H
     go_enter Try.func13, Try.ntmps13
     go_wp2_with (first | ((with_reducible refine gate_dst (N := 2) rfl ?_); refine box_event ?hg (N := 2) ?hd (cs := #[.string a0_0, .slice A0_1 l0_1.length c0_1]) (t := 24) ?hr ?_; (case hd => rfl); (case hg => rfl); (case hr => first | (go_simp; done) | (go_simp; rfl)); intro gb1068 hg w103 hbox hb; have n0_ := Aside0.mk (below_step (by repeat (first | (with_reducible first | exact HB.out | apply below_alloc | apply pw_below_drewN | apply below_drew1) | exact HB.out)) hb); have n1_ := Aside0.mk (hbox); have n2_ := Aside0.mk ((by rw [hg]; exact (below_size (by repeat (first | (with_reducible first | exact HB.out | apply below_alloc | apply pw_below_drewN | apply below_drew1) | exact HB.out))) : w.heap.size ≤ gb1068)); have n3_ := Aside0.mk ((by rw [hg]; exact (below_size (by repeat (first | (with_reducible first | exact HB.out | apply below_alloc | apply pw_below_drewN | apply below_drew1) | exact HB.out))) : w.heap.size ≤ gb1068)); clear HB; have HB := n0_; have BK1068 := n1_; have GW1068 := n2_; have GE1068 := n3_; clear n0_ n1_ n2_ n3_; clear hb hbox hg) | ((with_reducible refine gate_callee (f := 62) rfl ?_); refine goesL_ (some 12) rfl rfl Try.func62 (by kernel_rfl) rfl #[] rfl (by (try simp only [List.map_toArray, List.map_cons, List.map_nil]); first | done | rfl | (simp only [List.length_drop, List.length_take]; rfl)) ?_; (with_reducible refine (glazierlaw41_alive.calls k  true _ A3.out).mono ?_); rintro e w104 ⟨rfl, hb⟩; refine ⟨_, rfl, ?_⟩; have n0_ := Aside0.mk (blk_below (g := gb1068) (o := .cells #[.string a0_0, .slice A0_1 l0_1.length c0_1] 24 (0, 0)) (by (with_reducible repeat (first | refine blk_drewN ?_ _ | refine blk_drew ?_ | refine blk_alloc ?_ _)); exact BK1068.out) hb); have n1_ := Aside0.mk (below_step (by repeat (first | (with_reducible first | exact HB.out | apply below_alloc | apply pw_below_drewN | apply below_drew1 | refine below_set ?_ GE1068.out) | exact HB.out)) hb); clear BK1068; clear HB; have BK1068 := n0_; have HB := n1_; clear n0_ n1_; (try clear hb); (try clear hb2); (try clear hk); (try clear hi)) | ((with_reducible refine gate_callee (f := 63) rfl ?_); refine goesL_ (some 15) rfl rfl Try.func63 (by kernel_rfl) rfl #[.string a1, .int .i64 0] rfl (by (try simp only [List.map_toArray, List.map_cons, List.map_nil]); first | done | rfl | (simp only [List.length_drop, List.length_take]; rfl)) ?_; (with_reducible refine (mark_Of.calls a1 0 t1070 t1071 _ A5.out).mono ?_); rintro e w105 ⟨v1072, rfl, ho0, hb⟩; refine ⟨_, rfl, ?_⟩; have n0_ := Aside0.mk (Kd.R_lower ho0 (below_size (by repeat (first | (with_reducible first | exact HB.out | apply below_alloc | apply pw_below_drewN | apply below_drew1 | refine below_set ?_ GE1068.out) | exact HB.out)))); have n1_ := Aside0.mk (blk_below (g := gb1068) (o := .cells #[.string a0_0, .slice A0_1 l0_1.length c0_1] 24 (0, 0)) (by (with_reducible repeat (first | refine blk_drewN ?_ _ | refine blk_drew ?_ | refine blk_alloc ?_ _)); exact BK1068.out) hb); have n2_ := Aside0.mk (below_step (by repeat (first | (with_reducible first | exact HB.out | apply below_alloc | apply pw_below_drewN | apply below_drew1 | refine below_set ?_ GE1068.out) | exact HB.out)) hb); clear BK1068; clear HB; have HO1073 := n0_; have BK1068 := n1_; have HB := n2_; clear n0_ n1_ n2_; (try clear hb); (try clear hb2); (try clear hk); (try clear hi); (try clear ho0)) | ((with_reducible refine gate_dst (N := 5) rfl ?_); refine box_event ?hg (N := 5) ?hd (cs := #[.string (⟨#[]⟩ : ByteArray), .slice none 0 0]) (t := 24) ?hr ?_; (case hd => rfl); (case hg => rfl); (case hr => first | (go_simp; done) | (go_simp; rfl)); intro gb1074 hg w106 hbox hb; have n0_ := Aside0.mk (Kd.R_below (by (with_reducible repeat (first | apply Kd.R_alloc | apply Kd.R_drewN | apply Kd.R_drew)); exact HO1073.out) hb); have n1_ := Aside0.mk (blk_below (g := gb1068) (o := .cells #[.string a0_0, .slice A0_1 l0_1.length c0_1] 24 (0, 0)) (by (with_reducible repeat (first | refine blk_drewN ?_ _ | refine blk_drew ?_ | refine blk_alloc ?_ _)); exact BK1068.out) hb); have n2_ := Aside0.mk (below_step (by repeat (first | (with_reducible first | exact HB.out | apply below_alloc | apply pw_below_drewN | apply below_drew1 | refine below_set ?_ GE1068.out) | exact HB.out)) hb); have n3_ := Aside0.mk (hbox); have n4_ := Aside0.mk ((by rw [hg]; exact (below_size (by repeat (first | (with_reducible first | exact HB.out | apply below_alloc | apply pw_below_drewN | apply below_drew1 | refine below_set ?_ GE1068.out) | exact HB.out))) : w.heap.size ≤ gb1074)); have n5_ := Aside0.mk ((by rw [hg]; exact (below_size (by repeat (first | (with_reducible first | exact HB.out | apply below_alloc | apply pw_below_drewN | apply below_drew1 | refine below_set ?_ GE1068.out) | exact HB.out))) : w.heap.size ≤ gb1074)); have n6_ := Aside0.mk ((by rw [hg]; exact Nat.ne_of_lt (blk_lt (g := gb1068) (o := .cells #[.string a0_0, .slice A0_1 l0_1.length c0_1] 24 (0, 0)) (by (with_reducible repeat (first | refine blk_drewN ?_ _ | refine blk_drew ?_ | refine blk_alloc ?_ _)); exact BK1068.out)) : gb1068 ≠ gb1074)); have n7_ := Aside0.mk ((by rw [hg]; exact Nat.ne_of_gt (blk_lt (g := gb1068) (o := .cells #[.string a0_0, .slice A0_1 l0_1.length c0_1] 24 (0, 0)) (by (with_reducible repeat (first | refine blk_drewN ?_ _ | refine blk_drew ?_ | refine blk_alloc ?_ _)); exact BK1068.out)) : gb1074 ≠ gb1068)); clear HO1073; clear BK1068; clear HB; have HO1073 := n0_; have BK1068 := n1_; have HB := n2_; have BK1074 := n3_; have GW1074 := n4_; have GE1074 := n5_; have NB1068_1074 := n6_; have NB1074_1068 := n7_; clear n0_ n1_ n2_ n3_ n4_ n5_ n6_ n7_; clear hb hbox hg; have hnb107 := NB1074_1068.out; have hnc107 := NB1068_1074.out; have hcz108_0 : w106.cell? ⟨gb1074, 0, none⟩ = some (.string (⟨#[]⟩ : ByteArray)) := (blk_cell BK1074.out 0).trans rfl; have hcz108_1 : w106.cell? ⟨gb1074, 1, none⟩ = some (.slice none 0 0) := (blk_cell BK1074.out 1).trans rfl; have hfz108_0 := blk_frozen BK1074.out 0; have hfz108_1 := blk_frozen BK1074.out 1; obtain ⟨Ao109, co109, eo109⟩ := Kd.R_slice HO1073.out; subst eo109; have hcz110_0 : w106.cell? ⟨gb1068, 0, none⟩ = some (.string a0_0) := (blk_cell BK1068.out 0).trans rfl; have hcz110_1 : w106.cell? ⟨gb1068, 1, none⟩ = some (.slice A0_1 l0_1.length c0_1) := (blk_cell BK1068.out 1).trans rfl; have hfz110_0 := blk_frozen BK1068.out 0; have hfz110_1 := blk_frozen BK1068.out 1) | ((with_reducible refine gate_callee (f := 64) rfl ?_); refine goesL_ (some 19) rfl rfl Try.func64 (by kernel_rfl) rfl #[.agg #[.string a0_0, .slice A0_1 l0_1.length c0_1], .agg #[.string t1070, .slice Ao109 t1071.length co109]] rfl (by (try simp only [List.map_toArray, List.map_cons, List.map_nil]); first | done | rfl | (simp only [List.length_drop, List.length_take]; rfl)) ?_; (with_reducible refine (classes_Turn.calls k a0_0 _ _ l0_1 t1070 _ _ t1071 t1075 t1076 t1079 _ ?side1 ?side2 ?side3 ?side4 A6.out).mono ?_); (case side1 => exact Kd.C_below HR0_1.out (by repeat (first | (with_reducible first | exact HB.out | apply below_alloc | apply pw_below_drewN | apply below_drew1 | refine below_set ?_ GE1068.out | refine below_set ?_ GE1074.out) | exact HB.out))); (case side2 => exact HC0_1.out); (case side3 => refine (Kd.R_reads' (e := 85) (base := w.heap.size) (ok := fun k_ => True) (n := t1071.length) (c := co109) ?_).2.2; exact (by (with_reducible repeat (first | apply Kd.R_alloc | apply Kd.R_drewN | apply Kd.R_drew)); exact (Kd.R_mono (Kd.R_far (p := ⟨gb1074, 1, none⟩) (Kd.R_far (p := ⟨gb1074, 0, none⟩) (Kd.R_types HO1073.out BK1074.out (by decide)) (fun _ hk => hk.2) (.string t1070)) (fun _ hk => hk.2) (.slice Ao109 t1071.length co109)) (fun _ h_ => h_.1)))); (case side4 => exact (Kd.R_reads' HO1073.out).2.1); rintro e w111 ⟨v1077, rfl, ho0, hb⟩; refine ⟨_, rfl, ?_⟩; have n0_ := Aside0.mk (Kd.R_elder' (by (with_reducible repeat (first | apply Kd.R_alloc | apply Kd.R_drewN | apply Kd.R_drew)); exact (Kd.R_mono (Kd.R_far (p := ⟨gb1074, 1, none⟩) (Kd.R_far (p := ⟨gb1074, 0, none⟩) (Kd.R_types HO1073.out BK1074.out (by decide)) (fun _ hk => hk.2) (.string t1070)) (fun _ hk => hk.2) (.slice Ao109 t1071.length co109)) (fun _ h_ => h_.1))) (Kd.R_base ho0) hb); have n1_ := Aside0.mk (Kd.R_lower (Kd.R_new' ho0 (Kd.R_lt (by (with_reducible repeat (first | apply Kd.R_alloc | apply Kd.R_drewN | apply Kd.R_drew)); exact (Kd.R_mono (Kd.R_far (p := ⟨gb1074, 1, none⟩) (Kd.R_far (p := ⟨gb1074, 0, none⟩) (Kd.R_types HO1073.out BK1074.out (by decide)) (fun _ hk => hk.2) (.string t1070)) (fun _ hk => hk.2) (.slice Ao109 t1071.length co109)) (fun _ h_ => h_.1))))) (below_size (by repeat (first | (with_reducible first | exact HB.out | apply below_alloc | apply pw_below_drewN | apply below_drew1 | refine below_set ?_ GE1068.out | refine below_set ?_ GE1074.out) | exact HB.out)))); have n2_ := Aside0.mk (blk_below (g := gb1068) (o := .cells #[.string a0_0, .slice A0_1 l0_1.length c0_1] 24 (0, 0)) (by (with_reducible repeat (first | refine blk_drewN ?_ _ | refine blk_drew ?_ | refine blk_alloc ?_ _)); refine blk_far ?_ NB1068_1074.out _; (with_reducible repeat (first | refine blk_drewN ?_ _ | refine blk_drew ?_ | refine blk_alloc ?_ _)); refine blk_far ?_ NB1068_1074.out _; (with_reducible repeat (first | refine blk_drewN ?_ _ | refine blk_drew ?_ | refine blk_alloc ?_ _)); exact BK1068.out) hb); have n3_ := Aside0.mk (blk_below (g := gb1074) (o := .cells #[.string t1070, .slice Ao109 t1071.length co109] 24 (0, 0)) (by (with_reducible repeat (first | refine blk_drewN ?_ _ | refine blk_drew ?_ | refine blk_alloc ?_ _)); refine blk_put (cs := #[.string t1070, .slice none 0 0]) ?_ 1 _ rfl; (with_reducible repeat (first | refine blk_drewN ?_ _ | refine blk_drew ?_ | refine blk_alloc ?_ _)); refine blk_put (cs := #[.string (⟨#[]⟩ : ByteArray), .slice none 0 0]) ?_ 0 _ rfl; (with_reducible repeat (first | refine blk_drewN ?_ _ | refine blk_drew ?_ | refine blk_alloc ?_ _)); exact BK1074.out) hb); have n4_ := Aside0.mk (below_step (by repeat (first | (with_reducible first | exact HB.out | apply below_alloc | apply pw_below_drewN | apply below_drew1 | refine below_set ?_ GE1068.out | refine below_set ?_ GE1074.out) | exact HB.out)) hb); clear HO1073; clear BK1068; clear BK1074; clear HB; have HO1073 := n0_; have HO1078 := n1_; have BK1068 := n2_; have BK1074 := n3_; have HB := n4_; clear n0_ n1_ n2_ n3_ n4_; (try clear hb); (try clear hb2); (try clear hk); (try clear hi); (try clear ho0)) | ((with_reducible refine gate_dst (N := 6) rfl ?_); refine box_event ?hg (N := 6) ?hd (cs := #[.string (⟨#[]⟩ : ByteArray), .slice none 0 0]) (t := 24) ?hr ?_; (case hd => rfl); (case hg => rfl); (case hr => first | (go_simp; done) | (go_simp; rfl)); intro gb1080 hg w112 hbox hb; have n0_ := Aside0.mk (Kd.R_below (by (with_reducible repeat (first | apply Kd.R_alloc | apply Kd.R_drewN | apply Kd.R_drew)); exact HO1073.out) hb); have n1_ := Aside0.mk (Kd.R_below (by (with_reducible repeat (first | apply Kd.R_alloc | apply Kd.R_drewN | apply Kd.R_drew)); exact HO1078.out) hb); have n2_ := Aside0.mk (blk_below (g := gb1068) (o := .cells #[.string a0_0, .slice A0_1 l0_1.length c0_1] 24 (0, 0)) (by (with_reducible repeat (first | refine blk_drewN ?_ _ | refine blk_drew ?_ | refine blk_alloc ?_ _)); exact BK1068.out) hb); have n3_ := Aside0.mk (blk_below (g := gb1074) (o := .cells #[.string t1070, .slice Ao109 t1071.length co109] 24 (0, 0)) (by (with_reducible repeat (first | refine blk_drewN ?_ _ | refine blk_drew ?_ | refine blk_alloc ?_ _)); exact BK1074.out) hb); have n4_ := Aside0.mk (below_step (by repeat (first | (with_reducible first | exact HB.out | apply below_alloc | apply pw_below_drewN | apply below_drew1 | refine below_set ?_ GE1068.out | refine below_set ?_ GE1074.out) | exact HB.out)) hb); have n5_ := Aside0.mk (hbox); have n6_ := Aside0.mk ((by rw [hg]; exact (below_size (by repeat (first | (with_reducible first | exact HB.out | apply below_alloc | apply pw_below_drewN | apply below_drew1 | refine below_set ?_ GE1068.out | refine below_set ?_ GE1074.out) | exact HB.out))) : w.heap.size ≤ gb1080)); have n7_ := Aside0.mk ((by rw [hg]; exact (below_size (by repeat (first | (with_reducible first | exact HB.out | apply below_alloc | apply pw_below_drewN | apply below_drew1 | refine below_set ?_ GE1068.out | refine below_set ?_ GE1074.out) | exact HB.out))) : w.heap.size ≤ gb1080)); have n8_ := Aside0.mk ((by rw [hg]; exact Nat.ne_of_lt (blk_lt (g := gb1068) (o := .cells #[.string a0_0, .slice A0_1 l0_1.length c0_1] 24 (0, 0)) (by (with_reducible repeat (first | refine blk_drewN ?_ _ | refine blk_drew ?_ | refine blk_alloc ?_ _)); exact BK1068.out)) : gb1068 ≠ gb1080)); have n9_ := Aside0.mk ((by rw [hg]; exact Nat.ne_of_gt (blk_lt (g := gb1068) (o := .cells #[.string a0_0, .slice A0_1 l0_1.length c0_1] 24 (0, 0)) (by (with_reducible repeat (first | refine blk_drewN ?_ _ | refine blk_drew ?_ | refine blk_alloc ?_ _)); exact BK1068.out)) : gb1080 ≠ gb1068)); have n10_ := Aside0.mk ((by rw [hg]; exact Nat.ne_of_lt (blk_lt (g := gb1074) (o := .cells #[.string t1070, .slice Ao109 t1071.length co109] 24 (0, 0)) (by (with_reducible repeat (first | refine blk_drewN ?_ _ | refine blk_drew ?_ | refine blk_alloc ?_ _)); exact BK1074.out)) : gb1074 ≠ gb1080)); have n11_ := Aside0.mk ((by rw [hg]; exact Nat.ne_of_gt (blk_lt (g := gb1074) (o := .cells #[.string t1070, .slice Ao109 t1071.length co109] 24 (0, 0)) (by (with_reducible repeat (first | refine blk_drewN ?_ _ | refine blk_drew ?_ | refine blk_alloc ?_ _)); exact BK1074.out)) : gb1080 ≠ gb1074)); clear HO1073; clear HO1078; clear BK1068; clear BK1074; clear HB; have HO1073 := n0_; have HO1078 := n1_; have BK1068 := n2_; have BK1074 := n3_; have HB := n4_; have BK1080 := n5_; have GW1080 := n6_; have GE1080 := n7_; have NB1068_1080 := n8_; have NB1080_1068 := n9_; have NB1074_1080 := n10_; have NB1080_1074 := n11_; clear n0_ n1_ n2_ n3_ n4_ n5_ n6_ n7_ n8_ n9_ n10_ n11_; clear hb hbox hg; have hnb113 := NB1080_1068.out; have hnc113 := NB1068_1080.out; have hnb114 := NB1080_1074.out; have hnc114 := NB1074_1080.out; have hcz115_0 : w112.cell? ⟨gb1080, 0, none⟩ = some (.string (⟨#[]⟩ : ByteArray)) := (blk_cell BK1080.out 0).trans rfl; have hcz115_1 : w112.cell? ⟨gb1080, 1, none⟩ = some (.slice none 0 0) := (blk_cell BK1080.out 1).trans rfl; have hfz115_0 := blk_frozen BK1080.out 0; have hfz115_1 := blk_frozen BK1080.out 1; obtain ⟨Ao116, co116, eo116⟩ := Kd.R_slice HO1078.out; subst eo116; have hcz117_0 : w112.cell? ⟨gb1074, 0, none⟩ = some (.string t1070) := (blk_cell BK1074.out 0).trans rfl; have hcz117_1 : w112.cell? ⟨gb1074, 1, none⟩ = some (.slice Ao109 t1071.length co109) := (blk_cell BK1074.out 1).trans rfl; have hfz117_0 := blk_frozen BK1074.out 0; have hfz117_1 := blk_frozen BK1074.out 1) | ((with_reducible refine gate_callee (f := 64) rfl ?_); refine goesL_ (some 25) rfl rfl Try.func64 (by kernel_rfl) rfl #[.agg #[.string t1075, .slice Ao116 t1076.length co116], .agg #[.string t1070, .slice Ao109 t1071.length co109]] rfl (by (try simp only [List.map_toArray, List.map_cons, List.map_nil]); first | done | rfl | (simp only [List.length_drop, List.length_take]; rfl)) ?_; (with_reducible refine (classes_Turn.calls k t1075 _ _ t1076 t1070 _ _ t1071 t1081 t1082 t1085 _ ?side1 ?side2 ?side3 ?side4 A7.out).mono ?_); (case side1 => refine (Kd.R_reads' (e := 85) (base := w.heap.size) (ok := fun k_ => (True ∧ some k_ ≠ (.slice Ao109 t1071.length co109 : Value).ownBlock)) (n := t1076.length) (c := co116) ?_).2.2; exact (by (with_reducible repeat (first | apply Kd.R_alloc | apply Kd.R_drewN | apply Kd.R_drew)); exact (Kd.R_mono (Kd.R_far (p := ⟨gb1080, 1, none⟩) (Kd.R_far (p := ⟨gb1080, 0, none⟩) (Kd.R_types HO1078.out BK1080.out (by decide)) (fun _ hk => hk.2) (.string t1075)) (fun _ hk => hk.2) (.slice Ao116 t1076.length co116)) (fun _ h_ => h_.1)))); (case side2 => exact (Kd.R_reads' HO1078.out).2.1); (case side3 => refine (Kd.R_reads' (e := 85) (base := w.heap.size) (ok := fun k_ => (True ∧ some k_ ≠ (.slice Ao116 t1076.length co116 : Value).ownBlock)) (n := t1071.length) (c := co109) ?_).2.2; exact (by (with_reducible repeat (first | apply Kd.R_alloc | apply Kd.R_drewN | apply Kd.R_drew)); exact (Kd.R_mono (Kd.R_far (p := ⟨gb1080, 1, none⟩) (Kd.R_far (p := ⟨gb1080, 0, none⟩) (Kd.R_types HO1073.out BK1080.out (by decide)) (fun _ hk => hk.2) (.string t1075)) (fun _ hk => hk.2) (.slice Ao116 t1076.length co116)) (fun _ h_ => h_.1)))); (case side4 => exact (Kd.R_reads' HO1073.out).2.1); rintro e w118 ⟨v1083, rfl, ho0, hb⟩; refine ⟨_, rfl, ?_⟩; have n0_ := Aside0.mk (Kd.R_elder' (by (with_reducible repeat (first | apply Kd.R_alloc | apply Kd.R_drewN | apply Kd.R_drew)); exact (Kd.R_mono (Kd.R_far (p := ⟨gb1080, 1, none⟩) (Kd.R_far (p := ⟨gb1080, 0, none⟩) (Kd.R_types HO1073.out BK1080.out (by decide)) (fun _ hk => hk.2) (.string t1075)) (fun _ hk => hk.2) (.slice Ao116 t1076.length co116)) (fun _ h_ => h_.1))) (Kd.R_base ho0) hb); have n1_ := Aside0.mk (Kd.R_elder' (by (with_reducible repeat (first | apply Kd.R_alloc | apply Kd.R_drewN | apply Kd.R_drew)); exact (Kd.R_mono (Kd.R_far (p := ⟨gb1080, 1, none⟩) (Kd.R_far (p := ⟨gb1080, 0, none⟩) (Kd.R_types HO1078.out BK1080.out (by decide)) (fun _ hk => hk.2) (.string t1075)) (fun _ hk => hk.2) (.slice Ao116 t1076.length co116)) (fun _ h_ => h_.1))) (Kd.R_base ho0) hb); have n2_ := Aside0.mk (Kd.R_lower (Kd.R_new' (Kd.R_new' ho0 (Kd.R_lt (by (with_reducible repeat (first | apply Kd.R_alloc | apply Kd.R_drewN | apply Kd.R_drew)); exact (Kd.R_mono (Kd.R_far (p := ⟨gb1080, 1, none⟩) (Kd.R_far (p := ⟨gb1080, 0, none⟩) (Kd.R_types HO1073.out BK1080.out (by decide)) (fun _ hk => hk.2) (.string t1075)) (fun _ hk => hk.2) (.slice Ao116 t1076.length co116)) (fun _ h_ => h_.1))))) (Kd.R_lt (by (with_reducible repeat (first | apply Kd.R_alloc | apply Kd.R_drewN | apply Kd.R_drew)); exact (Kd.R_mono (Kd.R_far (p := ⟨gb1080, 1, none⟩) (Kd.R_far (p := ⟨gb1080, 0, none⟩) (Kd.R_types HO1078.out BK1080.out (by decide)) (fun _ hk => hk.2) (.string t1075)) (fun _ hk => hk.2) (.slice Ao116 t1076.length co116)) (fun _ h_ => h_.1))))) (below_size (by repeat (first | (with_reducible first | exact HB.out | apply below_alloc | apply pw_below_drewN | apply below_drew1 | refine below_set ?_ GE1068.out | refine below_set ?_ GE1074.out | refine below_set ?_ GE1080.out) | exact HB.out)))); have n3_ := Aside0.mk (blk_below (g := gb1068) (o := .cells #[.string a0_0, .slice A0_1 l0_1.length c0_1] 24 (0, 0)) (by (with_reducible repeat (first | refine blk_drewN ?_ _ | refine blk_drew ?_ | refine blk_alloc ?_ _)); refine blk_far ?_ NB1068_1080.out _; (with_reducible repeat (first | refine blk_drewN ?_ _ | refine blk_drew ?_ | refine blk_alloc ?_ _)); refine blk_far ?_ NB1068_1080.out _; (with_reducible repeat (first | refine blk_drewN ?_ _ | refine blk_drew ?_ | refine blk_alloc ?_ _)); exact BK1068.out) hb); have n4_ := Aside0.mk (blk_below (g := gb1074) (o := .cells #[.string t1070, .slice Ao109 t1071.length co109] 24 (0, 0)) (by (with_reducible repeat (first | refine blk_drewN ?_ _ | refine blk_drew ?_ | refine blk_alloc ?_ _)); refine blk_far ?_ NB1074_1080.out _; (with_reducible repeat (first | refine blk_drewN ?_ _ | refine blk_drew ?_ | refine blk_alloc ?_ _)); refine blk_far ?_ NB1074_1080.out _; (with_reducible repeat (first | refine blk_drewN ?_ _ | refine blk_drew ?_ | refine blk_alloc ?_ _)); exact BK1074.out) hb); have n5_ := Aside0.mk (blk_below (g := gb1080) (o := .cells #[.string t1075, .slice Ao116 t1076.length co116] 24 (0, 0)) (by (with_reducible repeat (first | refine blk_drewN ?_ _ | refine blk_drew ?_ | refine blk_alloc ?_ _)); refine blk_put (cs := #[.string t1075, .slice none 0 0]) ?_ 1 _ rfl; (with_reducible repeat (first | refine blk_drewN ?_ _ | refine blk_drew ?_ | refine blk_alloc ?_ _)); refine blk_put (cs := #[.string (⟨#[]⟩ : ByteArray), .slice none 0 0]) ?_ 0 _ rfl; (with_reducible repeat (first | refine blk_drewN ?_ _ | refine blk_drew ?_ | refine blk_alloc ?_ _)); exact BK1080.out) hb); have n6_ := Aside0.mk (below_step (by repeat (first | (with_reducible first | exact HB.out | apply below_alloc | apply pw_below_drewN | apply below_drew1 | refine below_set ?_ GE1068.out | refine below_set ?_ GE1074.out | refine below_set ?_ GE1080.out) | exact HB.out)) hb); clear HO1073; clear HO1078; clear BK1068; clear BK1074; clear BK1080; clear HB; have HO1073 := n0_; have HO1078 := n1_; have HO1084 := n2_; have BK1068 := n3_; have BK1074 := n4_; have BK1080 := n5_; have HB := n6_; clear n0_ n1_ n2_ n3_ n4_ n5_ n6_; (try clear hb); (try clear hb2); (try clear hk); (try clear hi); (try clear ho0)) | ((with_reducible refine gate_dst (N := 8) rfl ?_); refine box_event ?hg (N := 8) ?hd (cs := #[.string (⟨#[]⟩ : ByteArray), .slice none 0 0]) (t := 24) ?hr ?_; (case hd => rfl); (case hg => rfl); (case hr => first | (go_simp; done) | (go_simp; rfl)); intro gb1086 hg w119 hbox hb; have n0_ := Aside0.mk (Kd.R_below (by (with_reducible repeat (first | apply Kd.R_alloc | apply Kd.R_drewN | apply Kd.R_drew)); exact HO1073.out) hb); have n1_ := Aside0.mk (Kd.R_below (by (with_reducible repeat (first | apply Kd.R_alloc | apply Kd.R_drewN | apply Kd.R_drew)); exact HO1078.out) hb); have n2_ := Aside0.mk (Kd.R_below (by (with_reducible repeat (first | apply Kd.R_alloc | apply Kd.R_drewN | apply Kd.R_drew)); exact HO1084.out) hb); have n3_ := Aside0.mk (blk_below (g := gb1068) (o := .cells #[.string a0_0, .slice A0_1 l0_1.length c0_1] 24 (0, 0)) (by (with_reducible repeat (first | refine blk_drewN ?_ _ | refine blk_drew ?_ | refine blk_alloc ?_ _)); exact BK1068.out) hb); have n4_ := Aside0.mk (blk_below (g := gb1074) (o := .cells #[.string t1070, .slice Ao109 t1071.length co109] 24 (0, 0)) (by (with_reducible repeat (first | refine blk_drewN ?_ _ | refine blk_drew ?_ | refine blk_alloc ?_ _)); exact BK1074.out) hb); have n5_ := Aside0.mk (blk_below (g := gb1080) (o := .cells #[.string t1075, .slice Ao116 t1076.length co116] 24 (0, 0)) (by (with_reducible repeat (first | refine blk_drewN ?_ _ | refine blk_drew ?_ | refine blk_alloc ?_ _)); exact BK1080.out) hb); have n6_ := Aside0.mk (below_step (by repeat (first | (with_reducible first | exact HB.out | apply below_alloc | apply pw_below_drewN | apply below_drew1 | refine below_set ?_ GE1068.out | refine below_set ?_ GE1074.out | refine below_set ?_ GE1080.out) | exact HB.out)) hb); have n7_ := Aside0.mk (hbox); have n8_ := Aside0.mk ((by rw [hg]; exact (below_size (by repeat (first | (with_reducible first | exact HB.out | apply below_alloc | apply pw_below_drewN | apply below_drew1 | refine below_set ?_ GE1068.out | refine below_set ?_ GE1074.out | refine below_set ?_ GE1080.out) | exact HB.out))) : w.heap.size ≤ gb1086)); have n9_ := Aside0.mk ((by rw [hg]; exact (below_size (by repeat (first | (with_reducible first | exact HB.out | apply below_alloc | apply pw_below_drewN | apply below_drew1 | refine below_set ?_ GE1068.out | refine below_set ?_ GE1074.out | refine below_set ?_ GE1080.out) | exact HB.out))) : w.heap.size ≤ gb1086)); have n10_ := Aside0.mk ((by rw [hg]; exact Nat.ne_of_lt (blk_lt (g := gb1068) (o := .cells #[.string a0_0, .slice A0_1 l0_1.length c0_1] 24 (0, 0)) (by (with_reducible repeat (first | refine blk_drewN ?_ _ | refine blk_drew ?_ | refine blk_alloc ?_ _)); exact BK1068.out)) : gb1068 ≠ gb1086)); have n11_ := Aside0.mk ((by rw [hg]; exact Nat.ne_of_gt (blk_lt (g := gb1068) (o := .cells #[.string a0_0, .slice A0_1 l0_1.length c0_1] 24 (0, 0)) (by (with_reducible repeat (first | refine blk_drewN ?_ _ | refine blk_drew ?_ | refine blk_alloc ?_ _)); exact BK1068.out)) : gb1086 ≠ gb1068)); have n12_ := Aside0.mk ((by rw [hg]; exact Nat.ne_of_lt (blk_lt (g := gb1074) (o := .cells #[.string t1070, .slice Ao109 t1071.length co109] 24 (0, 0)) (by (with_reducible repeat (first | refine blk_drewN ?_ _ | refine blk_drew ?_ | refine blk_alloc ?_ _)); exact BK1074.out)) : gb1074 ≠ gb1086)); have n13_ := Aside0.mk ((by rw [hg]; exact Nat.ne_of_gt (blk_lt (g := gb1074) (o := .cells #[.string t1070, .slice Ao109 t1071.length co109] 24 (0, 0)) (by (with_reducible repeat (first | refine blk_drewN ?_ _ | refine blk_drew ?_ | refine blk_alloc ?_ _)); exact BK1074.out)) : gb1086 ≠ gb1074)); have n14_ := Aside0.mk ((by rw [hg]; exact Nat.ne_of_lt (blk_lt (g := gb1080) (o := .cells #[.string t1075, .slice Ao116 t1076.length co116] 24 (0, 0)) (by (with_reducible repeat (first | refine blk_drewN ?_ _ | refine blk_drew ?_ | refine blk_alloc ?_ _)); exact BK1080.out)) : gb1080 ≠ gb1086)); have n15_ := Aside0.mk ((by rw [hg]; exact Nat.ne_of_gt (blk_lt (g := gb1080) (o := .cells #[.string t1075, .slice Ao116 t1076.length co116] 24 (0, 0)) (by (with_reducible repeat (first | refine blk_drewN ?_ _ | refine blk_drew ?_ | refine blk_alloc ?_ _)); exact BK1080.out)) : gb1086 ≠ gb1080)); clear HO1073; clear HO1078; clear HO1084; clear BK1068; clear BK1074; clear BK1080; clear HB; have HO1073 := n0_; have HO1078 := n1_; have HO1084 := n2_; have BK1068 := n3_; have BK1074 := n4_; have BK1080 := n5_; have HB := n6_; have BK1086 := n7_; have GW1086 := n8_; have GE1086 := n9_; have NB1068_1086 := n10_; have NB1086_1068 := n11_; have NB1074_1086 := n12_; have NB1086_1074 := n13_; have NB1080_1086 := n14_; have NB1086_1080 := n15_; clear n0_ n1_ n2_ n3_ n4_ n5_ n6_ n7_ n8_ n9_ n10_ n11_ n12_ n13_ n14_ n15_; clear hb hbox hg; have hnb120 := NB1086_1068.out; have hnc120 := NB1068_1086.out; have hnb121 := NB1086_1074.out; have hnc121 := NB1074_1086.out; have hnb122 := NB1086_1080.out; have hnc122 := NB1080_1086.out; have hcz123_0 : w119.cell? ⟨gb1086, 0, none⟩ = some (.string (⟨#[]⟩ : ByteArray)) := (blk_cell BK1086.out 0).trans rfl; have hcz123_1 : w119.cell? ⟨gb1086, 1, none⟩ = some (.slice none 0 0) := (blk_cell BK1086.out 1).trans rfl; have hfz123_0 := blk_frozen BK1086.out 0; have hfz123_1 := blk_frozen BK1086.out 1; obtain ⟨Ao124, co124, eo124⟩ := Kd.R_slice HO1084.out; subst eo124; have hcz125_0 : w119.cell? ⟨gb1074, 0, none⟩ = some (.string t1070) := (blk_cell BK1074.out 0).trans rfl; have hcz125_1 : w119.cell? ⟨gb1074, 1, none⟩ = some (.slice Ao109 t1071.length co109) := (blk_cell BK1074.out 1).trans rfl; have hfz125_0 := blk_frozen BK1074.out 0; have hfz125_1 := blk_frozen BK1074.out 1) | (go_at_call 65; (with_reducible refine (seek_Fields.calls k t1070 _ _ t1071 t1087 _ ?side1 ?side2 A71.out).mono ?_); (case side1 => refine (Kd.R_reads' (e := 85) (base := w.heap.size) (ok := fun k_ => ((True ∧ some k_ ≠ (.slice Ao116 t1076.length co116 : Value).ownBlock) ∧ some k_ ≠ (.slice Ao124 t1082.length co124 : Value).ownBlock)) (n := t1071.length) (c := co109) ?_).2.2; exact (by (with_reducible repeat (first | apply Kd.R_alloc | apply Kd.R_drewN | apply Kd.R_drew)); exact (Kd.R_mono (Kd.R_far (p := ⟨gb1086, 1, none⟩) (Kd.R_far (p := ⟨gb1086, 0, none⟩) (Kd.R_types HO1073.out BK1086.out (by decide)) (fun _ hk => hk.2) (.string t1081)) (fun _ hk => hk.2) (.slice Ao124 t1082.length co124)) (fun _ h_ => h_.1)))); (case side2 => exact (Kd.R_reads' HO1073.out).2.1); rintro e w126 ⟨v1088, rfl, ho0, hb⟩; have n0_ := Aside0.mk (Kd.R_below (by (with_reducible repeat (first | apply Kd.R_alloc | apply Kd.R_drewN | apply Kd.R_drew)); exact (Kd.R_mono (Kd.R_far (p := ⟨gb1086, 1, none⟩) (Kd.R_far (p := ⟨gb1086, 0, none⟩) (Kd.R_types HO1073.out BK1086.out (by decide)) (fun _ hk => hk.2) (.string t1081)) (fun _ hk => hk.2) (.slice Ao124 t1082.length co124)) (fun _ h_ => h_.1))) hb); have n1_ := Aside0.mk (Kd.R_below (by (with_reducible repeat (first | apply Kd.R_alloc | apply Kd.R_drewN | apply Kd.R_drew)); exact (Kd.R_mono (Kd.R_far (p := ⟨gb1086, 1, none⟩) (Kd.R_far (p := ⟨gb1086, 0, none⟩) (Kd.R_types HO1078.out BK1086.out (by decide)) (fun _ hk => hk.2) (.string t1081)) (fun _ hk => hk.2) (.slice Ao124 t1082.length co124)) (fun _ h_ => h_.1))) hb); have n2_ := Aside0.mk (Kd.R_below (by (with_reducible repeat (first | apply Kd.R_alloc | apply Kd.R_drewN | apply Kd.R_drew)); exact (Kd.R_mono (Kd.R_far (p := ⟨gb1086, 1, none⟩) (Kd.R_far (p := ⟨gb1086, 0, none⟩) (Kd.R_types HO1084.out BK1086.out (by decide)) (fun _ hk => hk.2) (.string t1081)) (fun _ hk => hk.2) (.slice Ao124 t1082.length co124)) (fun _ h_ => h_.1))) hb); have n3_ := Aside0.mk (Kd.N_lower (Kd.N_mono (ok' := fun k_ => some k_ ≠ (.slice Ao109 t1071.length co109 : Value).ownBlock ∧ some k_ ≠ (.slice Ao116 t1076.length co116 : Value).ownBlock ∧ some k_ ≠ (.slice Ao124 t1082.length co124 : Value).ownBlock ∧ k_ ≠ gb1068 ∧ k_ ≠ gb1074 ∧ k_ ≠ gb1080 ∧ k_ ≠ gb1086) ho0 (fun k_ hk_ => ⟨(Kd.fresh' (Kd.R_lt (by (with_reducible repeat (first | apply Kd.R_alloc | apply Kd.R_drewN | apply Kd.R_drew)); exact (Kd.R_mono (Kd.R_far (p := ⟨gb1086, 1, none⟩) (Kd.R_far (p := ⟨gb1086, 0, none⟩) (Kd.R_types HO1073.out BK1086.out (by decide)) (fun _ hk => hk.2) (.string t1081)) (fun _ hk => hk.2) (.slice Ao124 t1082.length co124)) (fun _ h_ => h_.1)))) k_ hk_), (Kd.fresh' (Kd.R_lt (by (with_reducible repeat (first | apply Kd.R_alloc | apply Kd.R_drewN | apply Kd.R_drew)); exact (Kd.R_mono (Kd.R_far (p := ⟨gb1086, 1, none⟩) (Kd.R_far (p := ⟨gb1086, 0, none⟩) (Kd.R_types HO1078.out BK1086.out (by decide)) (fun _ hk => hk.2) (.string t1081)) (fun _ hk => hk.2) (.slice Ao124 t1082.length co124)) (fun _ h_ => h_.1)))) k_ hk_), (Kd.fresh' (Kd.R_lt (by (with_reducible repeat (first | apply Kd.R_alloc | apply Kd.R_drewN | apply Kd.R_drew)); exact (Kd.R_mono (Kd.R_far (p := ⟨gb1086, 1, none⟩) (Kd.R_far (p := ⟨gb1086, 0, none⟩) (Kd.R_types HO1084.out BK1086.out (by decide)) (fun _ hk => hk.2) (.string t1081)) (fun _ hk => hk.2) (.slice Ao124 t1082.length co124)) (fun _ h_ => h_.1)))) k_ hk_), (Kd.freshB (g := gb1068) (o := .cells #[.string a0_0, .slice A0_1 l0_1.length c0_1] 24 (0, 0)) (by (with_reducible repeat (first | refine blk_drewN ?_ _ | refine blk_drew ?_ | refine blk_alloc ?_ _)); refine blk_far ?_ NB1068_1086.out _; (with_reducible repeat (first | refine blk_drewN ?_ _ | refine blk_drew ?_ | refine blk_alloc ?_ _)); refine blk_far ?_ NB1068_1086.out _; (with_reducible repeat (first | refine blk_drewN ?_ _ | refine blk_drew ?_ | refine blk_alloc ?_ _)); exact BK1068.out) k_ hk_), (Kd.freshB (g := gb1074) (o := .cells #[.string t1070, .slice Ao109 t1071.length co109] 24 (0, 0)) (by (with_reducible repeat (first | refine blk_drewN ?_ _ | refine blk_drew ?_ | refine blk_alloc ?_ _)); refine blk_far ?_ NB1074_1086.out _; (with_reducible repeat (first | refine blk_drewN ?_ _ | refine blk_drew ?_ | refine blk_alloc ?_ _)); refine blk_far ?_ NB1074_1086.out _; (with_reducible repeat (first | refine blk_drewN ?_ _ | refine blk_drew ?_ | refine blk_alloc ?_ _)); exact BK1074.out) k_ hk_), (Kd.freshB (g := gb1080) (o := .cells #[.string t1075, .slice Ao116 t1076.length co116] 24 (0, 0)) (by (with_reducible repeat (first | refine blk_drewN ?_ _ | refine blk_drew ?_ | refine blk_alloc ?_ _)); refine blk_far ?_ NB1080_1086.out _; (with_reducible repeat (first | refine blk_drewN ?_ _ | refine blk_drew ?_ | refine blk_alloc ?_ _)); refine blk_far ?_ NB1080_1086.out _; (with_reducible repeat (first | refine blk_drewN ?_ _ | refine blk_drew ?_ | refine blk_alloc ?_ _)); exact BK1080.out) k_ hk_), (Kd.freshB (g := gb1086) (o := .cells #[.string t1081, .slice Ao124 t1082.length co124] 24 (0, 0)) (by (with_reducible repeat (first | refine blk_drewN ?_ _ | refine blk_drew ?_ | refine blk_alloc ?_ _)); refine blk_put (cs := #[.string t1081, .slice none 0 0]) ?_ 1 _ rfl; (with_reducible repeat (first | refine blk_drewN ?_ _ | refine blk_drew ?_ | refine blk_alloc ?_ _)); refine blk_put (cs := #[.string (⟨#[]⟩ : ByteArray), .slice none 0 0]) ?_ 0 _ rfl; (with_reducible repeat (first | refine blk_drewN ?_ _ | refine blk_drew ?_ | refine blk_alloc ?_ _)); exact BK1086.out) k_ hk_)⟩)) (below_size (by repeat (first | (with_reducible first | exact HB.out | apply below_alloc | apply pw_below_drewN | apply below_drew1 | refine below_set ?_ GE1068.out | refine below_set ?_ GE1074.out | refine below_set ?_ GE1080.out | refine below_set ?_ GE1086.out) | exact HB.out)))); have n4_ := Aside0.mk (blk_below (g := gb1068) (o := .cells #[.string a0_0, .slice A0_1 l0_1.length c0_1] 24 (0, 0)) (by (with_reducible repeat (first | refine blk_drewN ?_ _ | refine blk_drew ?_ | refine blk_alloc ?_ _)); refine blk_far ?_ NB1068_1086.out _; (with_reducible repeat (first | refine blk_drewN ?_ _ | refine blk_drew ?_ | refine blk_alloc ?_ _)); refine blk_far ?_ NB1068_1086.out _; (with_reducible repeat (first | refine blk_drewN ?_ _ | refine blk_drew ?_ | refine blk_alloc ?_ _)); exact BK1068.out) hb); have n5_ := Aside0.mk (blk_below (g := gb1074) (o := .cells #[.string t1070, .slice Ao109 t1071.length co109] 24 (0, 0)) (by (with_reducible repeat (first | refine blk_drewN ?_ _ | refine blk_drew ?_ | refine blk_alloc ?_ _)); refine blk_far ?_ NB1074_1086.out _; (with_reducible repeat (first | refine blk_drewN ?_ _ | refine blk_drew ?_ | refine blk_alloc ?_ _)); refine blk_far ?_ NB1074_1086.out _; (with_reducible repeat (first | refine blk_drewN ?_ _ | refine blk_drew ?_ | refine blk_alloc ?_ _)); exact BK1074.out) hb); have n6_ := Aside0.mk (blk_below (g := gb1080) (o := .cells #[.string t1075, .slice Ao116 t1076.length co116] 24 (0, 0)) (by (with_reducible repeat (first | refine blk_drewN ?_ _ | refine blk_drew ?_ | refine blk_alloc ?_ _)); refine blk_far ?_ NB1080_1086.out _; (with_reducible repeat (first | refine blk_drewN ?_ _ | refine blk_drew ?_ | refine blk_alloc ?_ _)); refine blk_far ?_ NB1080_1086.out _; (with_reducible repeat (first | refine blk_drewN ?_ _ | refine blk_drew ?_ | refine blk_alloc ?_ _)); exact BK1080.out) hb); have n7_ := Aside0.mk (blk_below (g := gb1086) (o := .cells #[.string t1081, .slice Ao124 t1082.length co124] 24 (0, 0)) (by (with_reducible repeat (first | refine blk_drewN ?_ _ | refine blk_drew ?_ | refine blk_alloc ?_ _)); refine blk_put (cs := #[.string t1081, .slice none 0 0]) ?_ 1 _ rfl; (with_reducible repeat (first | refine blk_drewN ?_ _ | refine blk_drew ?_ | refine blk_alloc ?_ _)); refine blk_put (cs := #[.string (⟨#[]⟩ : ByteArray), .slice none 0 0]) ?_ 0 _ rfl; (with_reducible repeat (first | refine blk_drewN ?_ _ | refine blk_drew ?_ | refine blk_alloc ?_ _)); exact BK1086.out) hb); have n8_ := Aside0.mk (below_step (by repeat (first | (with_reducible first | exact HB.out | apply below_alloc | apply pw_below_drewN | apply below_drew1 | refine below_set ?_ GE1068.out | refine below_set ?_ GE1074.out | refine below_set ?_ GE1080.out | refine below_set ?_ GE1086.out) | exact HB.out)) hb); clear HO1073; clear HO1078; clear HO1084; clear BK1068; clear BK1074; clear BK1080; clear BK1086; clear HB; have HO1073 := n0_; have HO1078 := n1_; have HO1084 := n2_; have HO1089 := n3_; have BK1068 := n4_; have BK1074 := n5_; have BK1080 := n6_; have BK1086 := n7_; have HB := n8_; clear n0_ n1_ n2_ n3_ n4_ n5_ n6_ n7_ n8_; (try clear hb); (try clear hb2); (try clear hk); (try clear hi); (try clear ho0); obtain ⟨Ao127, co127, eo127⟩ := Kd.N_slice HO1089.out; subst eo127))
     go_ret
     exact ⟨by first | rfl | (simp [errW_none, errW_some] <;> rfl) | (simp [*, errW_none, errW_some] <;> rfl), by repeat (first | (with_reducible first | exact HB.out | apply below_alloc | apply pw_below_drewN | apply below_drew1 | refine below_set ?_ GE1068.out | refine below_set ?_ GE1074.out | refine below_set ?_ GE1080.out | refine below_set ?_ GE1086.out) | exact HB.out)⟩
   ·
    rw [if_neg c70] at H
    exact absurd H (by simp)
 ·
  replace c4 := Bool.eq_false_iff.mpr c4
  subst c4
  have H1 : (none) = some r := by rw [if_neg (show ¬ (false = true) by decide)] at H; exact H
  clear H
  have H := H1
  clear H1
  exact absurd H (by simp)

end Go.Proofs.Ytljmmhihdcnbaaa.G
