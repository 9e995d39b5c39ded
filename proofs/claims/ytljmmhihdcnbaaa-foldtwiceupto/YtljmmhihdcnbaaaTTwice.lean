-- Written for this claim by hybrid.py's copy of the print program (a program of this session); not trusted: Lean checks it.
import Derived.Test.YtljmmhihdcnbaaaVMore4
import Derived.Test.YtljmmhihdcnbaaaG0
import Derived.Test.YtljmmhihdcnbaaaTF
import Derived.Test.YtljmmhihdcnbaaaG10
import Derived.Test.YtljmmhihdcnbaaaG11
import Derived.Test.YtljmmhihdcnbaaaG51
import Derived.Test.YtljmmhihdcnbaaaG25
import Derived.Test.YtljmmhihdcnbaaaG18
import Derived.Test.YtljmmhihdcnbaaaG74
import Derived.Test.YtljmmhihdcnbaaaG22
import Derived.Test.YtljmmhihdcnbaaaG78
namespace Go.Proofs.Ytljmmhihdcnbaaa.G
open Go.RowKit Go.Proofs.YtljmmhihdcnbaaaW.PrintWords Go.Proofs.YtljmmhihdcnbaaaW.PrintLast Go.Proofs.YtljmmhihdcnbaaaW.PrintMore
attribute [local go_sem] max2_int min2_int max_two min_two max_three min_three max_four min_four   -- for this text's walks alone
set_option linter.unusedVariables false
set_option linter.unusedSimpArgs false

/-! ### glazierlaw03_FoldTwice: function 12 -/
def glazierlaw03_FoldTwice.T3 : Bool × List (List Nat × List Nat) := (true, [([], []), ([0], [0]), ([], []), ([2, 1], [2]), ([], []), ([4, 3], [4]), ([], []), ([], []), ([6, 7, 5], [6, 7]), ([], []), ([9, 8], [9]), ([], []), ([], []), ([], []), ([], []), ([], []), ([11, 1, 10, 0, 1, 11, 12, 13, 14, 15], [1, 11]), ([12, 3, 16, 0, 1, 2, 3, 11, 12, 13, 14, 15, 16], [3, 12]), ([13, 5, 17, 0, 1, 2, 3, 4, 5, 11, 12, 13, 14, 15, 16, 17], [5, 13]), ([14, 8, 18, 0, 1, 2, 3, 4, 5, 6, 7, 8, 11, 12, 13, 14, 15, 16, 17, 18], [8, 14]), ([15, 10, 19, 0, 1, 2, 3, 4, 5, 6, 7, 8, 9, 10, 11, 12, 13, 14, 15, 16, 17, 18, 19], [10, 15])])
def glazierlaw03_FoldTwice.B3 : List Nat := [0, 1, 0, 7, 0, 31, 0, 0, 255, 0, 1023, 0, 0, 0, 0, 0, 65535, 131071, 262143, 524287, 1048575]
theorem glazierlaw03_FoldTwice.tab3 : rtab .any (opsOf Try.f12 3) = glazierlaw03_FoldTwice.T3 := by kernel_rfl
theorem glazierlaw03_FoldTwice.bits3 : waitsOk glazierlaw03_FoldTwice.T3.2 glazierlaw03_FoldTwice.B3 = true := by kernel_rfl
def glazierlaw03_FoldTwice.T4 : Bool × List (List Nat × List Nat) := (true, [([], []), ([0], [0]), ([], []), ([1, 2, 1], [1, 2]), ([3, 3], [3]), ([4], [4]), ([5, 4, 4], [4, 5]), ([4], [4]), ([6, 7, 6, 4], [4, 6, 7]), ([4, 8], [4, 8]), ([9, 8], [9]), ([10], [10]), ([11, 10, 10], [10, 11]), ([10], [10]), ([12, 13, 12, 10], [10, 12, 13]), ([10, 14], [10, 14]), ([15, 14], [15]), ([16], [16]), ([16], [16]), ([17, 18, 16, 16], [16, 17, 18]), ([16], [16]), ([19, 20, 19, 16], [16, 19, 20]), ([16, 21], [16, 21]), ([22, 21], [22]), ([23], [23]), ([24, 23, 23], [23, 24]), ([23], [23]), ([25, 26, 25, 23], [23, 25, 26]), ([23, 27], [23, 27]), ([28, 27], [28]), ([29], [29]), ([30, 29], [29, 30]), ([31, 29, 29], [29, 31]), ([29, 32], [29, 32]), ([33, 32, 0, 1, 2, 3, 4, 5, 6, 7, 8, 9, 10, 11, 12, 13, 14, 15, 16, 17, 18, 19, 20, 21, 22, 23, 24, 25, 26, 27, 28, 29, 30, 31, 32, 33], [33])])
def glazierlaw03_FoldTwice.B4 : List Nat := [0, 1, 0, 7, 15, 31, 63, 31, 255, 511, 1023, 2047, 4095, 2047, 16383, 32767, 65535, 131071, 131071, 524287, 131071, 2097151, 4194303, 8388607, 16777215, 33554431, 16777215, 134217727, 268435455, 536870911, 1073741823, 2147483647, 4294967295, 8589934591, 17179869183]
theorem glazierlaw03_FoldTwice.tab4 : rtab .any (opsOf Try.f12 4) = glazierlaw03_FoldTwice.T4 := by kernel_rfl
theorem glazierlaw03_FoldTwice.bits4 : waitsOk glazierlaw03_FoldTwice.T4.2 glazierlaw03_FoldTwice.B4 = true := by kernel_rfl
structure FoldTwiceInv (a0_0 : ByteArray) (A0_1 : Option Addr) (c0_1 : Nat) (l0_1 : List S85) (t246 : ByteArray) (t247 : List S85) (t250 : ByteArray) (t251 : List S85) (t254 : ByteArray) (t255 : List S85) (t258 : ByteArray) (t259 : List S85) (t262 : ByteArray) (t263 : List S85) (gb244 : Nat) (w : World) (a0_ : Act) (b : Nat → Bool) (a : Act) (w' : World) (v248 : Value) (v252 : Value) (v256 : Value) (v260 : Value) (v264 : Value) (gb266 : Nat) (gb267 : Nat) (gb268 : Nat) (gb269 : Nat) (gb270 : Nat) (m1_ : Value) (m3_ : Value) (m5_ : Value) (m8_ : Value) (m10_ : Value) (m11_ : Value) (m12_ : Value) (m13_ : Value) (m14_ : Value) (m15_ : Value) : Prop where
  ha : a = putSel a0_ b [(0, 12, .agg #[.string a0_0, .slice A0_1 l0_1.length c0_1]), (1, 13, m1_), (2, 14, .agg #[.string a0_0, .slice A0_1 l0_1.length c0_1]), (3, 15, m3_), (4, 16, .agg #[.string a0_0, .slice A0_1 l0_1.length c0_1]), (5, 17, m5_), (6, 18, .agg #[.string a0_0, .slice A0_1 l0_1.length c0_1]), (8, 20, m8_), (9, 21, .agg #[.string a0_0, .slice A0_1 l0_1.length c0_1]), (10, 22, m10_), (11, 5, m11_), (12, 6, m12_), (13, 7, m13_), (14, 8, m14_), (15, 9, m15_)]
  Q_BK244 : (w'.heap[gb244]? = some (.cells #[.string a0_0, .slice A0_1 l0_1.length c0_1] 24 (0, 0)))
  Q_HB : (Below w.heap.size w w')
  Q_NB267_266 : (b 11 = true → b 12 = true → gb267 ≠ gb266)
  Q_NB266_267 : (b 11 = true → b 12 = true → gb266 ≠ gb267)
  Q_NB268_266 : (b 11 = true → b 13 = true → gb268 ≠ gb266)
  Q_NB266_268 : (b 11 = true → b 13 = true → gb266 ≠ gb268)
  Q_NB269_266 : (b 11 = true → b 14 = true → gb269 ≠ gb266)
  Q_NB266_269 : (b 11 = true → b 14 = true → gb266 ≠ gb269)
  Q_NB270_266 : (b 11 = true → b 15 = true → gb270 ≠ gb266)
  Q_NB266_270 : (b 11 = true → b 15 = true → gb266 ≠ gb270)
  Q_NB268_267 : (b 12 = true → b 13 = true → gb268 ≠ gb267)
  Q_NB267_268 : (b 12 = true → b 13 = true → gb267 ≠ gb268)
  Q_NB269_267 : (b 12 = true → b 14 = true → gb269 ≠ gb267)
  Q_NB267_269 : (b 12 = true → b 14 = true → gb267 ≠ gb269)
  Q_NB270_267 : (b 12 = true → b 15 = true → gb270 ≠ gb267)
  Q_NB267_270 : (b 12 = true → b 15 = true → gb267 ≠ gb270)
  Q_NB269_268 : (b 13 = true → b 14 = true → gb269 ≠ gb268)
  Q_NB268_269 : (b 13 = true → b 14 = true → gb268 ≠ gb269)
  Q_NB270_268 : (b 13 = true → b 15 = true → gb270 ≠ gb268)
  Q_NB268_270 : (b 13 = true → b 15 = true → gb268 ≠ gb270)
  Q_NB270_269 : (b 14 = true → b 15 = true → gb270 ≠ gb269)
  Q_NB269_270 : (b 14 = true → b 15 = true → gb269 ≠ gb270)
  Q_HO249 : (b 1 = true → Kd.R k85 85 w' w.heap.size (fun _ => True) v248 t247)
  Q_HO253 : (b 3 = true → Kd.R k85 85 w' w.heap.size (fun _ => True) v252 t251)
  Q_HO257 : (b 5 = true → Kd.R k85 85 w' w.heap.size (fun _ => True) v256 t255)
  Q_HO261 : (b 8 = true → Kd.R k85 85 w' w.heap.size (fun _ => True) v260 t259)
  Q_HO265 : (b 10 = true → Kd.R k85 85 w' w.heap.size (fun _ => True) v264 t263)
  Q_BK266 : (b 11 = true → b 16 = false → w'.heap[gb266]? = some (.cells #[.string (⟨#[]⟩ : ByteArray), .slice none 0 0] 24 (0, 0)))
  Q_GW266 : (b 11 = true → w.heap.size ≤ gb266)
  Q_GE266 : (b 11 = true → w.heap.size ≤ gb266)
  Q_NB244_266 : (b 11 = true → gb244 ≠ gb266)
  Q_NB266_244 : (b 11 = true → gb266 ≠ gb244)
  Q_BK267 : (b 12 = true → b 17 = false → w'.heap[gb267]? = some (.cells #[.string (⟨#[]⟩ : ByteArray), .slice none 0 0] 24 (0, 0)))
  Q_GW267 : (b 12 = true → w.heap.size ≤ gb267)
  Q_GE267 : (b 12 = true → w.heap.size ≤ gb267)
  Q_NB244_267 : (b 12 = true → gb244 ≠ gb267)
  Q_NB267_244 : (b 12 = true → gb267 ≠ gb244)
  Q_BK268 : (b 13 = true → b 18 = false → w'.heap[gb268]? = some (.cells #[.string (⟨#[]⟩ : ByteArray), .slice none 0 0] 24 (0, 0)))
  Q_GW268 : (b 13 = true → w.heap.size ≤ gb268)
  Q_GE268 : (b 13 = true → w.heap.size ≤ gb268)
  Q_NB244_268 : (b 13 = true → gb244 ≠ gb268)
  Q_NB268_244 : (b 13 = true → gb268 ≠ gb244)
  Q_BK269 : (b 14 = true → b 19 = false → w'.heap[gb269]? = some (.cells #[.string (⟨#[]⟩ : ByteArray), .slice none 0 0] 24 (0, 0)))
  Q_GW269 : (b 14 = true → w.heap.size ≤ gb269)
  Q_GE269 : (b 14 = true → w.heap.size ≤ gb269)
  Q_NB244_269 : (b 14 = true → gb244 ≠ gb269)
  Q_NB269_244 : (b 14 = true → gb269 ≠ gb244)
  Q_BK270 : (b 15 = true → b 20 = false → w'.heap[gb270]? = some (.cells #[.string (⟨#[]⟩ : ByteArray), .slice none 0 0] 24 (0, 0)))
  Q_GW270 : (b 15 = true → w.heap.size ≤ gb270)
  Q_GE270 : (b 15 = true → w.heap.size ≤ gb270)
  Q_NB244_270 : (b 15 = true → gb244 ≠ gb270)
  Q_NB270_244 : (b 15 = true → gb270 ≠ gb244)
  Q_BK266_e16 : (b 16 = true → w'.heap[gb266]? = some (.cells #[.string t246, v248] 24 (0, 0)))
  Q_BK267_e17 : (b 17 = true → w'.heap[gb267]? = some (.cells #[.string t250, v252] 24 (0, 0)))
  Q_BK268_e18 : (b 18 = true → w'.heap[gb268]? = some (.cells #[.string t254, v256] 24 (0, 0)))
  Q_BK269_e19 : (b 19 = true → w'.heap[gb269]? = some (.cells #[.string t258, v260] 24 (0, 0)))
  Q_BK270_e20 : (b 20 = true → w'.heap[gb270]? = some (.cells #[.string t262, v264] 24 (0, 0)))
  Q_X1_ : (b 1 = true → (m1_ : Value) = .agg #[.string t246, v248])
  Q_X3_ : (b 3 = true → (m3_ : Value) = .agg #[.string t250, v252])
  Q_X5_ : (b 5 = true → (m5_ : Value) = .agg #[.string t254, v256])
  Q_X8_ : (b 8 = true → (m8_ : Value) = .agg #[.string t258, v260])
  Q_X10_ : (b 10 = true → (m10_ : Value) = .agg #[.string t262, v264])
  Q_X11_ : (b 11 = true → (m11_ : Value) = .pointer (some ⟨gb266, 0, none⟩))
  Q_X12_ : (b 12 = true → (m12_ : Value) = .pointer (some ⟨gb267, 0, none⟩))
  Q_X13_ : (b 13 = true → (m13_ : Value) = .pointer (some ⟨gb268, 0, none⟩))
  Q_X14_ : (b 14 = true → (m14_ : Value) = .pointer (some ⟨gb269, 0, none⟩))
  Q_X15_ : (b 15 = true → (m15_ : Value) = .pointer (some ⟨gb270, 0, none⟩))
set_option maxHeartbeats 8000000 in
set_option maxRecDepth 100000 in
theorem glazierlaw03_FoldTwice.calls (k : Nat) (a0_0 : ByteArray) (A0_1 : Option Addr) (c0_1 : Nat) (l0_1 : List (S85)) (a1 : ByteArray) (r : Bool) (w : World) (hr0_1 : Kd.C k85 w A0_1 l0_1.length l0_1) (hc0_1 : l0_1.length ≤ c0_1) (h : glazierlaw03_FoldTwice.f k a0_0 l0_1 a1 = some r) :
  Calls Try.prog 12 #[.agg #[.string a0_0, .slice A0_1 l0_1.length c0_1], .string a1] w fun e w' => e = .returned (.bool r) ∧ Below w.heap.size w w' := by
 have hu24 := Try.underlying24
 have HR0_1 := Aside0.mk hr0_1
 have HC0_1 := Aside0.mk hc0_1
 clear hr0_1 hc0_1
 have HB := Aside0.mk (Below.refl w.heap.size w)
 have H : ((glazierlaw03_alive.f k).bind fun t245 => (if t245 = true then ((fold_Lower.f k a0_0 l0_1).bind fun bt246 => ((fold_Ends.f k a0_0 l0_1).bind fun bt250 => ((fold_Trim.f k a0_0 l0_1).bind fun bt254 => ((fold_Without.f k a0_0 l0_1 a1).bind fun bt258 => ((fold_Lines.f k a0_0 l0_1).bind fun bt262 => ((fold_Lower.f k bt246.1 bt246.2).bind fun bt271 => ((mark_Same.f k bt271.1 bt271.2 bt246.1 bt246.2).bind fun t275 => (if t275 = true then ((fold_Ends.f k bt250.1 bt250.2).bind fun bt276 => ((mark_Same.f k bt276.1 bt276.2 bt250.1 bt250.2).bind fun t280 => (if t280 = true then ((fold_Trim.f k bt254.1 bt254.2).bind fun bt281 => ((mark_Same.f k bt281.1 bt281.2 bt254.1 bt254.2).bind fun t285 => (if t285 = true then ((fold_Without.f k bt258.1 bt258.2 a1).bind fun bt286 => ((mark_Same.f k bt286.1 bt286.2 bt258.1 bt258.2).bind fun t290 => (if t290 = true then ((fold_Lines.f k bt262.1 bt262.2).bind fun bt291 => ((mark_Same.f k bt291.1 bt291.2 bt262.1 bt262.2).bind fun t295 => (if t295 = true then ((fold_IsLower.f bt246.1).bind fun t296 => (some t296)) else (none)))) else (none)))) else (none)))) else (none)))) else (none))))))))) else (none))) = some r := h
 clear h
 replace H := Option.bind_eq_some_iff.mp H
 obtain ⟨t245, A30, H⟩ := H
 replace H : (if t245 = true then ((fold_Lower.f k a0_0 l0_1).bind fun bt246 => ((fold_Ends.f k a0_0 l0_1).bind fun bt250 => ((fold_Trim.f k a0_0 l0_1).bind fun bt254 => ((fold_Without.f k a0_0 l0_1 a1).bind fun bt258 => ((fold_Lines.f k a0_0 l0_1).bind fun bt262 => ((fold_Lower.f k bt246.1 bt246.2).bind fun bt271 => ((mark_Same.f k bt271.1 bt271.2 bt246.1 bt246.2).bind fun t275 => (if t275 = true then ((fold_Ends.f k bt250.1 bt250.2).bind fun bt276 => ((mark_Same.f k bt276.1 bt276.2 bt250.1 bt250.2).bind fun t280 => (if t280 = true then ((fold_Trim.f k bt254.1 bt254.2).bind fun bt281 => ((mark_Same.f k bt281.1 bt281.2 bt254.1 bt254.2).bind fun t285 => (if t285 = true then ((fold_Without.f k bt258.1 bt258.2 a1).bind fun bt286 => ((mark_Same.f k bt286.1 bt286.2 bt258.1 bt258.2).bind fun t290 => (if t290 = true then ((fold_Lines.f k bt262.1 bt262.2).bind fun bt291 => ((mark_Same.f k bt291.1 bt291.2 bt262.1 bt262.2).bind fun t295 => (if t295 = true then ((fold_IsLower.f bt246.1).bind fun t296 => (some t296)) else (none)))) else (none)))) else (none)))) else (none)))) else (none))))))))) else (none)) = some r := H
 have A3 := Aside0.mk A30
 clear A30
 by_cases c4 : t245 = true
 ·
  subst c4
  have H1 : ((fold_Lower.f k a0_0 l0_1).bind fun bt246 => ((fold_Ends.f k a0_0 l0_1).bind fun bt250 => ((fold_Trim.f k a0_0 l0_1).bind fun bt254 => ((fold_Without.f k a0_0 l0_1 a1).bind fun bt258 => ((fold_Lines.f k a0_0 l0_1).bind fun bt262 => ((fold_Lower.f k bt246.1 bt246.2).bind fun bt271 => ((mark_Same.f k bt271.1 bt271.2 bt246.1 bt246.2).bind fun t275 => (if t275 = true then ((fold_Ends.f k bt250.1 bt250.2).bind fun bt276 => ((mark_Same.f k bt276.1 bt276.2 bt250.1 bt250.2).bind fun t280 => (if t280 = true then ((fold_Trim.f k bt254.1 bt254.2).bind fun bt281 => ((mark_Same.f k bt281.1 bt281.2 bt254.1 bt254.2).bind fun t285 => (if t285 = true then ((fold_Without.f k bt258.1 bt258.2 a1).bind fun bt286 => ((mark_Same.f k bt286.1 bt286.2 bt258.1 bt258.2).bind fun t290 => (if t290 = true then ((fold_Lines.f k bt262.1 bt262.2).bind fun bt291 => ((mark_Same.f k bt291.1 bt291.2 bt262.1 bt262.2).bind fun t295 => (if t295 = true then ((fold_IsLower.f bt246.1).bind fun t296 => (some t296)) else (none)))) else (none)))) else (none)))) else (none)))) else (none))))))))) = some r := by rw [if_pos rfl] at H; exact H
  clear H
  have H := H1
  clear H1
  replace H := Option.bind_eq_some_iff.mp H
  obtain ⟨⟨t246, t247⟩, A50, H⟩ := H
  replace H : ((fold_Ends.f k a0_0 l0_1).bind fun bt250 => ((fold_Trim.f k a0_0 l0_1).bind fun bt254 => ((fold_Without.f k a0_0 l0_1 a1).bind fun bt258 => ((fold_Lines.f k a0_0 l0_1).bind fun bt262 => ((fold_Lower.f k t246 t247).bind fun bt271 => ((mark_Same.f k bt271.1 bt271.2 t246 t247).bind fun t275 => (if t275 = true then ((fold_Ends.f k bt250.1 bt250.2).bind fun bt276 => ((mark_Same.f k bt276.1 bt276.2 bt250.1 bt250.2).bind fun t280 => (if t280 = true then ((fold_Trim.f k bt254.1 bt254.2).bind fun bt281 => ((mark_Same.f k bt281.1 bt281.2 bt254.1 bt254.2).bind fun t285 => (if t285 = true then ((fold_Without.f k bt258.1 bt258.2 a1).bind fun bt286 => ((mark_Same.f k bt286.1 bt286.2 bt258.1 bt258.2).bind fun t290 => (if t290 = true then ((fold_Lines.f k bt262.1 bt262.2).bind fun bt291 => ((mark_Same.f k bt291.1 bt291.2 bt262.1 bt262.2).bind fun t295 => (if t295 = true then ((fold_IsLower.f t246).bind fun t296 => (some t296)) else (none)))) else (none)))) else (none)))) else (none)))) else (none)))))))) = some r := H
  have A5 := Aside0.mk A50
  clear A50
  replace H := Option.bind_eq_some_iff.mp H
  obtain ⟨⟨t250, t251⟩, A60, H⟩ := H
  replace H : ((fold_Trim.f k a0_0 l0_1).bind fun bt254 => ((fold_Without.f k a0_0 l0_1 a1).bind fun bt258 => ((fold_Lines.f k a0_0 l0_1).bind fun bt262 => ((fold_Lower.f k t246 t247).bind fun bt271 => ((mark_Same.f k bt271.1 bt271.2 t246 t247).bind fun t275 => (if t275 = true then ((fold_Ends.f k t250 t251).bind fun bt276 => ((mark_Same.f k bt276.1 bt276.2 t250 t251).bind fun t280 => (if t280 = true then ((fold_Trim.f k bt254.1 bt254.2).bind fun bt281 => ((mark_Same.f k bt281.1 bt281.2 bt254.1 bt254.2).bind fun t285 => (if t285 = true then ((fold_Without.f k bt258.1 bt258.2 a1).bind fun bt286 => ((mark_Same.f k bt286.1 bt286.2 bt258.1 bt258.2).bind fun t290 => (if t290 = true then ((fold_Lines.f k bt262.1 bt262.2).bind fun bt291 => ((mark_Same.f k bt291.1 bt291.2 bt262.1 bt262.2).bind fun t295 => (if t295 = true then ((fold_IsLower.f t246).bind fun t296 => (some t296)) else (none)))) else (none)))) else (none)))) else (none)))) else (none))))))) = some r := H
  have A6 := Aside0.mk A60
  clear A60
  replace H := Option.bind_eq_some_iff.mp H
  obtain ⟨⟨t254, t255⟩, A70, H⟩ := H
  replace H : ((fold_Without.f k a0_0 l0_1 a1).bind fun bt258 => ((fold_Lines.f k a0_0 l0_1).bind fun bt262 => ((fold_Lower.f k t246 t247).bind fun bt271 => ((mark_Same.f k bt271.1 bt271.2 t246 t247).bind fun t275 => (if t275 = true then ((fold_Ends.f k t250 t251).bind fun bt276 => ((mark_Same.f k bt276.1 bt276.2 t250 t251).bind fun t280 => (if t280 = true then ((fold_Trim.f k t254 t255).bind fun bt281 => ((mark_Same.f k bt281.1 bt281.2 t254 t255).bind fun t285 => (if t285 = true then ((fold_Without.f k bt258.1 bt258.2 a1).bind fun bt286 => ((mark_Same.f k bt286.1 bt286.2 bt258.1 bt258.2).bind fun t290 => (if t290 = true then ((fold_Lines.f k bt262.1 bt262.2).bind fun bt291 => ((mark_Same.f k bt291.1 bt291.2 bt262.1 bt262.2).bind fun t295 => (if t295 = true then ((fold_IsLower.f t246).bind fun t296 => (some t296)) else (none)))) else (none)))) else (none)))) else (none)))) else (none)))))) = some r := H
  have A7 := Aside0.mk A70
  clear A70
  replace H := Option.bind_eq_some_iff.mp H
  obtain ⟨⟨t258, t259⟩, A80, H⟩ := H
  replace H : ((fold_Lines.f k a0_0 l0_1).bind fun bt262 => ((fold_Lower.f k t246 t247).bind fun bt271 => ((mark_Same.f k bt271.1 bt271.2 t246 t247).bind fun t275 => (if t275 = true then ((fold_Ends.f k t250 t251).bind fun bt276 => ((mark_Same.f k bt276.1 bt276.2 t250 t251).bind fun t280 => (if t280 = true then ((fold_Trim.f k t254 t255).bind fun bt281 => ((mark_Same.f k bt281.1 bt281.2 t254 t255).bind fun t285 => (if t285 = true then ((fold_Without.f k t258 t259 a1).bind fun bt286 => ((mark_Same.f k bt286.1 bt286.2 t258 t259).bind fun t290 => (if t290 = true then ((fold_Lines.f k bt262.1 bt262.2).bind fun bt291 => ((mark_Same.f k bt291.1 bt291.2 bt262.1 bt262.2).bind fun t295 => (if t295 = true then ((fold_IsLower.f t246).bind fun t296 => (some t296)) else (none)))) else (none)))) else (none)))) else (none)))) else (none))))) = some r := H
  have A8 := Aside0.mk A80
  clear A80
  replace H := Option.bind_eq_some_iff.mp H
  obtain ⟨⟨t262, t263⟩, A90, H⟩ := H
  replace H : ((fold_Lower.f k t246 t247).bind fun bt271 => ((mark_Same.f k bt271.1 bt271.2 t246 t247).bind fun t275 => (if t275 = true then ((fold_Ends.f k t250 t251).bind fun bt276 => ((mark_Same.f k bt276.1 bt276.2 t250 t251).bind fun t280 => (if t280 = true then ((fold_Trim.f k t254 t255).bind fun bt281 => ((mark_Same.f k bt281.1 bt281.2 t254 t255).bind fun t285 => (if t285 = true then ((fold_Without.f k t258 t259 a1).bind fun bt286 => ((mark_Same.f k bt286.1 bt286.2 t258 t259).bind fun t290 => (if t290 = true then ((fold_Lines.f k t262 t263).bind fun bt291 => ((mark_Same.f k bt291.1 bt291.2 t262 t263).bind fun t295 => (if t295 = true then ((fold_IsLower.f t246).bind fun t296 => (some t296)) else (none)))) else (none)))) else (none)))) else (none)))) else (none)))) = some r := H
  have A9 := Aside0.mk A90
  clear A90
  replace H := Option.bind_eq_some_iff.mp H
  obtain ⟨⟨t271, t272⟩, A100, H⟩ := H
  replace H : ((mark_Same.f k t271 t272 t246 t247).bind fun t275 => (if t275 = true then ((fold_Ends.f k t250 t251).bind fun bt276 => ((mark_Same.f k bt276.1 bt276.2 t250 t251).bind fun t280 => (if t280 = true then ((fold_Trim.f k t254 t255).bind fun bt281 => ((mark_Same.f k bt281.1 bt281.2 t254 t255).bind fun t285 => (if t285 = true then ((fold_Without.f k t258 t259 a1).bind fun bt286 => ((mark_Same.f k bt286.1 bt286.2 t258 t259).bind fun t290 => (if t290 = true then ((fold_Lines.f k t262 t263).bind fun bt291 => ((mark_Same.f k bt291.1 bt291.2 t262 t263).bind fun t295 => (if t295 = true then ((fold_IsLower.f t246).bind fun t296 => (some t296)) else (none)))) else (none)))) else (none)))) else (none)))) else (none))) = some r := H
  have A10 := Aside0.mk A100
  clear A100
  replace H := Option.bind_eq_some_iff.mp H
  obtain ⟨t275, A110, H⟩ := H
  replace H : (if t275 = true then ((fold_Ends.f k t250 t251).bind fun bt276 => ((mark_Same.f k bt276.1 bt276.2 t250 t251).bind fun t280 => (if t280 = true then ((fold_Trim.f k t254 t255).bind fun bt281 => ((mark_Same.f k bt281.1 bt281.2 t254 t255).bind fun t285 => (if t285 = true then ((fold_Without.f k t258 t259 a1).bind fun bt286 => ((mark_Same.f k bt286.1 bt286.2 t258 t259).bind fun t290 => (if t290 = true then ((fold_Lines.f k t262 t263).bind fun bt291 => ((mark_Same.f k bt291.1 bt291.2 t262 t263).bind fun t295 => (if t295 = true then ((fold_IsLower.f t246).bind fun t296 => (some t296)) else (none)))) else (none)))) else (none)))) else (none)))) else (none)) = some r := H
  have A11 := Aside0.mk A110
  clear A110
  by_cases c12 : t275 = true
  ·
   subst c12
   have H1 : ((fold_Ends.f k t250 t251).bind fun bt276 => ((mark_Same.f k bt276.1 bt276.2 t250 t251).bind fun t280 => (if t280 = true then ((fold_Trim.f k t254 t255).bind fun bt281 => ((mark_Same.f k bt281.1 bt281.2 t254 t255).bind fun t285 => (if t285 = true then ((fold_Without.f k t258 t259 a1).bind fun bt286 => ((mark_Same.f k bt286.1 bt286.2 t258 t259).bind fun t290 => (if t290 = true then ((fold_Lines.f k t262 t263).bind fun bt291 => ((mark_Same.f k bt291.1 bt291.2 t262 t263).bind fun t295 => (if t295 = true then ((fold_IsLower.f t246).bind fun t296 => (some t296)) else (none)))) else (none)))) else (none)))) else (none)))) = some r := by rw [if_pos rfl] at H; exact H
   clear H
   have H := H1
   clear H1
   replace H := Option.bind_eq_some_iff.mp H
   obtain ⟨⟨t276, t277⟩, A130, H⟩ := H
   replace H : ((mark_Same.f k t276 t277 t250 t251).bind fun t280 => (if t280 = true then ((fold_Trim.f k t254 t255).bind fun bt281 => ((mark_Same.f k bt281.1 bt281.2 t254 t255).bind fun t285 => (if t285 = true then ((fold_Without.f k t258 t259 a1).bind fun bt286 => ((mark_Same.f k bt286.1 bt286.2 t258 t259).bind fun t290 => (if t290 = true then ((fold_Lines.f k t262 t263).bind fun bt291 => ((mark_Same.f k bt291.1 bt291.2 t262 t263).bind fun t295 => (if t295 = true then ((fold_IsLower.f t246).bind fun t296 => (some t296)) else (none)))) else (none)))) else (none)))) else (none))) = some r := H
   have A13 := Aside0.mk A130
   clear A130
   replace H := Option.bind_eq_some_iff.mp H
   obtain ⟨t280, A140, H⟩ := H
   replace H : (if t280 = true then ((fold_Trim.f k t254 t255).bind fun bt281 => ((mark_Same.f k bt281.1 bt281.2 t254 t255).bind fun t285 => (if t285 = true then ((fold_Without.f k t258 t259 a1).bind fun bt286 => ((mark_Same.f k bt286.1 bt286.2 t258 t259).bind fun t290 => (if t290 = true then ((fold_Lines.f k t262 t263).bind fun bt291 => ((mark_Same.f k bt291.1 bt291.2 t262 t263).bind fun t295 => (if t295 = true then ((fold_IsLower.f t246).bind fun t296 => (some t296)) else (none)))) else (none)))) else (none)))) else (none)) = some r := H
   have A14 := Aside0.mk A140
   clear A140
   by_cases c15 : t280 = true
   ·
    subst c15
    have H1 : ((fold_Trim.f k t254 t255).bind fun bt281 => ((mark_Same.f k bt281.1 bt281.2 t254 t255).bind fun t285 => (if t285 = true then ((fold_Without.f k t258 t259 a1).bind fun bt286 => ((mark_Same.f k bt286.1 bt286.2 t258 t259).bind fun t290 => (if t290 = true then ((fold_Lines.f k t262 t263).bind fun bt291 => ((mark_Same.f k bt291.1 bt291.2 t262 t263).bind fun t295 => (if t295 = true then ((fold_IsLower.f t246).bind fun t296 => (some t296)) else (none)))) else (none)))) else (none)))) = some r := by rw [if_pos rfl] at H; exact H
    clear H
    have H := H1
    clear H1
    replace H := Option.bind_eq_some_iff.mp H
    obtain ⟨⟨t281, t282⟩, A160, H⟩ := H
    replace H : ((mark_Same.f k t281 t282 t254 t255).bind fun t285 => (if t285 = true then ((fold_Without.f k t258 t259 a1).bind fun bt286 => ((mark_Same.f k bt286.1 bt286.2 t258 t259).bind fun t290 => (if t290 = true then ((fold_Lines.f k t262 t263).bind fun bt291 => ((mark_Same.f k bt291.1 bt291.2 t262 t263).bind fun t295 => (if t295 = true then ((fold_IsLower.f t246).bind fun t296 => (some t296)) else (none)))) else (none)))) else (none))) = some r := H
    have A16 := Aside0.mk A160
    clear A160
    replace H := Option.bind_eq_some_iff.mp H
    obtain ⟨t285, A170, H⟩ := H
    replace H : (if t285 = true then ((fold_Without.f k t258 t259 a1).bind fun bt286 => ((mark_Same.f k bt286.1 bt286.2 t258 t259).bind fun t290 => (if t290 = true then ((fold_Lines.f k t262 t263).bind fun bt291 => ((mark_Same.f k bt291.1 bt291.2 t262 t263).bind fun t295 => (if t295 = true then ((fold_IsLower.f t246).bind fun t296 => (some t296)) else (none)))) else (none)))) else (none)) = some r := H
    have A17 := Aside0.mk A170
    clear A170
    by_cases c18 : t285 = true
    ·
     subst c18
     have H1 : ((fold_Without.f k t258 t259 a1).bind fun bt286 => ((mark_Same.f k bt286.1 bt286.2 t258 t259).bind fun t290 => (if t290 = true then ((fold_Lines.f k t262 t263).bind fun bt291 => ((mark_Same.f k bt291.1 bt291.2 t262 t263).bind fun t295 => (if t295 = true then ((fold_IsLower.f t246).bind fun t296 => (some t296)) else (none)))) else (none)))) = some r := by rw [if_pos rfl] at H; exact H
     clear H
     have H := H1
     clear H1
     replace H := Option.bind_eq_some_iff.mp H
     obtain ⟨⟨t286, t287⟩, A190, H⟩ := H
     replace H : ((mark_Same.f k t286 t287 t258 t259).bind fun t290 => (if t290 = true then ((fold_Lines.f k t262 t263).bind fun bt291 => ((mark_Same.f k bt291.1 bt291.2 t262 t263).bind fun t295 => (if t295 = true then ((fold_IsLower.f t246).bind fun t296 => (some t296)) else (none)))) else (none))) = some r := H
     have A19 := Aside0.mk A190
     clear A190
     replace H := Option.bind_eq_some_iff.mp H
     obtain ⟨t290, A200, H⟩ := H
     replace H : (if t290 = true then ((fold_Lines.f k t262 t263).bind fun bt291 => ((mark_Same.f k bt291.1 bt291.2 t262 t263).bind fun t295 => (if t295 = true then ((fold_IsLower.f t246).bind fun t296 => (some t296)) else (none)))) else (none)) = some r := H
     have A20 := Aside0.mk A200
     clear A200
     by_cases c21 : t290 = true
     ·
      subst c21
      have H1 : ((fold_Lines.f k t262 t263).bind fun bt291 => ((mark_Same.f k bt291.1 bt291.2 t262 t263).bind fun t295 => (if t295 = true then ((fold_IsLower.f t246).bind fun t296 => (some t296)) else (none)))) = some r := by rw [if_pos rfl] at H; exact H
      clear H
      have H := H1
      clear H1
      replace H := Option.bind_eq_some_iff.mp H
      obtain ⟨⟨t291, t292⟩, A220, H⟩ := H
      replace H : ((mark_Same.f k t291 t292 t262 t263).bind fun t295 => (if t295 = true then ((fold_IsLower.f t246).bind fun t296 => (some t296)) else (none))) = some r := H
      have A22 := Aside0.mk A220
      clear A220
      replace H := Option.bind_eq_some_iff.mp H
      obtain ⟨t295, A230, H⟩ := H
      replace H : (if t295 = true then ((fold_IsLower.f t246).bind fun t296 => (some t296)) else (none)) = some r := H
      have A23 := Aside0.mk A230
      clear A230
      by_cases c24 : t295 = true
      ·
       subst c24
       have H1 : ((fold_IsLower.f t246).bind fun t296 => (some t296)) = some r := by rw [if_pos rfl] at H; exact H
       clear H
       have H := H1
       clear H1
       replace H := Option.bind_eq_some_iff.mp H
       obtain ⟨t296, A250, H⟩ := H
       replace H : (some t296) = some r := H
       have A25 := Aside0.mk A250
       clear A250
       obtain rfl := Option.some.inj H
       go_enter Try.func12, Try.ntmps12
       try go_wp2_with (first | ((with_reducible refine gate_dst (N := 2) rfl ?_); refine box_event ?hg (N := 2) ?hd (cs := #[.string a0_0, .slice A0_1 l0_1.length c0_1]) (t := 24) ?hr ?_; (case hd => rfl); (case hg => rfl); (case hr => first | (go_simp; done) | (go_simp; rfl)); intro gb244 hg w26 hbox hb; have n0_ := Aside0.mk (below_step (by repeat (first | (with_reducible first | exact HB.out | apply below_alloc | apply pw_below_drewN | apply below_drew1) | exact HB.out)) hb); have n1_ := Aside0.mk (hbox); have n2_ := Aside0.mk ((by rw [hg]; exact (below_size (by repeat (first | (with_reducible first | exact HB.out | apply below_alloc | apply pw_below_drewN | apply below_drew1) | exact HB.out))) : w.heap.size ≤ gb244)); have n3_ := Aside0.mk ((by rw [hg]; exact (below_size (by repeat (first | (with_reducible first | exact HB.out | apply below_alloc | apply pw_below_drewN | apply below_drew1) | exact HB.out))) : w.heap.size ≤ gb244)); clear HB; have HB := n0_; have BK244 := n1_; have GW244 := n2_; have GE244 := n3_; clear n0_ n1_ n2_ n3_; clear hb hbox hg) | ((with_reducible refine gate_callee (f := 22) rfl ?_); refine goesL_ (some 10) rfl rfl Try.func22 (by kernel_rfl) rfl #[] rfl (by (try simp only [List.map_toArray, List.map_cons, List.map_nil]); first | done | rfl | (simp only [List.length_drop, List.length_take]; rfl)) ?_; (with_reducible refine (glazierlaw03_alive.calls k  true _ A3.out).mono ?_); rintro e w27 ⟨rfl, hb⟩; refine ⟨_, rfl, ?_⟩; have n0_ := Aside0.mk (blk_below (g := gb244) (o := .cells #[.string a0_0, .slice A0_1 l0_1.length c0_1] 24 (0, 0)) (by (with_reducible repeat (first | refine blk_drewN ?_ _ | refine blk_drew ?_ | refine blk_alloc ?_ _)); exact BK244.out) hb); have n1_ := Aside0.mk (below_step (by repeat (first | (with_reducible first | exact HB.out | apply below_alloc | apply pw_below_drewN | apply below_drew1 | refine below_set ?_ GE244.out) | exact HB.out)) hb); clear BK244; clear HB; have BK244 := n0_; have HB := n1_; clear n0_ n1_; (try clear hb); (try clear hb2); (try clear hk); (try clear hi)))
       have n0_ := Aside0.mk (blk_drew BK244.out)
       have n1_ := Aside0.mk (below_drew1 HB.out)
       clear BK244
       clear HB
       have BK244 := n0_
       have HB := n1_
       clear n0_ n1_
       refine start_ (n := 21) (S := fun w' => True) (ds := []) #[false, false, false, false, false, false, false, false, false, false, false, false, false, false, false, false, false, false, false, false, false] (by kernel_rfl) rfl rfl trivial (fun hHeld => ?_); refine with_tabW glazierlaw03_FoldTwice.tab3 glazierlaw03_FoldTwice.bits3 (fun HT_ HW_ => ?_)
       generalize w27.drew = w28 at BK244 HB hHeld ⊢
       refine pure_ (i := 7) (N := some 19) (v := ?_) (a' := ?_) #[false, false, false, false, false, false, false, true, false, false, false, false, false, false, false, false, false, false, false, false, false] rfl rfl (any_of HT_.out (by kernel_rfl)) (fun _ _ _ h => h) (Or.inl ⟨by rfl, ?_⟩) ?_ ?_
       rotate_left
       ·
        intro w'
        go_simp
        with_reducible rfl
       rotate_left
       ·
        simp only [Act.put, List.setIfInBounds_toArray, List.set_cons_zero, List.set_cons_succ, i64_w, i32_w]
        rfl
       refine inv_at [0, 1, 2, 3, 4, 5, 6, 8, 9, 10, 11, 12, 13, 14, 15, 16, 17, 18, 19, 20] (fun a0_ b a w' => ∃ (v248 : Value) (v252 : Value) (v256 : Value) (v260 : Value) (v264 : Value) (gb266 : Nat) (gb267 : Nat) (gb268 : Nat) (gb269 : Nat) (gb270 : Nat) (m1_ : Value) (m3_ : Value) (m5_ : Value) (m8_ : Value) (m10_ : Value) (m11_ : Value) (m12_ : Value) (m13_ : Value) (m14_ : Value) (m15_ : Value), FoldTwiceInv a0_0 A0_1 c0_1 l0_1 t246 t247 t250 t251 t254 t255 t258 t259 t262 t263 gb244 w a0_ b a w' v248 v252 v256 v260 v264 gb266 gb267 gb268 gb269 gb270 m1_ m3_ m5_ m8_ m10_ m11_ m12_ m13_ m14_ m15_) HT_.out HW_.out (by kernel_rfl) (by kernel_rfl) ?_ ?_ ?_
       ·
        exact ⟨.bool false, .bool false, .bool false, .bool false, .bool false, 0, 0, 0, 0, 0, .bool false, .bool false, .bool false, .bool false, .bool false, .bool false, .bool false, .bool false, .bool false, .bool false, by simp only [putSel, Bool.false_eq_true, if_false], BK244.out, HB.out, fun h_ => absurd h_ (by decide), fun h_ => absurd h_ (by decide), fun h_ => absurd h_ (by decide), fun h_ => absurd h_ (by decide), fun h_ => absurd h_ (by decide), fun h_ => absurd h_ (by decide), fun h_ => absurd h_ (by decide), fun h_ => absurd h_ (by decide), fun h_ => absurd h_ (by decide), fun h_ => absurd h_ (by decide), fun h_ => absurd h_ (by decide), fun h_ => absurd h_ (by decide), fun h_ => absurd h_ (by decide), fun h_ => absurd h_ (by decide), fun h_ => absurd h_ (by decide), fun h_ => absurd h_ (by decide), fun h_ => absurd h_ (by decide), fun h_ => absurd h_ (by decide), fun h_ => absurd h_ (by decide), fun h_ => absurd h_ (by decide), fun h_ => absurd h_ (by decide), fun h_ => absurd h_ (by decide), fun h_ => absurd h_ (by decide), fun h_ => absurd h_ (by decide), fun h_ => absurd h_ (by decide), fun h_ => absurd h_ (by decide), fun h_ => absurd h_ (by decide), fun h_ => absurd h_ (by decide), fun h_ => absurd h_ (by decide), fun h_ => absurd h_ (by decide), fun h_ => absurd h_ (by decide), fun h_ => absurd h_ (by decide), fun h_ => absurd h_ (by decide), fun h_ => absurd h_ (by decide), fun h_ => absurd h_ (by decide), fun h_ => absurd h_ (by decide), fun h_ => absurd h_ (by decide), fun h_ => absurd h_ (by decide), fun h_ => absurd h_ (by decide), fun h_ => absurd h_ (by decide), fun h_ => absurd h_ (by decide), fun h_ => absurd h_ (by decide), fun h_ => absurd h_ (by decide), fun h_ => absurd h_ (by decide), fun h_ => absurd h_ (by decide), fun h_ => absurd h_ (by decide), fun h_ => absurd h_ (by decide), fun h_ => absurd h_ (by decide), fun h_ => absurd h_ (by decide), fun h_ => absurd h_ (by decide), fun h_ => absurd h_ (by decide), fun h_ => absurd h_ (by decide), fun h_ => absurd h_ (by decide), fun h_ => absurd h_ (by decide), fun h_ => absurd h_ (by decide), fun h_ => absurd h_ (by decide), fun h_ => absurd h_ (by decide), fun h_ => absurd h_ (by decide), fun h_ => absurd h_ (by decide), fun h_ => absurd h_ (by decide), fun h_ => absurd h_ (by decide), fun h_ => absurd h_ (by decide), fun h_ => absurd h_ (by decide), fun h_ => absurd h_ (by decide), fun h_ => absurd h_ (by decide)⟩
       ·
        skip
        clear BK244 HB
        refine steps_cons ?_ ?_
        ·
         rintro b a w' ⟨v248, v252, v256, v260, v264, gb266, gb267, gb268, gb269, gb270, m1_, m3_, m5_, m8_, m10_, m11_, m12_, m13_, m14_, m15_, hI_⟩ hb_ hon hoff
         have ha := hI_.ha; have Q_BK244 := hI_.Q_BK244; have Q_HB := hI_.Q_HB; have Q_NB267_266 := hI_.Q_NB267_266; have Q_NB266_267 := hI_.Q_NB266_267; have Q_NB268_266 := hI_.Q_NB268_266; have Q_NB266_268 := hI_.Q_NB266_268; have Q_NB269_266 := hI_.Q_NB269_266; have Q_NB266_269 := hI_.Q_NB266_269; have Q_NB270_266 := hI_.Q_NB270_266; have Q_NB266_270 := hI_.Q_NB266_270; have Q_NB268_267 := hI_.Q_NB268_267; have Q_NB267_268 := hI_.Q_NB267_268; have Q_NB269_267 := hI_.Q_NB269_267; have Q_NB267_269 := hI_.Q_NB267_269; have Q_NB270_267 := hI_.Q_NB270_267; have Q_NB267_270 := hI_.Q_NB267_270; have Q_NB269_268 := hI_.Q_NB269_268; have Q_NB268_269 := hI_.Q_NB268_269; have Q_NB270_268 := hI_.Q_NB270_268; have Q_NB268_270 := hI_.Q_NB268_270; have Q_NB270_269 := hI_.Q_NB270_269; have Q_NB269_270 := hI_.Q_NB269_270; have Q_HO249 := hI_.Q_HO249; have Q_HO253 := hI_.Q_HO253; have Q_HO257 := hI_.Q_HO257; have Q_HO261 := hI_.Q_HO261; have Q_HO265 := hI_.Q_HO265; have Q_BK266 := hI_.Q_BK266; have Q_GW266 := hI_.Q_GW266; have Q_GE266 := hI_.Q_GE266; have Q_NB244_266 := hI_.Q_NB244_266; have Q_NB266_244 := hI_.Q_NB266_244; have Q_BK267 := hI_.Q_BK267; have Q_GW267 := hI_.Q_GW267; have Q_GE267 := hI_.Q_GE267; have Q_NB244_267 := hI_.Q_NB244_267; have Q_NB267_244 := hI_.Q_NB267_244; have Q_BK268 := hI_.Q_BK268; have Q_GW268 := hI_.Q_GW268; have Q_GE268 := hI_.Q_GE268; have Q_NB244_268 := hI_.Q_NB244_268; have Q_NB268_244 := hI_.Q_NB268_244; have Q_BK269 := hI_.Q_BK269; have Q_GW269 := hI_.Q_GW269; have Q_GE269 := hI_.Q_GE269; have Q_NB244_269 := hI_.Q_NB244_269; have Q_NB269_244 := hI_.Q_NB269_244; have Q_BK270 := hI_.Q_BK270; have Q_GW270 := hI_.Q_GW270; have Q_GE270 := hI_.Q_GE270; have Q_NB244_270 := hI_.Q_NB244_270; have Q_NB270_244 := hI_.Q_NB270_244; have Q_BK266_e16 := hI_.Q_BK266_e16; have Q_BK267_e17 := hI_.Q_BK267_e17; have Q_BK268_e18 := hI_.Q_BK268_e18; have Q_BK269_e19 := hI_.Q_BK269_e19; have Q_BK270_e20 := hI_.Q_BK270_e20; have Q_X1_ := hI_.Q_X1_; have Q_X3_ := hI_.Q_X3_; have Q_X5_ := hI_.Q_X5_; have Q_X8_ := hI_.Q_X8_; have Q_X10_ := hI_.Q_X10_; have Q_X11_ := hI_.Q_X11_; have Q_X12_ := hI_.Q_X12_; have Q_X13_ := hI_.Q_X13_; have Q_X14_ := hI_.Q_X14_; have Q_X15_ := hI_.Q_X15_
         clear hI_
         refine ⟨_, rfl, fun K hK => ?_⟩
         have e2 : a.tmps[2]? = some (.pointer (some ⟨gb244, 0, none⟩)) := by rw [ha]; exact (putSel_off rfl).trans rfl
         replace ha := Aside0.mk ha
         have BK244 := Aside0.mk Q_BK244
         have HB := Aside0.mk Q_HB
         have hc0_ : w'.cell? ⟨gb244, 0, none⟩ = some (.string a0_0) := (blk_cell BK244.out 0).trans rfl
         have hc1_ : w'.cell? ⟨gb244, 1, none⟩ = some (.slice A0_1 l0_1.length c0_1) := (blk_cell BK244.out 1).trans rfl
         refine value_ (w1 := w') (v := .agg #[.string a0_0, .slice A0_1 l0_1.length c0_1]) (by rfl) rfl ?_ ?_
         ·
          go_simp
          (try simp only [i64_w])
          try rfl
         refine hK.out _ _ ⟨v248, v252, v256, v260, v264, gb266, gb267, gb268, gb269, gb270, m1_, m3_, m5_, m8_, m10_, m11_, m12_, m13_, m14_, m15_, (by rw [ha.out]; exact putSel_upk 0 hb_ rfl rfl rfl), Q_BK244, Q_HB, Q_NB267_266, Q_NB266_267, Q_NB268_266, Q_NB266_268, Q_NB269_266, Q_NB266_269, Q_NB270_266, Q_NB266_270, Q_NB268_267, Q_NB267_268, Q_NB269_267, Q_NB267_269, Q_NB270_267, Q_NB267_270, Q_NB269_268, Q_NB268_269, Q_NB270_268, Q_NB268_270, Q_NB270_269, Q_NB269_270, fun h0_ => absurd ((hoff 1 (by kernel_rfl)).symm.trans h0_) (by decide), fun h0_ => absurd ((hoff 3 (by kernel_rfl)).symm.trans h0_) (by decide), fun h0_ => absurd ((hoff 5 (by kernel_rfl)).symm.trans h0_) (by decide), fun h0_ => absurd ((hoff 8 (by kernel_rfl)).symm.trans h0_) (by decide), fun h0_ => absurd ((hoff 10 (by kernel_rfl)).symm.trans h0_) (by decide), Q_BK266, Q_GW266, Q_GE266, Q_NB244_266, Q_NB266_244, Q_BK267, Q_GW267, Q_GE267, Q_NB244_267, Q_NB267_244, Q_BK268, Q_GW268, Q_GE268, Q_NB244_268, Q_NB268_244, Q_BK269, Q_GW269, Q_GE269, Q_NB244_269, Q_NB269_244, Q_BK270, Q_GW270, Q_GE270, Q_NB244_270, Q_NB270_244, fun h0_ => absurd ((hoff 16 (by kernel_rfl)).symm.trans h0_) (by decide), fun h0_ => absurd ((hoff 17 (by kernel_rfl)).symm.trans h0_) (by decide), fun h0_ => absurd ((hoff 18 (by kernel_rfl)).symm.trans h0_) (by decide), fun h0_ => absurd ((hoff 19 (by kernel_rfl)).symm.trans h0_) (by decide), fun h0_ => absurd ((hoff 20 (by kernel_rfl)).symm.trans h0_) (by decide), fun h0_ => absurd ((hoff 1 (by kernel_rfl)).symm.trans h0_) (by decide), fun h0_ => absurd ((hoff 3 (by kernel_rfl)).symm.trans h0_) (by decide), fun h0_ => absurd ((hoff 5 (by kernel_rfl)).symm.trans h0_) (by decide), fun h0_ => absurd ((hoff 8 (by kernel_rfl)).symm.trans h0_) (by decide), fun h0_ => absurd ((hoff 10 (by kernel_rfl)).symm.trans h0_) (by decide), Q_X11_, Q_X12_, Q_X13_, Q_X14_, Q_X15_⟩
        refine steps_cons ?_ ?_
        ·
         rintro b a w' ⟨v248, v252, v256, v260, v264, gb266, gb267, gb268, gb269, gb270, m1_, m3_, m5_, m8_, m10_, m11_, m12_, m13_, m14_, m15_, hI_⟩ hb_ hon hoff
         have ha := hI_.ha; have Q_BK244 := hI_.Q_BK244; have Q_HB := hI_.Q_HB; have Q_NB267_266 := hI_.Q_NB267_266; have Q_NB266_267 := hI_.Q_NB266_267; have Q_NB268_266 := hI_.Q_NB268_266; have Q_NB266_268 := hI_.Q_NB266_268; have Q_NB269_266 := hI_.Q_NB269_266; have Q_NB266_269 := hI_.Q_NB266_269; have Q_NB270_266 := hI_.Q_NB270_266; have Q_NB266_270 := hI_.Q_NB266_270; have Q_NB268_267 := hI_.Q_NB268_267; have Q_NB267_268 := hI_.Q_NB267_268; have Q_NB269_267 := hI_.Q_NB269_267; have Q_NB267_269 := hI_.Q_NB267_269; have Q_NB270_267 := hI_.Q_NB270_267; have Q_NB267_270 := hI_.Q_NB267_270; have Q_NB269_268 := hI_.Q_NB269_268; have Q_NB268_269 := hI_.Q_NB268_269; have Q_NB270_268 := hI_.Q_NB270_268; have Q_NB268_270 := hI_.Q_NB268_270; have Q_NB270_269 := hI_.Q_NB270_269; have Q_NB269_270 := hI_.Q_NB269_270; have Q_HO249 := hI_.Q_HO249; have Q_HO253 := hI_.Q_HO253; have Q_HO257 := hI_.Q_HO257; have Q_HO261 := hI_.Q_HO261; have Q_HO265 := hI_.Q_HO265; have Q_BK266 := hI_.Q_BK266; have Q_GW266 := hI_.Q_GW266; have Q_GE266 := hI_.Q_GE266; have Q_NB244_266 := hI_.Q_NB244_266; have Q_NB266_244 := hI_.Q_NB266_244; have Q_BK267 := hI_.Q_BK267; have Q_GW267 := hI_.Q_GW267; have Q_GE267 := hI_.Q_GE267; have Q_NB244_267 := hI_.Q_NB244_267; have Q_NB267_244 := hI_.Q_NB267_244; have Q_BK268 := hI_.Q_BK268; have Q_GW268 := hI_.Q_GW268; have Q_GE268 := hI_.Q_GE268; have Q_NB244_268 := hI_.Q_NB244_268; have Q_NB268_244 := hI_.Q_NB268_244; have Q_BK269 := hI_.Q_BK269; have Q_GW269 := hI_.Q_GW269; have Q_GE269 := hI_.Q_GE269; have Q_NB244_269 := hI_.Q_NB244_269; have Q_NB269_244 := hI_.Q_NB269_244; have Q_BK270 := hI_.Q_BK270; have Q_GW270 := hI_.Q_GW270; have Q_GE270 := hI_.Q_GE270; have Q_NB244_270 := hI_.Q_NB244_270; have Q_NB270_244 := hI_.Q_NB270_244; have Q_BK266_e16 := hI_.Q_BK266_e16; have Q_BK267_e17 := hI_.Q_BK267_e17; have Q_BK268_e18 := hI_.Q_BK268_e18; have Q_BK269_e19 := hI_.Q_BK269_e19; have Q_BK270_e20 := hI_.Q_BK270_e20; have Q_X1_ := hI_.Q_X1_; have Q_X3_ := hI_.Q_X3_; have Q_X5_ := hI_.Q_X5_; have Q_X8_ := hI_.Q_X8_; have Q_X10_ := hI_.Q_X10_; have Q_X11_ := hI_.Q_X11_; have Q_X12_ := hI_.Q_X12_; have Q_X13_ := hI_.Q_X13_; have Q_X14_ := hI_.Q_X14_; have Q_X15_ := hI_.Q_X15_
         clear hI_
         refine ⟨_, rfl, fun K hK => ?_⟩
         have e12 : a.tmps[12]? = some (.agg #[.string a0_0, .slice A0_1 l0_1.length c0_1]) := by rw [ha]; exact putSel_on (e := (0, 12, .agg #[.string a0_0, .slice A0_1 l0_1.length c0_1])) 0 rfl rfl (hon 0 (by kernel_rfl)) rfl
         replace ha := Aside0.mk ha
         have BK244 := Aside0.mk Q_BK244
         have HB := Aside0.mk Q_HB
         refine goes_ Try.func54 (by kernel_rfl) rfl #[.agg #[.string a0_0, .slice A0_1 l0_1.length c0_1]] (by rfl) rfl rfl (by first | (simp only [List.map_toArray, List.map_cons, List.map_nil, Act.eval, Array.getD_eq_getD_getElem?, Option.getD_some, e12]; done) | (simp only [List.map_toArray, List.map_cons, List.map_nil, Act.eval, Array.getD_eq_getD_getElem?, Option.getD_some, e12]; rfl)) ?_
         with_reducible refine (fold_Lower.calls k a0_0 _ _ l0_1 t246 t247 _ ?side1 ?side2 A5.out).mono ?_
         (case side1 => repeat (first | exact (Kd.C_below HR0_1.out HB.out) | (with_reducible refine Kd.C_alloc ?_ _) | (with_reducible refine Kd.C_drewN ?_ _) | (with_reducible refine Kd.C_drew ?_)))
         (case side2 => exact HC0_1.out)
         rintro e w29 ⟨v248, rfl, ho0, hb⟩
         refine ⟨_, rfl, ?_⟩
         have n0_ := Aside0.mk (Kd.R_lower ho0 (below_size (by repeat (first | (with_reducible first | exact HB.out | apply below_alloc | apply pw_below_drewN | apply below_drew1 | refine below_set ?_ GE244.out) | exact HB.out))))
         have n1_ := Aside0.mk (blk_below (g := gb244) (o := .cells #[.string a0_0, .slice A0_1 l0_1.length c0_1] 24 (0, 0)) (by (with_reducible repeat (first | refine blk_drewN ?_ _ | refine blk_drew ?_ | refine blk_alloc ?_ _)); exact BK244.out) hb)
         have n2_ := Aside0.mk (below_step (by repeat (first | (with_reducible first | exact HB.out | apply below_alloc | apply pw_below_drewN | apply below_drew1 | refine below_set ?_ GE244.out) | exact HB.out)) hb)
         have z_BK266 := fun (h0_ : b 11 = true) (h1_ : b 16 = false) => (show w29.heap[gb266]? = some (.cells #[.string (⟨#[]⟩ : ByteArray), .slice none 0 0] 24 (0, 0)) from by first | exact (blk_below (g := gb266) (o := .cells #[.string (⟨#[]⟩ : ByteArray), .slice none 0 0] 24 (0, 0)) (by (with_reducible repeat (first | refine blk_drewN ?_ _ | refine blk_drew ?_ | refine blk_alloc ?_ _)); exact (Q_BK266 h0_ h1_)) hb))
         have z_BK267 := fun (h0_ : b 12 = true) (h1_ : b 17 = false) => (show w29.heap[gb267]? = some (.cells #[.string (⟨#[]⟩ : ByteArray), .slice none 0 0] 24 (0, 0)) from by first | exact (blk_below (g := gb267) (o := .cells #[.string (⟨#[]⟩ : ByteArray), .slice none 0 0] 24 (0, 0)) (by (with_reducible repeat (first | refine blk_drewN ?_ _ | refine blk_drew ?_ | refine blk_alloc ?_ _)); exact (Q_BK267 h0_ h1_)) hb))
         have z_BK268 := fun (h0_ : b 13 = true) (h1_ : b 18 = false) => (show w29.heap[gb268]? = some (.cells #[.string (⟨#[]⟩ : ByteArray), .slice none 0 0] 24 (0, 0)) from by first | exact (blk_below (g := gb268) (o := .cells #[.string (⟨#[]⟩ : ByteArray), .slice none 0 0] 24 (0, 0)) (by (with_reducible repeat (first | refine blk_drewN ?_ _ | refine blk_drew ?_ | refine blk_alloc ?_ _)); exact (Q_BK268 h0_ h1_)) hb))
         have z_BK269 := fun (h0_ : b 14 = true) (h1_ : b 19 = false) => (show w29.heap[gb269]? = some (.cells #[.string (⟨#[]⟩ : ByteArray), .slice none 0 0] 24 (0, 0)) from by first | exact (blk_below (g := gb269) (o := .cells #[.string (⟨#[]⟩ : ByteArray), .slice none 0 0] 24 (0, 0)) (by (with_reducible repeat (first | refine blk_drewN ?_ _ | refine blk_drew ?_ | refine blk_alloc ?_ _)); exact (Q_BK269 h0_ h1_)) hb))
         have z_BK270 := fun (h0_ : b 15 = true) (h1_ : b 20 = false) => (show w29.heap[gb270]? = some (.cells #[.string (⟨#[]⟩ : ByteArray), .slice none 0 0] 24 (0, 0)) from by first | exact (blk_below (g := gb270) (o := .cells #[.string (⟨#[]⟩ : ByteArray), .slice none 0 0] 24 (0, 0)) (by (with_reducible repeat (first | refine blk_drewN ?_ _ | refine blk_drew ?_ | refine blk_alloc ?_ _)); exact (Q_BK270 h0_ h1_)) hb))
         clear BK244
         clear HB
         have HO249 := n0_
         have BK244 := n1_
         have HB := n2_
         clear n0_ n1_ n2_
         (try clear hb)
         (try clear hb2)
         (try clear hk)
         (try clear hi)
         (try clear ho0)
         refine hK.out _ _ ⟨v248, v252, v256, v260, v264, gb266, gb267, gb268, gb269, gb270, (.agg #[.string t246, v248]), m3_, m5_, m8_, m10_, m11_, m12_, m13_, m14_, m15_, (by rw [ha.out]; exact putSel_upk 1 hb_ rfl rfl rfl), (by (with_reducible repeat (first | refine blk_drewN ?_ _ | refine blk_drew ?_ | refine blk_alloc ?_ _)); exact BK244.out), (by repeat (first | (with_reducible first | exact HB.out | apply below_alloc | apply pw_below_drewN | apply below_drew1 | refine below_set ?_ GE244.out) | exact HB.out)), Q_NB267_266, Q_NB266_267, Q_NB268_266, Q_NB266_268, Q_NB269_266, Q_NB266_269, Q_NB270_266, Q_NB266_270, Q_NB268_267, Q_NB267_268, Q_NB269_267, Q_NB267_269, Q_NB270_267, Q_NB267_270, Q_NB269_268, Q_NB268_269, Q_NB270_268, Q_NB268_270, Q_NB270_269, Q_NB269_270, fun _ => (by (with_reducible repeat (first | apply Kd.R_alloc | apply Kd.R_drewN | apply Kd.R_drew)); exact Kd.R_mono HO249.out (fun _ _ => trivial)), fun h0_ => absurd ((hoff 3 (by kernel_rfl)).symm.trans h0_) (by decide), fun h0_ => absurd ((hoff 5 (by kernel_rfl)).symm.trans h0_) (by decide), fun h0_ => absurd ((hoff 8 (by kernel_rfl)).symm.trans h0_) (by decide), fun h0_ => absurd ((hoff 10 (by kernel_rfl)).symm.trans h0_) (by decide), z_BK266, Q_GW266, Q_GE266, Q_NB244_266, Q_NB266_244, z_BK267, Q_GW267, Q_GE267, Q_NB244_267, Q_NB267_244, z_BK268, Q_GW268, Q_GE268, Q_NB244_268, Q_NB268_244, z_BK269, Q_GW269, Q_GE269, Q_NB244_269, Q_NB269_244, z_BK270, Q_GW270, Q_GE270, Q_NB244_270, Q_NB270_244, fun h0_ => absurd ((hoff 16 (by kernel_rfl)).symm.trans h0_) (by decide), fun h0_ => absurd ((hoff 17 (by kernel_rfl)).symm.trans h0_) (by decide), fun h0_ => absurd ((hoff 18 (by kernel_rfl)).symm.trans h0_) (by decide), fun h0_ => absurd ((hoff 19 (by kernel_rfl)).symm.trans h0_) (by decide), fun h0_ => absurd ((hoff 20 (by kernel_rfl)).symm.trans h0_) (by decide), fun _ => rfl, fun h0_ => absurd ((hoff 3 (by kernel_rfl)).symm.trans h0_) (by decide), fun h0_ => absurd ((hoff 5 (by kernel_rfl)).symm.trans h0_) (by decide), fun h0_ => absurd ((hoff 8 (by kernel_rfl)).symm.trans h0_) (by decide), fun h0_ => absurd ((hoff 10 (by kernel_rfl)).symm.trans h0_) (by decide), Q_X11_, Q_X12_, Q_X13_, Q_X14_, Q_X15_⟩
        refine steps_cons ?_ ?_
        ·
         rintro b a w' ⟨v248, v252, v256, v260, v264, gb266, gb267, gb268, gb269, gb270, m1_, m3_, m5_, m8_, m10_, m11_, m12_, m13_, m14_, m15_, hI_⟩ hb_ hon hoff
         have ha := hI_.ha; have Q_BK244 := hI_.Q_BK244; have Q_HB := hI_.Q_HB; have Q_NB267_266 := hI_.Q_NB267_266; have Q_NB266_267 := hI_.Q_NB266_267; have Q_NB268_266 := hI_.Q_NB268_266; have Q_NB266_268 := hI_.Q_NB266_268; have Q_NB269_266 := hI_.Q_NB269_266; have Q_NB266_269 := hI_.Q_NB266_269; have Q_NB270_266 := hI_.Q_NB270_266; have Q_NB266_270 := hI_.Q_NB266_270; have Q_NB268_267 := hI_.Q_NB268_267; have Q_NB267_268 := hI_.Q_NB267_268; have Q_NB269_267 := hI_.Q_NB269_267; have Q_NB267_269 := hI_.Q_NB267_269; have Q_NB270_267 := hI_.Q_NB270_267; have Q_NB267_270 := hI_.Q_NB267_270; have Q_NB269_268 := hI_.Q_NB269_268; have Q_NB268_269 := hI_.Q_NB268_269; have Q_NB270_268 := hI_.Q_NB270_268; have Q_NB268_270 := hI_.Q_NB268_270; have Q_NB270_269 := hI_.Q_NB270_269; have Q_NB269_270 := hI_.Q_NB269_270; have Q_HO249 := hI_.Q_HO249; have Q_HO253 := hI_.Q_HO253; have Q_HO257 := hI_.Q_HO257; have Q_HO261 := hI_.Q_HO261; have Q_HO265 := hI_.Q_HO265; have Q_BK266 := hI_.Q_BK266; have Q_GW266 := hI_.Q_GW266; have Q_GE266 := hI_.Q_GE266; have Q_NB244_266 := hI_.Q_NB244_266; have Q_NB266_244 := hI_.Q_NB266_244; have Q_BK267 := hI_.Q_BK267; have Q_GW267 := hI_.Q_GW267; have Q_GE267 := hI_.Q_GE267; have Q_NB244_267 := hI_.Q_NB244_267; have Q_NB267_244 := hI_.Q_NB267_244; have Q_BK268 := hI_.Q_BK268; have Q_GW268 := hI_.Q_GW268; have Q_GE268 := hI_.Q_GE268; have Q_NB244_268 := hI_.Q_NB244_268; have Q_NB268_244 := hI_.Q_NB268_244; have Q_BK269 := hI_.Q_BK269; have Q_GW269 := hI_.Q_GW269; have Q_GE269 := hI_.Q_GE269; have Q_NB244_269 := hI_.Q_NB244_269; have Q_NB269_244 := hI_.Q_NB269_244; have Q_BK270 := hI_.Q_BK270; have Q_GW270 := hI_.Q_GW270; have Q_GE270 := hI_.Q_GE270; have Q_NB244_270 := hI_.Q_NB244_270; have Q_NB270_244 := hI_.Q_NB270_244; have Q_BK266_e16 := hI_.Q_BK266_e16; have Q_BK267_e17 := hI_.Q_BK267_e17; have Q_BK268_e18 := hI_.Q_BK268_e18; have Q_BK269_e19 := hI_.Q_BK269_e19; have Q_BK270_e20 := hI_.Q_BK270_e20; have Q_X1_ := hI_.Q_X1_; have Q_X3_ := hI_.Q_X3_; have Q_X5_ := hI_.Q_X5_; have Q_X8_ := hI_.Q_X8_; have Q_X10_ := hI_.Q_X10_; have Q_X11_ := hI_.Q_X11_; have Q_X12_ := hI_.Q_X12_; have Q_X13_ := hI_.Q_X13_; have Q_X14_ := hI_.Q_X14_; have Q_X15_ := hI_.Q_X15_
         clear hI_
         refine ⟨_, rfl, fun K hK => ?_⟩
         have e2 : a.tmps[2]? = some (.pointer (some ⟨gb244, 0, none⟩)) := by rw [ha]; exact (putSel_off rfl).trans rfl
         replace ha := Aside0.mk ha
         have BK244 := Aside0.mk Q_BK244
         have HB := Aside0.mk Q_HB
         have hc0_ : w'.cell? ⟨gb244, 0, none⟩ = some (.string a0_0) := (blk_cell BK244.out 0).trans rfl
         have hc1_ : w'.cell? ⟨gb244, 1, none⟩ = some (.slice A0_1 l0_1.length c0_1) := (blk_cell BK244.out 1).trans rfl
         refine value_ (w1 := w') (v := .agg #[.string a0_0, .slice A0_1 l0_1.length c0_1]) (by rfl) rfl ?_ ?_
         ·
          go_simp
          (try simp only [i64_w])
          try rfl
         refine hK.out _ _ ⟨v248, v252, v256, v260, v264, gb266, gb267, gb268, gb269, gb270, m1_, m3_, m5_, m8_, m10_, m11_, m12_, m13_, m14_, m15_, (by rw [ha.out]; exact putSel_upk 2 hb_ rfl rfl rfl), Q_BK244, Q_HB, Q_NB267_266, Q_NB266_267, Q_NB268_266, Q_NB266_268, Q_NB269_266, Q_NB266_269, Q_NB270_266, Q_NB266_270, Q_NB268_267, Q_NB267_268, Q_NB269_267, Q_NB267_269, Q_NB270_267, Q_NB267_270, Q_NB269_268, Q_NB268_269, Q_NB270_268, Q_NB268_270, Q_NB270_269, Q_NB269_270, Q_HO249, fun h0_ => absurd ((hoff 3 (by kernel_rfl)).symm.trans h0_) (by decide), fun h0_ => absurd ((hoff 5 (by kernel_rfl)).symm.trans h0_) (by decide), fun h0_ => absurd ((hoff 8 (by kernel_rfl)).symm.trans h0_) (by decide), fun h0_ => absurd ((hoff 10 (by kernel_rfl)).symm.trans h0_) (by decide), Q_BK266, Q_GW266, Q_GE266, Q_NB244_266, Q_NB266_244, Q_BK267, Q_GW267, Q_GE267, Q_NB244_267, Q_NB267_244, Q_BK268, Q_GW268, Q_GE268, Q_NB244_268, Q_NB268_244, Q_BK269, Q_GW269, Q_GE269, Q_NB244_269, Q_NB269_244, Q_BK270, Q_GW270, Q_GE270, Q_NB244_270, Q_NB270_244, fun h0_ => absurd ((hoff 16 (by kernel_rfl)).symm.trans h0_) (by decide), fun h0_ => absurd ((hoff 17 (by kernel_rfl)).symm.trans h0_) (by decide), fun h0_ => absurd ((hoff 18 (by kernel_rfl)).symm.trans h0_) (by decide), fun h0_ => absurd ((hoff 19 (by kernel_rfl)).symm.trans h0_) (by decide), fun h0_ => absurd ((hoff 20 (by kernel_rfl)).symm.trans h0_) (by decide), Q_X1_, fun h0_ => absurd ((hoff 3 (by kernel_rfl)).symm.trans h0_) (by decide), fun h0_ => absurd ((hoff 5 (by kernel_rfl)).symm.trans h0_) (by decide), fun h0_ => absurd ((hoff 8 (by kernel_rfl)).symm.trans h0_) (by decide), fun h0_ => absurd ((hoff 10 (by kernel_rfl)).symm.trans h0_) (by decide), Q_X11_, Q_X12_, Q_X13_, Q_X14_, Q_X15_⟩
        refine steps_cons ?_ ?_
        ·
         rintro b a w' ⟨v248, v252, v256, v260, v264, gb266, gb267, gb268, gb269, gb270, m1_, m3_, m5_, m8_, m10_, m11_, m12_, m13_, m14_, m15_, hI_⟩ hb_ hon hoff
         have ha := hI_.ha; have Q_BK244 := hI_.Q_BK244; have Q_HB := hI_.Q_HB; have Q_NB267_266 := hI_.Q_NB267_266; have Q_NB266_267 := hI_.Q_NB266_267; have Q_NB268_266 := hI_.Q_NB268_266; have Q_NB266_268 := hI_.Q_NB266_268; have Q_NB269_266 := hI_.Q_NB269_266; have Q_NB266_269 := hI_.Q_NB266_269; have Q_NB270_266 := hI_.Q_NB270_266; have Q_NB266_270 := hI_.Q_NB266_270; have Q_NB268_267 := hI_.Q_NB268_267; have Q_NB267_268 := hI_.Q_NB267_268; have Q_NB269_267 := hI_.Q_NB269_267; have Q_NB267_269 := hI_.Q_NB267_269; have Q_NB270_267 := hI_.Q_NB270_267; have Q_NB267_270 := hI_.Q_NB267_270; have Q_NB269_268 := hI_.Q_NB269_268; have Q_NB268_269 := hI_.Q_NB268_269; have Q_NB270_268 := hI_.Q_NB270_268; have Q_NB268_270 := hI_.Q_NB268_270; have Q_NB270_269 := hI_.Q_NB270_269; have Q_NB269_270 := hI_.Q_NB269_270; have Q_HO249 := hI_.Q_HO249; have Q_HO253 := hI_.Q_HO253; have Q_HO257 := hI_.Q_HO257; have Q_HO261 := hI_.Q_HO261; have Q_HO265 := hI_.Q_HO265; have Q_BK266 := hI_.Q_BK266; have Q_GW266 := hI_.Q_GW266; have Q_GE266 := hI_.Q_GE266; have Q_NB244_266 := hI_.Q_NB244_266; have Q_NB266_244 := hI_.Q_NB266_244; have Q_BK267 := hI_.Q_BK267; have Q_GW267 := hI_.Q_GW267; have Q_GE267 := hI_.Q_GE267; have Q_NB244_267 := hI_.Q_NB244_267; have Q_NB267_244 := hI_.Q_NB267_244; have Q_BK268 := hI_.Q_BK268; have Q_GW268 := hI_.Q_GW268; have Q_GE268 := hI_.Q_GE268; have Q_NB244_268 := hI_.Q_NB244_268; have Q_NB268_244 := hI_.Q_NB268_244; have Q_BK269 := hI_.Q_BK269; have Q_GW269 := hI_.Q_GW269; have Q_GE269 := hI_.Q_GE269; have Q_NB244_269 := hI_.Q_NB244_269; have Q_NB269_244 := hI_.Q_NB269_244; have Q_BK270 := hI_.Q_BK270; have Q_GW270 := hI_.Q_GW270; have Q_GE270 := hI_.Q_GE270; have Q_NB244_270 := hI_.Q_NB244_270; have Q_NB270_244 := hI_.Q_NB270_244; have Q_BK266_e16 := hI_.Q_BK266_e16; have Q_BK267_e17 := hI_.Q_BK267_e17; have Q_BK268_e18 := hI_.Q_BK268_e18; have Q_BK269_e19 := hI_.Q_BK269_e19; have Q_BK270_e20 := hI_.Q_BK270_e20; have Q_X1_ := hI_.Q_X1_; have Q_X3_ := hI_.Q_X3_; have Q_X5_ := hI_.Q_X5_; have Q_X8_ := hI_.Q_X8_; have Q_X10_ := hI_.Q_X10_; have Q_X11_ := hI_.Q_X11_; have Q_X12_ := hI_.Q_X12_; have Q_X13_ := hI_.Q_X13_; have Q_X14_ := hI_.Q_X14_; have Q_X15_ := hI_.Q_X15_
         clear hI_
         refine ⟨_, rfl, fun K hK => ?_⟩
         have e14 : a.tmps[14]? = some (.agg #[.string a0_0, .slice A0_1 l0_1.length c0_1]) := by rw [ha]; exact putSel_on (e := (2, 14, .agg #[.string a0_0, .slice A0_1 l0_1.length c0_1])) 2 rfl rfl (hon 2 (by kernel_rfl)) rfl
         replace ha := Aside0.mk ha
         have BK244 := Aside0.mk Q_BK244
         have HB := Aside0.mk Q_HB
         have HO249 := Aside0.mk (Q_HO249 (hon 1 (by kernel_rfl)))
         refine goes_ Try.func55 (by kernel_rfl) rfl #[.agg #[.string a0_0, .slice A0_1 l0_1.length c0_1]] (by rfl) rfl rfl (by first | (simp only [List.map_toArray, List.map_cons, List.map_nil, Act.eval, Array.getD_eq_getD_getElem?, Option.getD_some, e14]; done) | (simp only [List.map_toArray, List.map_cons, List.map_nil, Act.eval, Array.getD_eq_getD_getElem?, Option.getD_some, e14]; rfl)) ?_
         with_reducible refine (fold_Ends.calls k a0_0 _ _ l0_1 t250 t251 _ ?side1 ?side2 A6.out).mono ?_
         (case side1 => repeat (first | exact (Kd.C_below HR0_1.out HB.out) | (with_reducible refine Kd.C_alloc ?_ _) | (with_reducible refine Kd.C_drewN ?_ _) | (with_reducible refine Kd.C_drew ?_)))
         (case side2 => exact HC0_1.out)
         rintro e w31 ⟨v252, rfl, ho0, hb⟩
         refine ⟨_, rfl, ?_⟩
         have n0_ := Aside0.mk (Kd.R_elder' (by (with_reducible repeat (first | apply Kd.R_alloc | apply Kd.R_drewN | apply Kd.R_drew)); exact HO249.out) (Kd.R_base ho0) hb)
         have n1_ := Aside0.mk (Kd.R_lower (Kd.R_new' ho0 (Kd.R_lt (by (with_reducible repeat (first | apply Kd.R_alloc | apply Kd.R_drewN | apply Kd.R_drew)); exact HO249.out))) (below_size (by repeat (first | (with_reducible first | exact HB.out | apply below_alloc | apply pw_below_drewN | apply below_drew1 | refine below_set ?_ GE244.out) | exact HB.out))))
         have n2_ := Aside0.mk (blk_below (g := gb244) (o := .cells #[.string a0_0, .slice A0_1 l0_1.length c0_1] 24 (0, 0)) (by (with_reducible repeat (first | refine blk_drewN ?_ _ | refine blk_drew ?_ | refine blk_alloc ?_ _)); exact BK244.out) hb)
         have n3_ := Aside0.mk (below_step (by repeat (first | (with_reducible first | exact HB.out | apply below_alloc | apply pw_below_drewN | apply below_drew1 | refine below_set ?_ GE244.out) | exact HB.out)) hb)
         have z_BK266 := fun (h0_ : b 11 = true) (h1_ : b 16 = false) => (show w31.heap[gb266]? = some (.cells #[.string (⟨#[]⟩ : ByteArray), .slice none 0 0] 24 (0, 0)) from by first | exact (blk_below (g := gb266) (o := .cells #[.string (⟨#[]⟩ : ByteArray), .slice none 0 0] 24 (0, 0)) (by (with_reducible repeat (first | refine blk_drewN ?_ _ | refine blk_drew ?_ | refine blk_alloc ?_ _)); exact (Q_BK266 h0_ h1_)) hb))
         have z_BK267 := fun (h0_ : b 12 = true) (h1_ : b 17 = false) => (show w31.heap[gb267]? = some (.cells #[.string (⟨#[]⟩ : ByteArray), .slice none 0 0] 24 (0, 0)) from by first | exact (blk_below (g := gb267) (o := .cells #[.string (⟨#[]⟩ : ByteArray), .slice none 0 0] 24 (0, 0)) (by (with_reducible repeat (first | refine blk_drewN ?_ _ | refine blk_drew ?_ | refine blk_alloc ?_ _)); exact (Q_BK267 h0_ h1_)) hb))
         have z_BK268 := fun (h0_ : b 13 = true) (h1_ : b 18 = false) => (show w31.heap[gb268]? = some (.cells #[.string (⟨#[]⟩ : ByteArray), .slice none 0 0] 24 (0, 0)) from by first | exact (blk_below (g := gb268) (o := .cells #[.string (⟨#[]⟩ : ByteArray), .slice none 0 0] 24 (0, 0)) (by (with_reducible repeat (first | refine blk_drewN ?_ _ | refine blk_drew ?_ | refine blk_alloc ?_ _)); exact (Q_BK268 h0_ h1_)) hb))
         have z_BK269 := fun (h0_ : b 14 = true) (h1_ : b 19 = false) => (show w31.heap[gb269]? = some (.cells #[.string (⟨#[]⟩ : ByteArray), .slice none 0 0] 24 (0, 0)) from by first | exact (blk_below (g := gb269) (o := .cells #[.string (⟨#[]⟩ : ByteArray), .slice none 0 0] 24 (0, 0)) (by (with_reducible repeat (first | refine blk_drewN ?_ _ | refine blk_drew ?_ | refine blk_alloc ?_ _)); exact (Q_BK269 h0_ h1_)) hb))
         have z_BK270 := fun (h0_ : b 15 = true) (h1_ : b 20 = false) => (show w31.heap[gb270]? = some (.cells #[.string (⟨#[]⟩ : ByteArray), .slice none 0 0] 24 (0, 0)) from by first | exact (blk_below (g := gb270) (o := .cells #[.string (⟨#[]⟩ : ByteArray), .slice none 0 0] 24 (0, 0)) (by (with_reducible repeat (first | refine blk_drewN ?_ _ | refine blk_drew ?_ | refine blk_alloc ?_ _)); exact (Q_BK270 h0_ h1_)) hb))
         clear HO249
         clear BK244
         clear HB
         have HO249 := n0_
         have HO253 := n1_
         have BK244 := n2_
         have HB := n3_
         clear n0_ n1_ n2_ n3_
         (try clear hb)
         (try clear hb2)
         (try clear hk)
         (try clear hi)
         (try clear ho0)
         refine hK.out _ _ ⟨v248, v252, v256, v260, v264, gb266, gb267, gb268, gb269, gb270, m1_, (.agg #[.string t250, v252]), m5_, m8_, m10_, m11_, m12_, m13_, m14_, m15_, (by rw [ha.out]; exact putSel_upk 3 hb_ rfl rfl rfl), (by (with_reducible repeat (first | refine blk_drewN ?_ _ | refine blk_drew ?_ | refine blk_alloc ?_ _)); exact BK244.out), (by repeat (first | (with_reducible first | exact HB.out | apply below_alloc | apply pw_below_drewN | apply below_drew1 | refine below_set ?_ GE244.out) | exact HB.out)), Q_NB267_266, Q_NB266_267, Q_NB268_266, Q_NB266_268, Q_NB269_266, Q_NB266_269, Q_NB270_266, Q_NB266_270, Q_NB268_267, Q_NB267_268, Q_NB269_267, Q_NB267_269, Q_NB270_267, Q_NB267_270, Q_NB269_268, Q_NB268_269, Q_NB270_268, Q_NB268_270, Q_NB270_269, Q_NB269_270, fun _ => (by (with_reducible repeat (first | apply Kd.R_alloc | apply Kd.R_drewN | apply Kd.R_drew)); exact Kd.R_mono HO249.out (fun _ _ => trivial)), fun _ => (by (with_reducible repeat (first | apply Kd.R_alloc | apply Kd.R_drewN | apply Kd.R_drew)); exact Kd.R_mono HO253.out (fun _ _ => trivial)), fun h0_ => absurd ((hoff 5 (by kernel_rfl)).symm.trans h0_) (by decide), fun h0_ => absurd ((hoff 8 (by kernel_rfl)).symm.trans h0_) (by decide), fun h0_ => absurd ((hoff 10 (by kernel_rfl)).symm.trans h0_) (by decide), z_BK266, Q_GW266, Q_GE266, Q_NB244_266, Q_NB266_244, z_BK267, Q_GW267, Q_GE267, Q_NB244_267, Q_NB267_244, z_BK268, Q_GW268, Q_GE268, Q_NB244_268, Q_NB268_244, z_BK269, Q_GW269, Q_GE269, Q_NB244_269, Q_NB269_244, z_BK270, Q_GW270, Q_GE270, Q_NB244_270, Q_NB270_244, fun h0_ => absurd ((hoff 16 (by kernel_rfl)).symm.trans h0_) (by decide), fun h0_ => absurd ((hoff 17 (by kernel_rfl)).symm.trans h0_) (by decide), fun h0_ => absurd ((hoff 18 (by kernel_rfl)).symm.trans h0_) (by decide), fun h0_ => absurd ((hoff 19 (by kernel_rfl)).symm.trans h0_) (by decide), fun h0_ => absurd ((hoff 20 (by kernel_rfl)).symm.trans h0_) (by decide), Q_X1_, fun _ => rfl, fun h0_ => absurd ((hoff 5 (by kernel_rfl)).symm.trans h0_) (by decide), fun h0_ => absurd ((hoff 8 (by kernel_rfl)).symm.trans h0_) (by decide), fun h0_ => absurd ((hoff 10 (by kernel_rfl)).symm.trans h0_) (by decide), Q_X11_, Q_X12_, Q_X13_, Q_X14_, Q_X15_⟩
        refine steps_cons ?_ ?_
        ·
         rintro b a w' ⟨v248, v252, v256, v260, v264, gb266, gb267, gb268, gb269, gb270, m1_, m3_, m5_, m8_, m10_, m11_, m12_, m13_, m14_, m15_, hI_⟩ hb_ hon hoff
         have ha := hI_.ha; have Q_BK244 := hI_.Q_BK244; have Q_HB := hI_.Q_HB; have Q_NB267_266 := hI_.Q_NB267_266; have Q_NB266_267 := hI_.Q_NB266_267; have Q_NB268_266 := hI_.Q_NB268_266; have Q_NB266_268 := hI_.Q_NB266_268; have Q_NB269_266 := hI_.Q_NB269_266; have Q_NB266_269 := hI_.Q_NB266_269; have Q_NB270_266 := hI_.Q_NB270_266; have Q_NB266_270 := hI_.Q_NB266_270; have Q_NB268_267 := hI_.Q_NB268_267; have Q_NB267_268 := hI_.Q_NB267_268; have Q_NB269_267 := hI_.Q_NB269_267; have Q_NB267_269 := hI_.Q_NB267_269; have Q_NB270_267 := hI_.Q_NB270_267; have Q_NB267_270 := hI_.Q_NB267_270; have Q_NB269_268 := hI_.Q_NB269_268; have Q_NB268_269 := hI_.Q_NB268_269; have Q_NB270_268 := hI_.Q_NB270_268; have Q_NB268_270 := hI_.Q_NB268_270; have Q_NB270_269 := hI_.Q_NB270_269; have Q_NB269_270 := hI_.Q_NB269_270; have Q_HO249 := hI_.Q_HO249; have Q_HO253 := hI_.Q_HO253; have Q_HO257 := hI_.Q_HO257; have Q_HO261 := hI_.Q_HO261; have Q_HO265 := hI_.Q_HO265; have Q_BK266 := hI_.Q_BK266; have Q_GW266 := hI_.Q_GW266; have Q_GE266 := hI_.Q_GE266; have Q_NB244_266 := hI_.Q_NB244_266; have Q_NB266_244 := hI_.Q_NB266_244; have Q_BK267 := hI_.Q_BK267; have Q_GW267 := hI_.Q_GW267; have Q_GE267 := hI_.Q_GE267; have Q_NB244_267 := hI_.Q_NB244_267; have Q_NB267_244 := hI_.Q_NB267_244; have Q_BK268 := hI_.Q_BK268; have Q_GW268 := hI_.Q_GW268; have Q_GE268 := hI_.Q_GE268; have Q_NB244_268 := hI_.Q_NB244_268; have Q_NB268_244 := hI_.Q_NB268_244; have Q_BK269 := hI_.Q_BK269; have Q_GW269 := hI_.Q_GW269; have Q_GE269 := hI_.Q_GE269; have Q_NB244_269 := hI_.Q_NB244_269; have Q_NB269_244 := hI_.Q_NB269_244; have Q_BK270 := hI_.Q_BK270; have Q_GW270 := hI_.Q_GW270; have Q_GE270 := hI_.Q_GE270; have Q_NB244_270 := hI_.Q_NB244_270; have Q_NB270_244 := hI_.Q_NB270_244; have Q_BK266_e16 := hI_.Q_BK266_e16; have Q_BK267_e17 := hI_.Q_BK267_e17; have Q_BK268_e18 := hI_.Q_BK268_e18; have Q_BK269_e19 := hI_.Q_BK269_e19; have Q_BK270_e20 := hI_.Q_BK270_e20; have Q_X1_ := hI_.Q_X1_; have Q_X3_ := hI_.Q_X3_; have Q_X5_ := hI_.Q_X5_; have Q_X8_ := hI_.Q_X8_; have Q_X10_ := hI_.Q_X10_; have Q_X11_ := hI_.Q_X11_; have Q_X12_ := hI_.Q_X12_; have Q_X13_ := hI_.Q_X13_; have Q_X14_ := hI_.Q_X14_; have Q_X15_ := hI_.Q_X15_
         clear hI_
         refine ⟨_, rfl, fun K hK => ?_⟩
         have e2 : a.tmps[2]? = some (.pointer (some ⟨gb244, 0, none⟩)) := by rw [ha]; exact (putSel_off rfl).trans rfl
         replace ha := Aside0.mk ha
         have BK244 := Aside0.mk Q_BK244
         have HB := Aside0.mk Q_HB
         have hc0_ : w'.cell? ⟨gb244, 0, none⟩ = some (.string a0_0) := (blk_cell BK244.out 0).trans rfl
         have hc1_ : w'.cell? ⟨gb244, 1, none⟩ = some (.slice A0_1 l0_1.length c0_1) := (blk_cell BK244.out 1).trans rfl
         refine value_ (w1 := w') (v := .agg #[.string a0_0, .slice A0_1 l0_1.length c0_1]) (by rfl) rfl ?_ ?_
         ·
          go_simp
          (try simp only [i64_w])
          try rfl
         refine hK.out _ _ ⟨v248, v252, v256, v260, v264, gb266, gb267, gb268, gb269, gb270, m1_, m3_, m5_, m8_, m10_, m11_, m12_, m13_, m14_, m15_, (by rw [ha.out]; exact putSel_upk 4 hb_ rfl rfl rfl), Q_BK244, Q_HB, Q_NB267_266, Q_NB266_267, Q_NB268_266, Q_NB266_268, Q_NB269_266, Q_NB266_269, Q_NB270_266, Q_NB266_270, Q_NB268_267, Q_NB267_268, Q_NB269_267, Q_NB267_269, Q_NB270_267, Q_NB267_270, Q_NB269_268, Q_NB268_269, Q_NB270_268, Q_NB268_270, Q_NB270_269, Q_NB269_270, Q_HO249, Q_HO253, fun h0_ => absurd ((hoff 5 (by kernel_rfl)).symm.trans h0_) (by decide), fun h0_ => absurd ((hoff 8 (by kernel_rfl)).symm.trans h0_) (by decide), fun h0_ => absurd ((hoff 10 (by kernel_rfl)).symm.trans h0_) (by decide), Q_BK266, Q_GW266, Q_GE266, Q_NB244_266, Q_NB266_244, Q_BK267, Q_GW267, Q_GE267, Q_NB244_267, Q_NB267_244, Q_BK268, Q_GW268, Q_GE268, Q_NB244_268, Q_NB268_244, Q_BK269, Q_GW269, Q_GE269, Q_NB244_269, Q_NB269_244, Q_BK270, Q_GW270, Q_GE270, Q_NB244_270, Q_NB270_244, fun h0_ => absurd ((hoff 16 (by kernel_rfl)).symm.trans h0_) (by decide), fun h0_ => absurd ((hoff 17 (by kernel_rfl)).symm.trans h0_) (by decide), fun h0_ => absurd ((hoff 18 (by kernel_rfl)).symm.trans h0_) (by decide), fun h0_ => absurd ((hoff 19 (by kernel_rfl)).symm.trans h0_) (by decide), fun h0_ => absurd ((hoff 20 (by kernel_rfl)).symm.trans h0_) (by decide), Q_X1_, Q_X3_, fun h0_ => absurd ((hoff 5 (by kernel_rfl)).symm.trans h0_) (by decide), fun h0_ => absurd ((hoff 8 (by kernel_rfl)).symm.trans h0_) (by decide), fun h0_ => absurd ((hoff 10 (by kernel_rfl)).symm.trans h0_) (by decide), Q_X11_, Q_X12_, Q_X13_, Q_X14_, Q_X15_⟩
        refine steps_cons ?_ ?_
        ·
         rintro b a w' ⟨v248, v252, v256, v260, v264, gb266, gb267, gb268, gb269, gb270, m1_, m3_, m5_, m8_, m10_, m11_, m12_, m13_, m14_, m15_, hI_⟩ hb_ hon hoff
         have ha := hI_.ha; have Q_BK244 := hI_.Q_BK244; have Q_HB := hI_.Q_HB; have Q_NB267_266 := hI_.Q_NB267_266; have Q_NB266_267 := hI_.Q_NB266_267; have Q_NB268_266 := hI_.Q_NB268_266; have Q_NB266_268 := hI_.Q_NB266_268; have Q_NB269_266 := hI_.Q_NB269_266; have Q_NB266_269 := hI_.Q_NB266_269; have Q_NB270_266 := hI_.Q_NB270_266; have Q_NB266_270 := hI_.Q_NB266_270; have Q_NB268_267 := hI_.Q_NB268_267; have Q_NB267_268 := hI_.Q_NB267_268; have Q_NB269_267 := hI_.Q_NB269_267; have Q_NB267_269 := hI_.Q_NB267_269; have Q_NB270_267 := hI_.Q_NB270_267; have Q_NB267_270 := hI_.Q_NB267_270; have Q_NB269_268 := hI_.Q_NB269_268; have Q_NB268_269 := hI_.Q_NB268_269; have Q_NB270_268 := hI_.Q_NB270_268; have Q_NB268_270 := hI_.Q_NB268_270; have Q_NB270_269 := hI_.Q_NB270_269; have Q_NB269_270 := hI_.Q_NB269_270; have Q_HO249 := hI_.Q_HO249; have Q_HO253 := hI_.Q_HO253; have Q_HO257 := hI_.Q_HO257; have Q_HO261 := hI_.Q_HO261; have Q_HO265 := hI_.Q_HO265; have Q_BK266 := hI_.Q_BK266; have Q_GW266 := hI_.Q_GW266; have Q_GE266 := hI_.Q_GE266; have Q_NB244_266 := hI_.Q_NB244_266; have Q_NB266_244 := hI_.Q_NB266_244; have Q_BK267 := hI_.Q_BK267; have Q_GW267 := hI_.Q_GW267; have Q_GE267 := hI_.Q_GE267; have Q_NB244_267 := hI_.Q_NB244_267; have Q_NB267_244 := hI_.Q_NB267_244; have Q_BK268 := hI_.Q_BK268; have Q_GW268 := hI_.Q_GW268; have Q_GE268 := hI_.Q_GE268; have Q_NB244_268 := hI_.Q_NB244_268; have Q_NB268_244 := hI_.Q_NB268_244; have Q_BK269 := hI_.Q_BK269; have Q_GW269 := hI_.Q_GW269; have Q_GE269 := hI_.Q_GE269; have Q_NB244_269 := hI_.Q_NB244_269; have Q_NB269_244 := hI_.Q_NB269_244; have Q_BK270 := hI_.Q_BK270; have Q_GW270 := hI_.Q_GW270; have Q_GE270 := hI_.Q_GE270; have Q_NB244_270 := hI_.Q_NB244_270; have Q_NB270_244 := hI_.Q_NB270_244; have Q_BK266_e16 := hI_.Q_BK266_e16; have Q_BK267_e17 := hI_.Q_BK267_e17; have Q_BK268_e18 := hI_.Q_BK268_e18; have Q_BK269_e19 := hI_.Q_BK269_e19; have Q_BK270_e20 := hI_.Q_BK270_e20; have Q_X1_ := hI_.Q_X1_; have Q_X3_ := hI_.Q_X3_; have Q_X5_ := hI_.Q_X5_; have Q_X8_ := hI_.Q_X8_; have Q_X10_ := hI_.Q_X10_; have Q_X11_ := hI_.Q_X11_; have Q_X12_ := hI_.Q_X12_; have Q_X13_ := hI_.Q_X13_; have Q_X14_ := hI_.Q_X14_; have Q_X15_ := hI_.Q_X15_
         clear hI_
         refine ⟨_, rfl, fun K hK => ?_⟩
         have e16 : a.tmps[16]? = some (.agg #[.string a0_0, .slice A0_1 l0_1.length c0_1]) := by rw [ha]; exact putSel_on (e := (4, 16, .agg #[.string a0_0, .slice A0_1 l0_1.length c0_1])) 4 rfl rfl (hon 4 (by kernel_rfl)) rfl
         replace ha := Aside0.mk ha
         have BK244 := Aside0.mk Q_BK244
         have HB := Aside0.mk Q_HB
         have HO249 := Aside0.mk (Q_HO249 (hon 1 (by kernel_rfl)))
         have HO253 := Aside0.mk (Q_HO253 (hon 3 (by kernel_rfl)))
         refine goes_ Try.func57 (by kernel_rfl) rfl #[.agg #[.string a0_0, .slice A0_1 l0_1.length c0_1]] (by rfl) rfl rfl (by first | (simp only [List.map_toArray, List.map_cons, List.map_nil, Act.eval, Array.getD_eq_getD_getElem?, Option.getD_some, e16]; done) | (simp only [List.map_toArray, List.map_cons, List.map_nil, Act.eval, Array.getD_eq_getD_getElem?, Option.getD_some, e16]; rfl)) ?_
         with_reducible refine (fold_Trim.calls k a0_0 _ _ l0_1 t254 t255 _ ?side1 ?side2 A7.out).mono ?_
         (case side1 => repeat (first | exact (Kd.C_below HR0_1.out HB.out) | (with_reducible refine Kd.C_alloc ?_ _) | (with_reducible refine Kd.C_drewN ?_ _) | (with_reducible refine Kd.C_drew ?_)))
         (case side2 => exact HC0_1.out)
         rintro e w32 ⟨v256, rfl, ho0, hb⟩
         refine ⟨_, rfl, ?_⟩
         have n0_ := Aside0.mk (Kd.R_elder' (by (with_reducible repeat (first | apply Kd.R_alloc | apply Kd.R_drewN | apply Kd.R_drew)); exact HO249.out) (Kd.R_base ho0) hb)
         have n1_ := Aside0.mk (Kd.R_elder' (by (with_reducible repeat (first | apply Kd.R_alloc | apply Kd.R_drewN | apply Kd.R_drew)); exact HO253.out) (Kd.R_base ho0) hb)
         have n2_ := Aside0.mk (Kd.R_lower (Kd.R_new' (Kd.R_new' ho0 (Kd.R_lt (by (with_reducible repeat (first | apply Kd.R_alloc | apply Kd.R_drewN | apply Kd.R_drew)); exact HO249.out))) (Kd.R_lt (by (with_reducible repeat (first | apply Kd.R_alloc | apply Kd.R_drewN | apply Kd.R_drew)); exact HO253.out))) (below_size (by repeat (first | (with_reducible first | exact HB.out | apply below_alloc | apply pw_below_drewN | apply below_drew1 | refine below_set ?_ GE244.out) | exact HB.out))))
         have n3_ := Aside0.mk (blk_below (g := gb244) (o := .cells #[.string a0_0, .slice A0_1 l0_1.length c0_1] 24 (0, 0)) (by (with_reducible repeat (first | refine blk_drewN ?_ _ | refine blk_drew ?_ | refine blk_alloc ?_ _)); exact BK244.out) hb)
         have n4_ := Aside0.mk (below_step (by repeat (first | (with_reducible first | exact HB.out | apply below_alloc | apply pw_below_drewN | apply below_drew1 | refine below_set ?_ GE244.out) | exact HB.out)) hb)
         have z_BK266 := fun (h0_ : b 11 = true) (h1_ : b 16 = false) => (show w32.heap[gb266]? = some (.cells #[.string (⟨#[]⟩ : ByteArray), .slice none 0 0] 24 (0, 0)) from by first | exact (blk_below (g := gb266) (o := .cells #[.string (⟨#[]⟩ : ByteArray), .slice none 0 0] 24 (0, 0)) (by (with_reducible repeat (first | refine blk_drewN ?_ _ | refine blk_drew ?_ | refine blk_alloc ?_ _)); exact (Q_BK266 h0_ h1_)) hb))
         have z_BK267 := fun (h0_ : b 12 = true) (h1_ : b 17 = false) => (show w32.heap[gb267]? = some (.cells #[.string (⟨#[]⟩ : ByteArray), .slice none 0 0] 24 (0, 0)) from by first | exact (blk_below (g := gb267) (o := .cells #[.string (⟨#[]⟩ : ByteArray), .slice none 0 0] 24 (0, 0)) (by (with_reducible repeat (first | refine blk_drewN ?_ _ | refine blk_drew ?_ | refine blk_alloc ?_ _)); exact (Q_BK267 h0_ h1_)) hb))
         have z_BK268 := fun (h0_ : b 13 = true) (h1_ : b 18 = false) => (show w32.heap[gb268]? = some (.cells #[.string (⟨#[]⟩ : ByteArray), .slice none 0 0] 24 (0, 0)) from by first | exact (blk_below (g := gb268) (o := .cells #[.string (⟨#[]⟩ : ByteArray), .slice none 0 0] 24 (0, 0)) (by (with_reducible repeat (first | refine blk_drewN ?_ _ | refine blk_drew ?_ | refine blk_alloc ?_ _)); exact (Q_BK268 h0_ h1_)) hb))
         have z_BK269 := fun (h0_ : b 14 = true) (h1_ : b 19 = false) => (show w32.heap[gb269]? = some (.cells #[.string (⟨#[]⟩ : ByteArray), .slice none 0 0] 24 (0, 0)) from by first | exact (blk_below (g := gb269) (o := .cells #[.string (⟨#[]⟩ : ByteArray), .slice none 0 0] 24 (0, 0)) (by (with_reducible repeat (first | refine blk_drewN ?_ _ | refine blk_drew ?_ | refine blk_alloc ?_ _)); exact (Q_BK269 h0_ h1_)) hb))
         have z_BK270 := fun (h0_ : b 15 = true) (h1_ : b 20 = false) => (show w32.heap[gb270]? = some (.cells #[.string (⟨#[]⟩ : ByteArray), .slice none 0 0] 24 (0, 0)) from by first | exact (blk_below (g := gb270) (o := .cells #[.string (⟨#[]⟩ : ByteArray), .slice none 0 0] 24 (0, 0)) (by (with_reducible repeat (first | refine blk_drewN ?_ _ | refine blk_drew ?_ | refine blk_alloc ?_ _)); exact (Q_BK270 h0_ h1_)) hb))
         clear HO249
         clear HO253
         clear BK244
         clear HB
         have HO249 := n0_
         have HO253 := n1_
         have HO257 := n2_
         have BK244 := n3_
         have HB := n4_
         clear n0_ n1_ n2_ n3_ n4_
         (try clear hb)
         (try clear hb2)
         (try clear hk)
         (try clear hi)
         (try clear ho0)
         refine hK.out _ _ ⟨v248, v252, v256, v260, v264, gb266, gb267, gb268, gb269, gb270, m1_, m3_, (.agg #[.string t254, v256]), m8_, m10_, m11_, m12_, m13_, m14_, m15_, (by rw [ha.out]; exact putSel_upk 5 hb_ rfl rfl rfl), (by (with_reducible repeat (first | refine blk_drewN ?_ _ | refine blk_drew ?_ | refine blk_alloc ?_ _)); exact BK244.out), (by repeat (first | (with_reducible first | exact HB.out | apply below_alloc | apply pw_below_drewN | apply below_drew1 | refine below_set ?_ GE244.out) | exact HB.out)), Q_NB267_266, Q_NB266_267, Q_NB268_266, Q_NB266_268, Q_NB269_266, Q_NB266_269, Q_NB270_266, Q_NB266_270, Q_NB268_267, Q_NB267_268, Q_NB269_267, Q_NB267_269, Q_NB270_267, Q_NB267_270, Q_NB269_268, Q_NB268_269, Q_NB270_268, Q_NB268_270, Q_NB270_269, Q_NB269_270, fun _ => (by (with_reducible repeat (first | apply Kd.R_alloc | apply Kd.R_drewN | apply Kd.R_drew)); exact Kd.R_mono HO249.out (fun _ _ => trivial)), fun _ => (by (with_reducible repeat (first | apply Kd.R_alloc | apply Kd.R_drewN | apply Kd.R_drew)); exact Kd.R_mono HO253.out (fun _ _ => trivial)), fun _ => (by (with_reducible repeat (first | apply Kd.R_alloc | apply Kd.R_drewN | apply Kd.R_drew)); exact Kd.R_mono HO257.out (fun _ _ => trivial)), fun h0_ => absurd ((hoff 8 (by kernel_rfl)).symm.trans h0_) (by decide), fun h0_ => absurd ((hoff 10 (by kernel_rfl)).symm.trans h0_) (by decide), z_BK266, Q_GW266, Q_GE266, Q_NB244_266, Q_NB266_244, z_BK267, Q_GW267, Q_GE267, Q_NB244_267, Q_NB267_244, z_BK268, Q_GW268, Q_GE268, Q_NB244_268, Q_NB268_244, z_BK269, Q_GW269, Q_GE269, Q_NB244_269, Q_NB269_244, z_BK270, Q_GW270, Q_GE270, Q_NB244_270, Q_NB270_244, fun h0_ => absurd ((hoff 16 (by kernel_rfl)).symm.trans h0_) (by decide), fun h0_ => absurd ((hoff 17 (by kernel_rfl)).symm.trans h0_) (by decide), fun h0_ => absurd ((hoff 18 (by kernel_rfl)).symm.trans h0_) (by decide), fun h0_ => absurd ((hoff 19 (by kernel_rfl)).symm.trans h0_) (by decide), fun h0_ => absurd ((hoff 20 (by kernel_rfl)).symm.trans h0_) (by decide), Q_X1_, Q_X3_, fun _ => rfl, fun h0_ => absurd ((hoff 8 (by kernel_rfl)).symm.trans h0_) (by decide), fun h0_ => absurd ((hoff 10 (by kernel_rfl)).symm.trans h0_) (by decide), Q_X11_, Q_X12_, Q_X13_, Q_X14_, Q_X15_⟩
        refine steps_cons ?_ ?_
        ·
         rintro b a w' ⟨v248, v252, v256, v260, v264, gb266, gb267, gb268, gb269, gb270, m1_, m3_, m5_, m8_, m10_, m11_, m12_, m13_, m14_, m15_, hI_⟩ hb_ hon hoff
         have ha := hI_.ha; have Q_BK244 := hI_.Q_BK244; have Q_HB := hI_.Q_HB; have Q_NB267_266 := hI_.Q_NB267_266; have Q_NB266_267 := hI_.Q_NB266_267; have Q_NB268_266 := hI_.Q_NB268_266; have Q_NB266_268 := hI_.Q_NB266_268; have Q_NB269_266 := hI_.Q_NB269_266; have Q_NB266_269 := hI_.Q_NB266_269; have Q_NB270_266 := hI_.Q_NB270_266; have Q_NB266_270 := hI_.Q_NB266_270; have Q_NB268_267 := hI_.Q_NB268_267; have Q_NB267_268 := hI_.Q_NB267_268; have Q_NB269_267 := hI_.Q_NB269_267; have Q_NB267_269 := hI_.Q_NB267_269; have Q_NB270_267 := hI_.Q_NB270_267; have Q_NB267_270 := hI_.Q_NB267_270; have Q_NB269_268 := hI_.Q_NB269_268; have Q_NB268_269 := hI_.Q_NB268_269; have Q_NB270_268 := hI_.Q_NB270_268; have Q_NB268_270 := hI_.Q_NB268_270; have Q_NB270_269 := hI_.Q_NB270_269; have Q_NB269_270 := hI_.Q_NB269_270; have Q_HO249 := hI_.Q_HO249; have Q_HO253 := hI_.Q_HO253; have Q_HO257 := hI_.Q_HO257; have Q_HO261 := hI_.Q_HO261; have Q_HO265 := hI_.Q_HO265; have Q_BK266 := hI_.Q_BK266; have Q_GW266 := hI_.Q_GW266; have Q_GE266 := hI_.Q_GE266; have Q_NB244_266 := hI_.Q_NB244_266; have Q_NB266_244 := hI_.Q_NB266_244; have Q_BK267 := hI_.Q_BK267; have Q_GW267 := hI_.Q_GW267; have Q_GE267 := hI_.Q_GE267; have Q_NB244_267 := hI_.Q_NB244_267; have Q_NB267_244 := hI_.Q_NB267_244; have Q_BK268 := hI_.Q_BK268; have Q_GW268 := hI_.Q_GW268; have Q_GE268 := hI_.Q_GE268; have Q_NB244_268 := hI_.Q_NB244_268; have Q_NB268_244 := hI_.Q_NB268_244; have Q_BK269 := hI_.Q_BK269; have Q_GW269 := hI_.Q_GW269; have Q_GE269 := hI_.Q_GE269; have Q_NB244_269 := hI_.Q_NB244_269; have Q_NB269_244 := hI_.Q_NB269_244; have Q_BK270 := hI_.Q_BK270; have Q_GW270 := hI_.Q_GW270; have Q_GE270 := hI_.Q_GE270; have Q_NB244_270 := hI_.Q_NB244_270; have Q_NB270_244 := hI_.Q_NB270_244; have Q_BK266_e16 := hI_.Q_BK266_e16; have Q_BK267_e17 := hI_.Q_BK267_e17; have Q_BK268_e18 := hI_.Q_BK268_e18; have Q_BK269_e19 := hI_.Q_BK269_e19; have Q_BK270_e20 := hI_.Q_BK270_e20; have Q_X1_ := hI_.Q_X1_; have Q_X3_ := hI_.Q_X3_; have Q_X5_ := hI_.Q_X5_; have Q_X8_ := hI_.Q_X8_; have Q_X10_ := hI_.Q_X10_; have Q_X11_ := hI_.Q_X11_; have Q_X12_ := hI_.Q_X12_; have Q_X13_ := hI_.Q_X13_; have Q_X14_ := hI_.Q_X14_; have Q_X15_ := hI_.Q_X15_
         clear hI_
         refine ⟨_, rfl, fun K hK => ?_⟩
         have e2 : a.tmps[2]? = some (.pointer (some ⟨gb244, 0, none⟩)) := by rw [ha]; exact (putSel_off rfl).trans rfl
         replace ha := Aside0.mk ha
         have BK244 := Aside0.mk Q_BK244
         have HB := Aside0.mk Q_HB
         have hc0_ : w'.cell? ⟨gb244, 0, none⟩ = some (.string a0_0) := (blk_cell BK244.out 0).trans rfl
         have hc1_ : w'.cell? ⟨gb244, 1, none⟩ = some (.slice A0_1 l0_1.length c0_1) := (blk_cell BK244.out 1).trans rfl
         refine value_ (w1 := w') (v := .agg #[.string a0_0, .slice A0_1 l0_1.length c0_1]) (by rfl) rfl ?_ ?_
         ·
          go_simp
          (try simp only [i64_w])
          try rfl
         refine hK.out _ _ ⟨v248, v252, v256, v260, v264, gb266, gb267, gb268, gb269, gb270, m1_, m3_, m5_, m8_, m10_, m11_, m12_, m13_, m14_, m15_, (by rw [ha.out]; exact putSel_upk 6 hb_ rfl rfl rfl), Q_BK244, Q_HB, Q_NB267_266, Q_NB266_267, Q_NB268_266, Q_NB266_268, Q_NB269_266, Q_NB266_269, Q_NB270_266, Q_NB266_270, Q_NB268_267, Q_NB267_268, Q_NB269_267, Q_NB267_269, Q_NB270_267, Q_NB267_270, Q_NB269_268, Q_NB268_269, Q_NB270_268, Q_NB268_270, Q_NB270_269, Q_NB269_270, Q_HO249, Q_HO253, Q_HO257, fun h0_ => absurd ((hoff 8 (by kernel_rfl)).symm.trans h0_) (by decide), fun h0_ => absurd ((hoff 10 (by kernel_rfl)).symm.trans h0_) (by decide), Q_BK266, Q_GW266, Q_GE266, Q_NB244_266, Q_NB266_244, Q_BK267, Q_GW267, Q_GE267, Q_NB244_267, Q_NB267_244, Q_BK268, Q_GW268, Q_GE268, Q_NB244_268, Q_NB268_244, Q_BK269, Q_GW269, Q_GE269, Q_NB244_269, Q_NB269_244, Q_BK270, Q_GW270, Q_GE270, Q_NB244_270, Q_NB270_244, fun h0_ => absurd ((hoff 16 (by kernel_rfl)).symm.trans h0_) (by decide), fun h0_ => absurd ((hoff 17 (by kernel_rfl)).symm.trans h0_) (by decide), fun h0_ => absurd ((hoff 18 (by kernel_rfl)).symm.trans h0_) (by decide), fun h0_ => absurd ((hoff 19 (by kernel_rfl)).symm.trans h0_) (by decide), fun h0_ => absurd ((hoff 20 (by kernel_rfl)).symm.trans h0_) (by decide), Q_X1_, Q_X3_, Q_X5_, fun h0_ => absurd ((hoff 8 (by kernel_rfl)).symm.trans h0_) (by decide), fun h0_ => absurd ((hoff 10 (by kernel_rfl)).symm.trans h0_) (by decide), Q_X11_, Q_X12_, Q_X13_, Q_X14_, Q_X15_⟩
        refine steps_cons ?_ ?_
        ·
         rintro b a w' ⟨v248, v252, v256, v260, v264, gb266, gb267, gb268, gb269, gb270, m1_, m3_, m5_, m8_, m10_, m11_, m12_, m13_, m14_, m15_, hI_⟩ hb_ hon hoff
         have ha := hI_.ha; have Q_BK244 := hI_.Q_BK244; have Q_HB := hI_.Q_HB; have Q_NB267_266 := hI_.Q_NB267_266; have Q_NB266_267 := hI_.Q_NB266_267; have Q_NB268_266 := hI_.Q_NB268_266; have Q_NB266_268 := hI_.Q_NB266_268; have Q_NB269_266 := hI_.Q_NB269_266; have Q_NB266_269 := hI_.Q_NB266_269; have Q_NB270_266 := hI_.Q_NB270_266; have Q_NB266_270 := hI_.Q_NB266_270; have Q_NB268_267 := hI_.Q_NB268_267; have Q_NB267_268 := hI_.Q_NB267_268; have Q_NB269_267 := hI_.Q_NB269_267; have Q_NB267_269 := hI_.Q_NB267_269; have Q_NB270_267 := hI_.Q_NB270_267; have Q_NB267_270 := hI_.Q_NB267_270; have Q_NB269_268 := hI_.Q_NB269_268; have Q_NB268_269 := hI_.Q_NB268_269; have Q_NB270_268 := hI_.Q_NB270_268; have Q_NB268_270 := hI_.Q_NB268_270; have Q_NB270_269 := hI_.Q_NB270_269; have Q_NB269_270 := hI_.Q_NB269_270; have Q_HO249 := hI_.Q_HO249; have Q_HO253 := hI_.Q_HO253; have Q_HO257 := hI_.Q_HO257; have Q_HO261 := hI_.Q_HO261; have Q_HO265 := hI_.Q_HO265; have Q_BK266 := hI_.Q_BK266; have Q_GW266 := hI_.Q_GW266; have Q_GE266 := hI_.Q_GE266; have Q_NB244_266 := hI_.Q_NB244_266; have Q_NB266_244 := hI_.Q_NB266_244; have Q_BK267 := hI_.Q_BK267; have Q_GW267 := hI_.Q_GW267; have Q_GE267 := hI_.Q_GE267; have Q_NB244_267 := hI_.Q_NB244_267; have Q_NB267_244 := hI_.Q_NB267_244; have Q_BK268 := hI_.Q_BK268; have Q_GW268 := hI_.Q_GW268; have Q_GE268 := hI_.Q_GE268; have Q_NB244_268 := hI_.Q_NB244_268; have Q_NB268_244 := hI_.Q_NB268_244; have Q_BK269 := hI_.Q_BK269; have Q_GW269 := hI_.Q_GW269; have Q_GE269 := hI_.Q_GE269; have Q_NB244_269 := hI_.Q_NB244_269; have Q_NB269_244 := hI_.Q_NB269_244; have Q_BK270 := hI_.Q_BK270; have Q_GW270 := hI_.Q_GW270; have Q_GE270 := hI_.Q_GE270; have Q_NB244_270 := hI_.Q_NB244_270; have Q_NB270_244 := hI_.Q_NB270_244; have Q_BK266_e16 := hI_.Q_BK266_e16; have Q_BK267_e17 := hI_.Q_BK267_e17; have Q_BK268_e18 := hI_.Q_BK268_e18; have Q_BK269_e19 := hI_.Q_BK269_e19; have Q_BK270_e20 := hI_.Q_BK270_e20; have Q_X1_ := hI_.Q_X1_; have Q_X3_ := hI_.Q_X3_; have Q_X5_ := hI_.Q_X5_; have Q_X8_ := hI_.Q_X8_; have Q_X10_ := hI_.Q_X10_; have Q_X11_ := hI_.Q_X11_; have Q_X12_ := hI_.Q_X12_; have Q_X13_ := hI_.Q_X13_; have Q_X14_ := hI_.Q_X14_; have Q_X15_ := hI_.Q_X15_
         clear hI_
         refine ⟨_, rfl, fun K hK => ?_⟩
         have e18 : a.tmps[18]? = some (.agg #[.string a0_0, .slice A0_1 l0_1.length c0_1]) := by rw [ha]; exact putSel_on (e := (6, 18, .agg #[.string a0_0, .slice A0_1 l0_1.length c0_1])) 6 rfl rfl (hon 6 (by kernel_rfl)) rfl
         have e19 : a.tmps[19]? = some (.string a1) := by rw [ha]; exact (putSel_off rfl).trans rfl
         replace ha := Aside0.mk ha
         have BK244 := Aside0.mk Q_BK244
         have HB := Aside0.mk Q_HB
         have HO249 := Aside0.mk (Q_HO249 (hon 1 (by kernel_rfl)))
         have HO253 := Aside0.mk (Q_HO253 (hon 3 (by kernel_rfl)))
         have HO257 := Aside0.mk (Q_HO257 (hon 5 (by kernel_rfl)))
         refine goes_ Try.func58 (by kernel_rfl) rfl #[.agg #[.string a0_0, .slice A0_1 l0_1.length c0_1], .string a1] (by rfl) rfl rfl (by first | (simp only [List.map_toArray, List.map_cons, List.map_nil, Act.eval, Array.getD_eq_getD_getElem?, Option.getD_some, e18, e19]; done) | (simp only [List.map_toArray, List.map_cons, List.map_nil, Act.eval, Array.getD_eq_getD_getElem?, Option.getD_some, e18, e19]; rfl)) ?_
         with_reducible refine (fold_Without.calls k a0_0 _ _ l0_1 a1 t258 t259 _ ?side1 ?side2 A8.out).mono ?_
         (case side1 => repeat (first | exact (Kd.C_below HR0_1.out HB.out) | (with_reducible refine Kd.C_alloc ?_ _) | (with_reducible refine Kd.C_drewN ?_ _) | (with_reducible refine Kd.C_drew ?_)))
         (case side2 => exact HC0_1.out)
         rintro e w33 ⟨v260, rfl, ho0, hb⟩
         refine ⟨_, rfl, ?_⟩
         have n0_ := Aside0.mk (Kd.R_elder' (by (with_reducible repeat (first | apply Kd.R_alloc | apply Kd.R_drewN | apply Kd.R_drew)); exact HO249.out) (Kd.R_base ho0) hb)
         have n1_ := Aside0.mk (Kd.R_elder' (by (with_reducible repeat (first | apply Kd.R_alloc | apply Kd.R_drewN | apply Kd.R_drew)); exact HO253.out) (Kd.R_base ho0) hb)
         have n2_ := Aside0.mk (Kd.R_elder' (by (with_reducible repeat (first | apply Kd.R_alloc | apply Kd.R_drewN | apply Kd.R_drew)); exact HO257.out) (Kd.R_base ho0) hb)
         have n3_ := Aside0.mk (Kd.R_lower (Kd.R_new' (Kd.R_new' (Kd.R_new' ho0 (Kd.R_lt (by (with_reducible repeat (first | apply Kd.R_alloc | apply Kd.R_drewN | apply Kd.R_drew)); exact HO249.out))) (Kd.R_lt (by (with_reducible repeat (first | apply Kd.R_alloc | apply Kd.R_drewN | apply Kd.R_drew)); exact HO253.out))) (Kd.R_lt (by (with_reducible repeat (first | apply Kd.R_alloc | apply Kd.R_drewN | apply Kd.R_drew)); exact HO257.out))) (below_size (by repeat (first | (with_reducible first | exact HB.out | apply below_alloc | apply pw_below_drewN | apply below_drew1 | refine below_set ?_ GE244.out) | exact HB.out))))
         have n4_ := Aside0.mk (blk_below (g := gb244) (o := .cells #[.string a0_0, .slice A0_1 l0_1.length c0_1] 24 (0, 0)) (by (with_reducible repeat (first | refine blk_drewN ?_ _ | refine blk_drew ?_ | refine blk_alloc ?_ _)); exact BK244.out) hb)
         have n5_ := Aside0.mk (below_step (by repeat (first | (with_reducible first | exact HB.out | apply below_alloc | apply pw_below_drewN | apply below_drew1 | refine below_set ?_ GE244.out) | exact HB.out)) hb)
         have z_BK266 := fun (h0_ : b 11 = true) (h1_ : b 16 = false) => (show w33.heap[gb266]? = some (.cells #[.string (⟨#[]⟩ : ByteArray), .slice none 0 0] 24 (0, 0)) from by first | exact (blk_below (g := gb266) (o := .cells #[.string (⟨#[]⟩ : ByteArray), .slice none 0 0] 24 (0, 0)) (by (with_reducible repeat (first | refine blk_drewN ?_ _ | refine blk_drew ?_ | refine blk_alloc ?_ _)); exact (Q_BK266 h0_ h1_)) hb))
         have z_BK267 := fun (h0_ : b 12 = true) (h1_ : b 17 = false) => (show w33.heap[gb267]? = some (.cells #[.string (⟨#[]⟩ : ByteArray), .slice none 0 0] 24 (0, 0)) from by first | exact (blk_below (g := gb267) (o := .cells #[.string (⟨#[]⟩ : ByteArray), .slice none 0 0] 24 (0, 0)) (by (with_reducible repeat (first | refine blk_drewN ?_ _ | refine blk_drew ?_ | refine blk_alloc ?_ _)); exact (Q_BK267 h0_ h1_)) hb))
         have z_BK268 := fun (h0_ : b 13 = true) (h1_ : b 18 = false) => (show w33.heap[gb268]? = some (.cells #[.string (⟨#[]⟩ : ByteArray), .slice none 0 0] 24 (0, 0)) from by first | exact (blk_below (g := gb268) (o := .cells #[.string (⟨#[]⟩ : ByteArray), .slice none 0 0] 24 (0, 0)) (by (with_reducible repeat (first | refine blk_drewN ?_ _ | refine blk_drew ?_ | refine blk_alloc ?_ _)); exact (Q_BK268 h0_ h1_)) hb))
         have z_BK269 := fun (h0_ : b 14 = true) (h1_ : b 19 = false) => (show w33.heap[gb269]? = some (.cells #[.string (⟨#[]⟩ : ByteArray), .slice none 0 0] 24 (0, 0)) from by first | exact (blk_below (g := gb269) (o := .cells #[.string (⟨#[]⟩ : ByteArray), .slice none 0 0] 24 (0, 0)) (by (with_reducible repeat (first | refine blk_drewN ?_ _ | refine blk_drew ?_ | refine blk_alloc ?_ _)); exact (Q_BK269 h0_ h1_)) hb))
         have z_BK270 := fun (h0_ : b 15 = true) (h1_ : b 20 = false) => (show w33.heap[gb270]? = some (.cells #[.string (⟨#[]⟩ : ByteArray), .slice none 0 0] 24 (0, 0)) from by first | exact (blk_below (g := gb270) (o := .cells #[.string (⟨#[]⟩ : ByteArray), .slice none 0 0] 24 (0, 0)) (by (with_reducible repeat (first | refine blk_drewN ?_ _ | refine blk_drew ?_ | refine blk_alloc ?_ _)); exact (Q_BK270 h0_ h1_)) hb))
         clear HO249
         clear HO253
         clear HO257
         clear BK244
         clear HB
         have HO249 := n0_
         have HO253 := n1_
         have HO257 := n2_
         have HO261 := n3_
         have BK244 := n4_
         have HB := n5_
         clear n0_ n1_ n2_ n3_ n4_ n5_
         (try clear hb)
         (try clear hb2)
         (try clear hk)
         (try clear hi)
         (try clear ho0)
         refine hK.out _ _ ⟨v248, v252, v256, v260, v264, gb266, gb267, gb268, gb269, gb270, m1_, m3_, m5_, (.agg #[.string t258, v260]), m10_, m11_, m12_, m13_, m14_, m15_, (by rw [ha.out]; exact putSel_upk 7 hb_ rfl rfl rfl), (by (with_reducible repeat (first | refine blk_drewN ?_ _ | refine blk_drew ?_ | refine blk_alloc ?_ _)); exact BK244.out), (by repeat (first | (with_reducible first | exact HB.out | apply below_alloc | apply pw_below_drewN | apply below_drew1 | refine below_set ?_ GE244.out) | exact HB.out)), Q_NB267_266, Q_NB266_267, Q_NB268_266, Q_NB266_268, Q_NB269_266, Q_NB266_269, Q_NB270_266, Q_NB266_270, Q_NB268_267, Q_NB267_268, Q_NB269_267, Q_NB267_269, Q_NB270_267, Q_NB267_270, Q_NB269_268, Q_NB268_269, Q_NB270_268, Q_NB268_270, Q_NB270_269, Q_NB269_270, fun _ => (by (with_reducible repeat (first | apply Kd.R_alloc | apply Kd.R_drewN | apply Kd.R_drew)); exact Kd.R_mono HO249.out (fun _ _ => trivial)), fun _ => (by (with_reducible repeat (first | apply Kd.R_alloc | apply Kd.R_drewN | apply Kd.R_drew)); exact Kd.R_mono HO253.out (fun _ _ => trivial)), fun _ => (by (with_reducible repeat (first | apply Kd.R_alloc | apply Kd.R_drewN | apply Kd.R_drew)); exact Kd.R_mono HO257.out (fun _ _ => trivial)), fun _ => (by (with_reducible repeat (first | apply Kd.R_alloc | apply Kd.R_drewN | apply Kd.R_drew)); exact Kd.R_mono HO261.out (fun _ _ => trivial)), fun h0_ => absurd ((hoff 10 (by kernel_rfl)).symm.trans h0_) (by decide), z_BK266, Q_GW266, Q_GE266, Q_NB244_266, Q_NB266_244, z_BK267, Q_GW267, Q_GE267, Q_NB244_267, Q_NB267_244, z_BK268, Q_GW268, Q_GE268, Q_NB244_268, Q_NB268_244, z_BK269, Q_GW269, Q_GE269, Q_NB244_269, Q_NB269_244, z_BK270, Q_GW270, Q_GE270, Q_NB244_270, Q_NB270_244, fun h0_ => absurd ((hoff 16 (by kernel_rfl)).symm.trans h0_) (by decide), fun h0_ => absurd ((hoff 17 (by kernel_rfl)).symm.trans h0_) (by decide), fun h0_ => absurd ((hoff 18 (by kernel_rfl)).symm.trans h0_) (by decide), fun h0_ => absurd ((hoff 19 (by kernel_rfl)).symm.trans h0_) (by decide), fun h0_ => absurd ((hoff 20 (by kernel_rfl)).symm.trans h0_) (by decide), Q_X1_, Q_X3_, Q_X5_, fun _ => rfl, fun h0_ => absurd ((hoff 10 (by kernel_rfl)).symm.trans h0_) (by decide), Q_X11_, Q_X12_, Q_X13_, Q_X14_, Q_X15_⟩
        refine steps_cons ?_ ?_
        ·
         rintro b a w' ⟨v248, v252, v256, v260, v264, gb266, gb267, gb268, gb269, gb270, m1_, m3_, m5_, m8_, m10_, m11_, m12_, m13_, m14_, m15_, hI_⟩ hb_ hon hoff
         have ha := hI_.ha; have Q_BK244 := hI_.Q_BK244; have Q_HB := hI_.Q_HB; have Q_NB267_266 := hI_.Q_NB267_266; have Q_NB266_267 := hI_.Q_NB266_267; have Q_NB268_266 := hI_.Q_NB268_266; have Q_NB266_268 := hI_.Q_NB266_268; have Q_NB269_266 := hI_.Q_NB269_266; have Q_NB266_269 := hI_.Q_NB266_269; have Q_NB270_266 := hI_.Q_NB270_266; have Q_NB266_270 := hI_.Q_NB266_270; have Q_NB268_267 := hI_.Q_NB268_267; have Q_NB267_268 := hI_.Q_NB267_268; have Q_NB269_267 := hI_.Q_NB269_267; have Q_NB267_269 := hI_.Q_NB267_269; have Q_NB270_267 := hI_.Q_NB270_267; have Q_NB267_270 := hI_.Q_NB267_270; have Q_NB269_268 := hI_.Q_NB269_268; have Q_NB268_269 := hI_.Q_NB268_269; have Q_NB270_268 := hI_.Q_NB270_268; have Q_NB268_270 := hI_.Q_NB268_270; have Q_NB270_269 := hI_.Q_NB270_269; have Q_NB269_270 := hI_.Q_NB269_270; have Q_HO249 := hI_.Q_HO249; have Q_HO253 := hI_.Q_HO253; have Q_HO257 := hI_.Q_HO257; have Q_HO261 := hI_.Q_HO261; have Q_HO265 := hI_.Q_HO265; have Q_BK266 := hI_.Q_BK266; have Q_GW266 := hI_.Q_GW266; have Q_GE266 := hI_.Q_GE266; have Q_NB244_266 := hI_.Q_NB244_266; have Q_NB266_244 := hI_.Q_NB266_244; have Q_BK267 := hI_.Q_BK267; have Q_GW267 := hI_.Q_GW267; have Q_GE267 := hI_.Q_GE267; have Q_NB244_267 := hI_.Q_NB244_267; have Q_NB267_244 := hI_.Q_NB267_244; have Q_BK268 := hI_.Q_BK268; have Q_GW268 := hI_.Q_GW268; have Q_GE268 := hI_.Q_GE268; have Q_NB244_268 := hI_.Q_NB244_268; have Q_NB268_244 := hI_.Q_NB268_244; have Q_BK269 := hI_.Q_BK269; have Q_GW269 := hI_.Q_GW269; have Q_GE269 := hI_.Q_GE269; have Q_NB244_269 := hI_.Q_NB244_269; have Q_NB269_244 := hI_.Q_NB269_244; have Q_BK270 := hI_.Q_BK270; have Q_GW270 := hI_.Q_GW270; have Q_GE270 := hI_.Q_GE270; have Q_NB244_270 := hI_.Q_NB244_270; have Q_NB270_244 := hI_.Q_NB270_244; have Q_BK266_e16 := hI_.Q_BK266_e16; have Q_BK267_e17 := hI_.Q_BK267_e17; have Q_BK268_e18 := hI_.Q_BK268_e18; have Q_BK269_e19 := hI_.Q_BK269_e19; have Q_BK270_e20 := hI_.Q_BK270_e20; have Q_X1_ := hI_.Q_X1_; have Q_X3_ := hI_.Q_X3_; have Q_X5_ := hI_.Q_X5_; have Q_X8_ := hI_.Q_X8_; have Q_X10_ := hI_.Q_X10_; have Q_X11_ := hI_.Q_X11_; have Q_X12_ := hI_.Q_X12_; have Q_X13_ := hI_.Q_X13_; have Q_X14_ := hI_.Q_X14_; have Q_X15_ := hI_.Q_X15_
         clear hI_
         refine ⟨_, rfl, fun K hK => ?_⟩
         have e2 : a.tmps[2]? = some (.pointer (some ⟨gb244, 0, none⟩)) := by rw [ha]; exact (putSel_off rfl).trans rfl
         replace ha := Aside0.mk ha
         have BK244 := Aside0.mk Q_BK244
         have HB := Aside0.mk Q_HB
         have hc0_ : w'.cell? ⟨gb244, 0, none⟩ = some (.string a0_0) := (blk_cell BK244.out 0).trans rfl
         have hc1_ : w'.cell? ⟨gb244, 1, none⟩ = some (.slice A0_1 l0_1.length c0_1) := (blk_cell BK244.out 1).trans rfl
         refine value_ (w1 := w') (v := .agg #[.string a0_0, .slice A0_1 l0_1.length c0_1]) (by rfl) rfl ?_ ?_
         ·
          go_simp
          (try simp only [i64_w])
          try rfl
         refine hK.out _ _ ⟨v248, v252, v256, v260, v264, gb266, gb267, gb268, gb269, gb270, m1_, m3_, m5_, m8_, m10_, m11_, m12_, m13_, m14_, m15_, (by rw [ha.out]; exact putSel_upk 8 hb_ rfl rfl rfl), Q_BK244, Q_HB, Q_NB267_266, Q_NB266_267, Q_NB268_266, Q_NB266_268, Q_NB269_266, Q_NB266_269, Q_NB270_266, Q_NB266_270, Q_NB268_267, Q_NB267_268, Q_NB269_267, Q_NB267_269, Q_NB270_267, Q_NB267_270, Q_NB269_268, Q_NB268_269, Q_NB270_268, Q_NB268_270, Q_NB270_269, Q_NB269_270, Q_HO249, Q_HO253, Q_HO257, Q_HO261, fun h0_ => absurd ((hoff 10 (by kernel_rfl)).symm.trans h0_) (by decide), Q_BK266, Q_GW266, Q_GE266, Q_NB244_266, Q_NB266_244, Q_BK267, Q_GW267, Q_GE267, Q_NB244_267, Q_NB267_244, Q_BK268, Q_GW268, Q_GE268, Q_NB244_268, Q_NB268_244, Q_BK269, Q_GW269, Q_GE269, Q_NB244_269, Q_NB269_244, Q_BK270, Q_GW270, Q_GE270, Q_NB244_270, Q_NB270_244, fun h0_ => absurd ((hoff 16 (by kernel_rfl)).symm.trans h0_) (by decide), fun h0_ => absurd ((hoff 17 (by kernel_rfl)).symm.trans h0_) (by decide), fun h0_ => absurd ((hoff 18 (by kernel_rfl)).symm.trans h0_) (by decide), fun h0_ => absurd ((hoff 19 (by kernel_rfl)).symm.trans h0_) (by decide), fun h0_ => absurd ((hoff 20 (by kernel_rfl)).symm.trans h0_) (by decide), Q_X1_, Q_X3_, Q_X5_, Q_X8_, fun h0_ => absurd ((hoff 10 (by kernel_rfl)).symm.trans h0_) (by decide), Q_X11_, Q_X12_, Q_X13_, Q_X14_, Q_X15_⟩
        refine steps_cons ?_ ?_
        ·
         rintro b a w' ⟨v248, v252, v256, v260, v264, gb266, gb267, gb268, gb269, gb270, m1_, m3_, m5_, m8_, m10_, m11_, m12_, m13_, m14_, m15_, hI_⟩ hb_ hon hoff
         have ha := hI_.ha; have Q_BK244 := hI_.Q_BK244; have Q_HB := hI_.Q_HB; have Q_NB267_266 := hI_.Q_NB267_266; have Q_NB266_267 := hI_.Q_NB266_267; have Q_NB268_266 := hI_.Q_NB268_266; have Q_NB266_268 := hI_.Q_NB266_268; have Q_NB269_266 := hI_.Q_NB269_266; have Q_NB266_269 := hI_.Q_NB266_269; have Q_NB270_266 := hI_.Q_NB270_266; have Q_NB266_270 := hI_.Q_NB266_270; have Q_NB268_267 := hI_.Q_NB268_267; have Q_NB267_268 := hI_.Q_NB267_268; have Q_NB269_267 := hI_.Q_NB269_267; have Q_NB267_269 := hI_.Q_NB267_269; have Q_NB270_267 := hI_.Q_NB270_267; have Q_NB267_270 := hI_.Q_NB267_270; have Q_NB269_268 := hI_.Q_NB269_268; have Q_NB268_269 := hI_.Q_NB268_269; have Q_NB270_268 := hI_.Q_NB270_268; have Q_NB268_270 := hI_.Q_NB268_270; have Q_NB270_269 := hI_.Q_NB270_269; have Q_NB269_270 := hI_.Q_NB269_270; have Q_HO249 := hI_.Q_HO249; have Q_HO253 := hI_.Q_HO253; have Q_HO257 := hI_.Q_HO257; have Q_HO261 := hI_.Q_HO261; have Q_HO265 := hI_.Q_HO265; have Q_BK266 := hI_.Q_BK266; have Q_GW266 := hI_.Q_GW266; have Q_GE266 := hI_.Q_GE266; have Q_NB244_266 := hI_.Q_NB244_266; have Q_NB266_244 := hI_.Q_NB266_244; have Q_BK267 := hI_.Q_BK267; have Q_GW267 := hI_.Q_GW267; have Q_GE267 := hI_.Q_GE267; have Q_NB244_267 := hI_.Q_NB244_267; have Q_NB267_244 := hI_.Q_NB267_244; have Q_BK268 := hI_.Q_BK268; have Q_GW268 := hI_.Q_GW268; have Q_GE268 := hI_.Q_GE268; have Q_NB244_268 := hI_.Q_NB244_268; have Q_NB268_244 := hI_.Q_NB268_244; have Q_BK269 := hI_.Q_BK269; have Q_GW269 := hI_.Q_GW269; have Q_GE269 := hI_.Q_GE269; have Q_NB244_269 := hI_.Q_NB244_269; have Q_NB269_244 := hI_.Q_NB269_244; have Q_BK270 := hI_.Q_BK270; have Q_GW270 := hI_.Q_GW270; have Q_GE270 := hI_.Q_GE270; have Q_NB244_270 := hI_.Q_NB244_270; have Q_NB270_244 := hI_.Q_NB270_244; have Q_BK266_e16 := hI_.Q_BK266_e16; have Q_BK267_e17 := hI_.Q_BK267_e17; have Q_BK268_e18 := hI_.Q_BK268_e18; have Q_BK269_e19 := hI_.Q_BK269_e19; have Q_BK270_e20 := hI_.Q_BK270_e20; have Q_X1_ := hI_.Q_X1_; have Q_X3_ := hI_.Q_X3_; have Q_X5_ := hI_.Q_X5_; have Q_X8_ := hI_.Q_X8_; have Q_X10_ := hI_.Q_X10_; have Q_X11_ := hI_.Q_X11_; have Q_X12_ := hI_.Q_X12_; have Q_X13_ := hI_.Q_X13_; have Q_X14_ := hI_.Q_X14_; have Q_X15_ := hI_.Q_X15_
         clear hI_
         refine ⟨_, rfl, fun K hK => ?_⟩
         have e21 : a.tmps[21]? = some (.agg #[.string a0_0, .slice A0_1 l0_1.length c0_1]) := by rw [ha]; exact putSel_on (e := (9, 21, .agg #[.string a0_0, .slice A0_1 l0_1.length c0_1])) 8 rfl rfl (hon 9 (by kernel_rfl)) rfl
         replace ha := Aside0.mk ha
         have BK244 := Aside0.mk Q_BK244
         have HB := Aside0.mk Q_HB
         have HO249 := Aside0.mk (Q_HO249 (hon 1 (by kernel_rfl)))
         have HO253 := Aside0.mk (Q_HO253 (hon 3 (by kernel_rfl)))
         have HO257 := Aside0.mk (Q_HO257 (hon 5 (by kernel_rfl)))
         have HO261 := Aside0.mk (Q_HO261 (hon 8 (by kernel_rfl)))
         refine goes_ Try.func25 (by kernel_rfl) rfl #[.agg #[.string a0_0, .slice A0_1 l0_1.length c0_1]] (by rfl) rfl rfl (by first | (simp only [List.map_toArray, List.map_cons, List.map_nil, Act.eval, Array.getD_eq_getD_getElem?, Option.getD_some, e21]; done) | (simp only [List.map_toArray, List.map_cons, List.map_nil, Act.eval, Array.getD_eq_getD_getElem?, Option.getD_some, e21]; rfl)) ?_
         with_reducible refine (fold_Lines.calls k a0_0 _ _ l0_1 t262 t263 _ ?side1 ?side2 A9.out).mono ?_
         (case side1 => repeat (first | exact (Kd.C_below HR0_1.out HB.out) | (with_reducible refine Kd.C_alloc ?_ _) | (with_reducible refine Kd.C_drewN ?_ _) | (with_reducible refine Kd.C_drew ?_)))
         (case side2 => exact HC0_1.out)
         rintro e w34 ⟨v264, rfl, ho0, hb⟩
         refine ⟨_, rfl, ?_⟩
         have n0_ := Aside0.mk (Kd.R_elder' (by (with_reducible repeat (first | apply Kd.R_alloc | apply Kd.R_drewN | apply Kd.R_drew)); exact HO249.out) (Kd.R_base ho0) hb)
         have n1_ := Aside0.mk (Kd.R_elder' (by (with_reducible repeat (first | apply Kd.R_alloc | apply Kd.R_drewN | apply Kd.R_drew)); exact HO253.out) (Kd.R_base ho0) hb)
         have n2_ := Aside0.mk (Kd.R_elder' (by (with_reducible repeat (first | apply Kd.R_alloc | apply Kd.R_drewN | apply Kd.R_drew)); exact HO257.out) (Kd.R_base ho0) hb)
         have n3_ := Aside0.mk (Kd.R_elder' (by (with_reducible repeat (first | apply Kd.R_alloc | apply Kd.R_drewN | apply Kd.R_drew)); exact HO261.out) (Kd.R_base ho0) hb)
         have n4_ := Aside0.mk (Kd.R_lower (Kd.R_new' (Kd.R_new' (Kd.R_new' (Kd.R_new' ho0 (Kd.R_lt (by (with_reducible repeat (first | apply Kd.R_alloc | apply Kd.R_drewN | apply Kd.R_drew)); exact HO249.out))) (Kd.R_lt (by (with_reducible repeat (first | apply Kd.R_alloc | apply Kd.R_drewN | apply Kd.R_drew)); exact HO253.out))) (Kd.R_lt (by (with_reducible repeat (first | apply Kd.R_alloc | apply Kd.R_drewN | apply Kd.R_drew)); exact HO257.out))) (Kd.R_lt (by (with_reducible repeat (first | apply Kd.R_alloc | apply Kd.R_drewN | apply Kd.R_drew)); exact HO261.out))) (below_size (by repeat (first | (with_reducible first | exact HB.out | apply below_alloc | apply pw_below_drewN | apply below_drew1 | refine below_set ?_ GE244.out) | exact HB.out))))
         have n5_ := Aside0.mk (blk_below (g := gb244) (o := .cells #[.string a0_0, .slice A0_1 l0_1.length c0_1] 24 (0, 0)) (by (with_reducible repeat (first | refine blk_drewN ?_ _ | refine blk_drew ?_ | refine blk_alloc ?_ _)); exact BK244.out) hb)
         have n6_ := Aside0.mk (below_step (by repeat (first | (with_reducible first | exact HB.out | apply below_alloc | apply pw_below_drewN | apply below_drew1 | refine below_set ?_ GE244.out) | exact HB.out)) hb)
         have z_BK266 := fun (h0_ : b 11 = true) (h1_ : b 16 = false) => (show w34.heap[gb266]? = some (.cells #[.string (⟨#[]⟩ : ByteArray), .slice none 0 0] 24 (0, 0)) from by first | exact (blk_below (g := gb266) (o := .cells #[.string (⟨#[]⟩ : ByteArray), .slice none 0 0] 24 (0, 0)) (by (with_reducible repeat (first | refine blk_drewN ?_ _ | refine blk_drew ?_ | refine blk_alloc ?_ _)); exact (Q_BK266 h0_ h1_)) hb))
         have z_BK267 := fun (h0_ : b 12 = true) (h1_ : b 17 = false) => (show w34.heap[gb267]? = some (.cells #[.string (⟨#[]⟩ : ByteArray), .slice none 0 0] 24 (0, 0)) from by first | exact (blk_below (g := gb267) (o := .cells #[.string (⟨#[]⟩ : ByteArray), .slice none 0 0] 24 (0, 0)) (by (with_reducible repeat (first | refine blk_drewN ?_ _ | refine blk_drew ?_ | refine blk_alloc ?_ _)); exact (Q_BK267 h0_ h1_)) hb))
         have z_BK268 := fun (h0_ : b 13 = true) (h1_ : b 18 = false) => (show w34.heap[gb268]? = some (.cells #[.string (⟨#[]⟩ : ByteArray), .slice none 0 0] 24 (0, 0)) from by first | exact (blk_below (g := gb268) (o := .cells #[.string (⟨#[]⟩ : ByteArray), .slice none 0 0] 24 (0, 0)) (by (with_reducible repeat (first | refine blk_drewN ?_ _ | refine blk_drew ?_ | refine blk_alloc ?_ _)); exact (Q_BK268 h0_ h1_)) hb))
         have z_BK269 := fun (h0_ : b 14 = true) (h1_ : b 19 = false) => (show w34.heap[gb269]? = some (.cells #[.string (⟨#[]⟩ : ByteArray), .slice none 0 0] 24 (0, 0)) from by first | exact (blk_below (g := gb269) (o := .cells #[.string (⟨#[]⟩ : ByteArray), .slice none 0 0] 24 (0, 0)) (by (with_reducible repeat (first | refine blk_drewN ?_ _ | refine blk_drew ?_ | refine blk_alloc ?_ _)); exact (Q_BK269 h0_ h1_)) hb))
         have z_BK270 := fun (h0_ : b 15 = true) (h1_ : b 20 = false) => (show w34.heap[gb270]? = some (.cells #[.string (⟨#[]⟩ : ByteArray), .slice none 0 0] 24 (0, 0)) from by first | exact (blk_below (g := gb270) (o := .cells #[.string (⟨#[]⟩ : ByteArray), .slice none 0 0] 24 (0, 0)) (by (with_reducible repeat (first | refine blk_drewN ?_ _ | refine blk_drew ?_ | refine blk_alloc ?_ _)); exact (Q_BK270 h0_ h1_)) hb))
         clear HO249
         clear HO253
         clear HO257
         clear HO261
         clear BK244
         clear HB
         have HO249 := n0_
         have HO253 := n1_
         have HO257 := n2_
         have HO261 := n3_
         have HO265 := n4_
         have BK244 := n5_
         have HB := n6_
         clear n0_ n1_ n2_ n3_ n4_ n5_ n6_
         (try clear hb)
         (try clear hb2)
         (try clear hk)
         (try clear hi)
         (try clear ho0)
         refine hK.out _ _ ⟨v248, v252, v256, v260, v264, gb266, gb267, gb268, gb269, gb270, m1_, m3_, m5_, m8_, (.agg #[.string t262, v264]), m11_, m12_, m13_, m14_, m15_, (by rw [ha.out]; exact putSel_upk 9 hb_ rfl rfl rfl), (by (with_reducible repeat (first | refine blk_drewN ?_ _ | refine blk_drew ?_ | refine blk_alloc ?_ _)); exact BK244.out), (by repeat (first | (with_reducible first | exact HB.out | apply below_alloc | apply pw_below_drewN | apply below_drew1 | refine below_set ?_ GE244.out) | exact HB.out)), Q_NB267_266, Q_NB266_267, Q_NB268_266, Q_NB266_268, Q_NB269_266, Q_NB266_269, Q_NB270_266, Q_NB266_270, Q_NB268_267, Q_NB267_268, Q_NB269_267, Q_NB267_269, Q_NB270_267, Q_NB267_270, Q_NB269_268, Q_NB268_269, Q_NB270_268, Q_NB268_270, Q_NB270_269, Q_NB269_270, fun _ => (by (with_reducible repeat (first | apply Kd.R_alloc | apply Kd.R_drewN | apply Kd.R_drew)); exact Kd.R_mono HO249.out (fun _ _ => trivial)), fun _ => (by (with_reducible repeat (first | apply Kd.R_alloc | apply Kd.R_drewN | apply Kd.R_drew)); exact Kd.R_mono HO253.out (fun _ _ => trivial)), fun _ => (by (with_reducible repeat (first | apply Kd.R_alloc | apply Kd.R_drewN | apply Kd.R_drew)); exact Kd.R_mono HO257.out (fun _ _ => trivial)), fun _ => (by (with_reducible repeat (first | apply Kd.R_alloc | apply Kd.R_drewN | apply Kd.R_drew)); exact Kd.R_mono HO261.out (fun _ _ => trivial)), fun _ => (by (with_reducible repeat (first | apply Kd.R_alloc | apply Kd.R_drewN | apply Kd.R_drew)); exact Kd.R_mono HO265.out (fun _ _ => trivial)), z_BK266, Q_GW266, Q_GE266, Q_NB244_266, Q_NB266_244, z_BK267, Q_GW267, Q_GE267, Q_NB244_267, Q_NB267_244, z_BK268, Q_GW268, Q_GE268, Q_NB244_268, Q_NB268_244, z_BK269, Q_GW269, Q_GE269, Q_NB244_269, Q_NB269_244, z_BK270, Q_GW270, Q_GE270, Q_NB244_270, Q_NB270_244, fun h0_ => absurd ((hoff 16 (by kernel_rfl)).symm.trans h0_) (by decide), fun h0_ => absurd ((hoff 17 (by kernel_rfl)).symm.trans h0_) (by decide), fun h0_ => absurd ((hoff 18 (by kernel_rfl)).symm.trans h0_) (by decide), fun h0_ => absurd ((hoff 19 (by kernel_rfl)).symm.trans h0_) (by decide), fun h0_ => absurd ((hoff 20 (by kernel_rfl)).symm.trans h0_) (by decide), Q_X1_, Q_X3_, Q_X5_, Q_X8_, fun _ => rfl, Q_X11_, Q_X12_, Q_X13_, Q_X14_, Q_X15_⟩
        refine steps_cons ?_ ?_
        ·
         rintro b a w' ⟨v248, v252, v256, v260, v264, gb266, gb267, gb268, gb269, gb270, m1_, m3_, m5_, m8_, m10_, m11_, m12_, m13_, m14_, m15_, hI_⟩ hb_ hon hoff
         have ha := hI_.ha; have Q_BK244 := hI_.Q_BK244; have Q_HB := hI_.Q_HB; have Q_NB267_266 := hI_.Q_NB267_266; have Q_NB266_267 := hI_.Q_NB266_267; have Q_NB268_266 := hI_.Q_NB268_266; have Q_NB266_268 := hI_.Q_NB266_268; have Q_NB269_266 := hI_.Q_NB269_266; have Q_NB266_269 := hI_.Q_NB266_269; have Q_NB270_266 := hI_.Q_NB270_266; have Q_NB266_270 := hI_.Q_NB266_270; have Q_NB268_267 := hI_.Q_NB268_267; have Q_NB267_268 := hI_.Q_NB267_268; have Q_NB269_267 := hI_.Q_NB269_267; have Q_NB267_269 := hI_.Q_NB267_269; have Q_NB270_267 := hI_.Q_NB270_267; have Q_NB267_270 := hI_.Q_NB267_270; have Q_NB269_268 := hI_.Q_NB269_268; have Q_NB268_269 := hI_.Q_NB268_269; have Q_NB270_268 := hI_.Q_NB270_268; have Q_NB268_270 := hI_.Q_NB268_270; have Q_NB270_269 := hI_.Q_NB270_269; have Q_NB269_270 := hI_.Q_NB269_270; have Q_HO249 := hI_.Q_HO249; have Q_HO253 := hI_.Q_HO253; have Q_HO257 := hI_.Q_HO257; have Q_HO261 := hI_.Q_HO261; have Q_HO265 := hI_.Q_HO265; have Q_BK266 := hI_.Q_BK266; have Q_GW266 := hI_.Q_GW266; have Q_GE266 := hI_.Q_GE266; have Q_NB244_266 := hI_.Q_NB244_266; have Q_NB266_244 := hI_.Q_NB266_244; have Q_BK267 := hI_.Q_BK267; have Q_GW267 := hI_.Q_GW267; have Q_GE267 := hI_.Q_GE267; have Q_NB244_267 := hI_.Q_NB244_267; have Q_NB267_244 := hI_.Q_NB267_244; have Q_BK268 := hI_.Q_BK268; have Q_GW268 := hI_.Q_GW268; have Q_GE268 := hI_.Q_GE268; have Q_NB244_268 := hI_.Q_NB244_268; have Q_NB268_244 := hI_.Q_NB268_244; have Q_BK269 := hI_.Q_BK269; have Q_GW269 := hI_.Q_GW269; have Q_GE269 := hI_.Q_GE269; have Q_NB244_269 := hI_.Q_NB244_269; have Q_NB269_244 := hI_.Q_NB269_244; have Q_BK270 := hI_.Q_BK270; have Q_GW270 := hI_.Q_GW270; have Q_GE270 := hI_.Q_GE270; have Q_NB244_270 := hI_.Q_NB244_270; have Q_NB270_244 := hI_.Q_NB270_244; have Q_BK266_e16 := hI_.Q_BK266_e16; have Q_BK267_e17 := hI_.Q_BK267_e17; have Q_BK268_e18 := hI_.Q_BK268_e18; have Q_BK269_e19 := hI_.Q_BK269_e19; have Q_BK270_e20 := hI_.Q_BK270_e20; have Q_X1_ := hI_.Q_X1_; have Q_X3_ := hI_.Q_X3_; have Q_X5_ := hI_.Q_X5_; have Q_X8_ := hI_.Q_X8_; have Q_X10_ := hI_.Q_X10_; have Q_X11_ := hI_.Q_X11_; have Q_X12_ := hI_.Q_X12_; have Q_X13_ := hI_.Q_X13_; have Q_X14_ := hI_.Q_X14_; have Q_X15_ := hI_.Q_X15_
         clear hI_
         refine ⟨_, rfl, fun K hK => ?_⟩
         replace ha := Aside0.mk ha
         have BK244 := Aside0.mk Q_BK244
         have HB := Aside0.mk Q_HB
         refine box_step ?hg (N := 5) ?hd (cs := #[.string (⟨#[]⟩ : ByteArray), .slice none 0 0]) (t := 24) ?hr ?_; (case hd => rfl); (case hg => rfl); (case hr => first | (go_simp; done) | (go_simp; rfl))
         intro gb266 hg w29 hbox hb
         have n0_ := Aside0.mk (blk_below (g := gb244) (o := .cells #[.string a0_0, .slice A0_1 l0_1.length c0_1] 24 (0, 0)) (by (with_reducible repeat (first | refine blk_drewN ?_ _ | refine blk_drew ?_ | refine blk_alloc ?_ _)); exact BK244.out) hb)
         have n1_ := Aside0.mk (below_step (by repeat (first | (with_reducible first | exact HB.out | apply below_alloc | apply pw_below_drewN | apply below_drew1 | refine below_set ?_ GE244.out) | exact HB.out)) hb)
         have n2_ := Aside0.mk (hbox)
         have n3_ := Aside0.mk ((by rw [hg]; exact (below_size (by repeat (first | (with_reducible first | exact HB.out | apply below_alloc | apply pw_below_drewN | apply below_drew1 | refine below_set ?_ GE244.out) | exact HB.out))) : w.heap.size ≤ gb266))
         have n4_ := Aside0.mk ((by rw [hg]; exact (below_size (by repeat (first | (with_reducible first | exact HB.out | apply below_alloc | apply pw_below_drewN | apply below_drew1 | refine below_set ?_ GE244.out) | exact HB.out))) : w.heap.size ≤ gb266))
         have n5_ := Aside0.mk ((by rw [hg]; exact Nat.ne_of_lt (blk_lt (g := gb244) (o := .cells #[.string a0_0, .slice A0_1 l0_1.length c0_1] 24 (0, 0)) (by (with_reducible repeat (first | refine blk_drewN ?_ _ | refine blk_drew ?_ | refine blk_alloc ?_ _)); exact BK244.out)) : gb244 ≠ gb266))
         have n6_ := Aside0.mk ((by rw [hg]; exact Nat.ne_of_gt (blk_lt (g := gb244) (o := .cells #[.string a0_0, .slice A0_1 l0_1.length c0_1] 24 (0, 0)) (by (with_reducible repeat (first | refine blk_drewN ?_ _ | refine blk_drew ?_ | refine blk_alloc ?_ _)); exact BK244.out)) : gb266 ≠ gb244))
         have z_NB267_266 := fun (h0_ : up b 11 11 = true) (h1_ : up b 11 12 = true) => (show gb267 ≠ gb266 from ((by rw [hg]; exact Nat.ne_of_lt (blk_lt (g := gb267) (o := .cells #[.string (⟨#[]⟩ : ByteArray), .slice none 0 0] 24 (0, 0)) (by (with_reducible repeat (first | refine blk_drewN ?_ _ | refine blk_drew ?_ | refine blk_alloc ?_ _)); exact (Q_BK267 ((up_ne (by decide)).symm.trans h1_) (hoff 17 (by kernel_rfl))))) : gb267 ≠ gb266)))
         have z_NB266_267 := fun (h0_ : up b 11 11 = true) (h1_ : up b 11 12 = true) => (show gb266 ≠ gb267 from ((by rw [hg]; exact Nat.ne_of_gt (blk_lt (g := gb267) (o := .cells #[.string (⟨#[]⟩ : ByteArray), .slice none 0 0] 24 (0, 0)) (by (with_reducible repeat (first | refine blk_drewN ?_ _ | refine blk_drew ?_ | refine blk_alloc ?_ _)); exact (Q_BK267 ((up_ne (by decide)).symm.trans h1_) (hoff 17 (by kernel_rfl))))) : gb266 ≠ gb267)))
         have z_NB268_266 := fun (h0_ : up b 11 11 = true) (h1_ : up b 11 13 = true) => (show gb268 ≠ gb266 from ((by rw [hg]; exact Nat.ne_of_lt (blk_lt (g := gb268) (o := .cells #[.string (⟨#[]⟩ : ByteArray), .slice none 0 0] 24 (0, 0)) (by (with_reducible repeat (first | refine blk_drewN ?_ _ | refine blk_drew ?_ | refine blk_alloc ?_ _)); exact (Q_BK268 ((up_ne (by decide)).symm.trans h1_) (hoff 18 (by kernel_rfl))))) : gb268 ≠ gb266)))
         have z_NB266_268 := fun (h0_ : up b 11 11 = true) (h1_ : up b 11 13 = true) => (show gb266 ≠ gb268 from ((by rw [hg]; exact Nat.ne_of_gt (blk_lt (g := gb268) (o := .cells #[.string (⟨#[]⟩ : ByteArray), .slice none 0 0] 24 (0, 0)) (by (with_reducible repeat (first | refine blk_drewN ?_ _ | refine blk_drew ?_ | refine blk_alloc ?_ _)); exact (Q_BK268 ((up_ne (by decide)).symm.trans h1_) (hoff 18 (by kernel_rfl))))) : gb266 ≠ gb268)))
         have z_NB269_266 := fun (h0_ : up b 11 11 = true) (h1_ : up b 11 14 = true) => (show gb269 ≠ gb266 from ((by rw [hg]; exact Nat.ne_of_lt (blk_lt (g := gb269) (o := .cells #[.string (⟨#[]⟩ : ByteArray), .slice none 0 0] 24 (0, 0)) (by (with_reducible repeat (first | refine blk_drewN ?_ _ | refine blk_drew ?_ | refine blk_alloc ?_ _)); exact (Q_BK269 ((up_ne (by decide)).symm.trans h1_) (hoff 19 (by kernel_rfl))))) : gb269 ≠ gb266)))
         have z_NB266_269 := fun (h0_ : up b 11 11 = true) (h1_ : up b 11 14 = true) => (show gb266 ≠ gb269 from ((by rw [hg]; exact Nat.ne_of_gt (blk_lt (g := gb269) (o := .cells #[.string (⟨#[]⟩ : ByteArray), .slice none 0 0] 24 (0, 0)) (by (with_reducible repeat (first | refine blk_drewN ?_ _ | refine blk_drew ?_ | refine blk_alloc ?_ _)); exact (Q_BK269 ((up_ne (by decide)).symm.trans h1_) (hoff 19 (by kernel_rfl))))) : gb266 ≠ gb269)))
         have z_NB270_266 := fun (h0_ : up b 11 11 = true) (h1_ : up b 11 15 = true) => (show gb270 ≠ gb266 from ((by rw [hg]; exact Nat.ne_of_lt (blk_lt (g := gb270) (o := .cells #[.string (⟨#[]⟩ : ByteArray), .slice none 0 0] 24 (0, 0)) (by (with_reducible repeat (first | refine blk_drewN ?_ _ | refine blk_drew ?_ | refine blk_alloc ?_ _)); exact (Q_BK270 ((up_ne (by decide)).symm.trans h1_) (hoff 20 (by kernel_rfl))))) : gb270 ≠ gb266)))
         have z_NB266_270 := fun (h0_ : up b 11 11 = true) (h1_ : up b 11 15 = true) => (show gb266 ≠ gb270 from ((by rw [hg]; exact Nat.ne_of_gt (blk_lt (g := gb270) (o := .cells #[.string (⟨#[]⟩ : ByteArray), .slice none 0 0] 24 (0, 0)) (by (with_reducible repeat (first | refine blk_drewN ?_ _ | refine blk_drew ?_ | refine blk_alloc ?_ _)); exact (Q_BK270 ((up_ne (by decide)).symm.trans h1_) (hoff 20 (by kernel_rfl))))) : gb266 ≠ gb270)))
         have z_HO249 := fun (h0_ : b 1 = true) => (show Kd.R k85 85 w29 w.heap.size (fun _ => True) v248 t247 from by first | exact (Kd.R_below (by (with_reducible repeat (first | apply Kd.R_alloc | apply Kd.R_drewN | apply Kd.R_drew)); exact (Q_HO249 h0_)) hb) | exact Kd.R_mono (Kd.R_below (by (with_reducible repeat (first | apply Kd.R_alloc | apply Kd.R_drewN | apply Kd.R_drew)); exact (Q_HO249 h0_)) hb) (fun _ h_ => by first | trivial | exact h_ | exact h_.1))
         have z_HO253 := fun (h0_ : b 3 = true) => (show Kd.R k85 85 w29 w.heap.size (fun _ => True) v252 t251 from by first | exact (Kd.R_below (by (with_reducible repeat (first | apply Kd.R_alloc | apply Kd.R_drewN | apply Kd.R_drew)); exact (Q_HO253 h0_)) hb) | exact Kd.R_mono (Kd.R_below (by (with_reducible repeat (first | apply Kd.R_alloc | apply Kd.R_drewN | apply Kd.R_drew)); exact (Q_HO253 h0_)) hb) (fun _ h_ => by first | trivial | exact h_ | exact h_.1))
         have z_HO257 := fun (h0_ : b 5 = true) => (show Kd.R k85 85 w29 w.heap.size (fun _ => True) v256 t255 from by first | exact (Kd.R_below (by (with_reducible repeat (first | apply Kd.R_alloc | apply Kd.R_drewN | apply Kd.R_drew)); exact (Q_HO257 h0_)) hb) | exact Kd.R_mono (Kd.R_below (by (with_reducible repeat (first | apply Kd.R_alloc | apply Kd.R_drewN | apply Kd.R_drew)); exact (Q_HO257 h0_)) hb) (fun _ h_ => by first | trivial | exact h_ | exact h_.1))
         have z_HO261 := fun (h0_ : b 8 = true) => (show Kd.R k85 85 w29 w.heap.size (fun _ => True) v260 t259 from by first | exact (Kd.R_below (by (with_reducible repeat (first | apply Kd.R_alloc | apply Kd.R_drewN | apply Kd.R_drew)); exact (Q_HO261 h0_)) hb) | exact Kd.R_mono (Kd.R_below (by (with_reducible repeat (first | apply Kd.R_alloc | apply Kd.R_drewN | apply Kd.R_drew)); exact (Q_HO261 h0_)) hb) (fun _ h_ => by first | trivial | exact h_ | exact h_.1))
         have z_HO265 := fun (h0_ : b 10 = true) => (show Kd.R k85 85 w29 w.heap.size (fun _ => True) v264 t263 from by first | exact (Kd.R_below (by (with_reducible repeat (first | apply Kd.R_alloc | apply Kd.R_drewN | apply Kd.R_drew)); exact (Q_HO265 h0_)) hb) | exact Kd.R_mono (Kd.R_below (by (with_reducible repeat (first | apply Kd.R_alloc | apply Kd.R_drewN | apply Kd.R_drew)); exact (Q_HO265 h0_)) hb) (fun _ h_ => by first | trivial | exact h_ | exact h_.1))
         have z_BK267 := fun (h0_ : b 12 = true) (h1_ : b 17 = false) => (show w29.heap[gb267]? = some (.cells #[.string (⟨#[]⟩ : ByteArray), .slice none 0 0] 24 (0, 0)) from by first | exact (blk_below (g := gb267) (o := .cells #[.string (⟨#[]⟩ : ByteArray), .slice none 0 0] 24 (0, 0)) (by (with_reducible repeat (first | refine blk_drewN ?_ _ | refine blk_drew ?_ | refine blk_alloc ?_ _)); exact (Q_BK267 h0_ h1_)) hb))
         have z_BK268 := fun (h0_ : b 13 = true) (h1_ : b 18 = false) => (show w29.heap[gb268]? = some (.cells #[.string (⟨#[]⟩ : ByteArray), .slice none 0 0] 24 (0, 0)) from by first | exact (blk_below (g := gb268) (o := .cells #[.string (⟨#[]⟩ : ByteArray), .slice none 0 0] 24 (0, 0)) (by (with_reducible repeat (first | refine blk_drewN ?_ _ | refine blk_drew ?_ | refine blk_alloc ?_ _)); exact (Q_BK268 h0_ h1_)) hb))
         have z_BK269 := fun (h0_ : b 14 = true) (h1_ : b 19 = false) => (show w29.heap[gb269]? = some (.cells #[.string (⟨#[]⟩ : ByteArray), .slice none 0 0] 24 (0, 0)) from by first | exact (blk_below (g := gb269) (o := .cells #[.string (⟨#[]⟩ : ByteArray), .slice none 0 0] 24 (0, 0)) (by (with_reducible repeat (first | refine blk_drewN ?_ _ | refine blk_drew ?_ | refine blk_alloc ?_ _)); exact (Q_BK269 h0_ h1_)) hb))
         have z_BK270 := fun (h0_ : b 15 = true) (h1_ : b 20 = false) => (show w29.heap[gb270]? = some (.cells #[.string (⟨#[]⟩ : ByteArray), .slice none 0 0] 24 (0, 0)) from by first | exact (blk_below (g := gb270) (o := .cells #[.string (⟨#[]⟩ : ByteArray), .slice none 0 0] 24 (0, 0)) (by (with_reducible repeat (first | refine blk_drewN ?_ _ | refine blk_drew ?_ | refine blk_alloc ?_ _)); exact (Q_BK270 h0_ h1_)) hb))
         clear BK244
         clear HB
         have BK244 := n0_
         have HB := n1_
         have BK266 := n2_
         have GW266 := n3_
         have GE266 := n4_
         have NB244_266 := n5_
         have NB266_244 := n6_
         clear n0_ n1_ n2_ n3_ n4_ n5_ n6_
         clear hb hbox hg
         refine hK.out _ _ ⟨v248, v252, v256, v260, v264, gb266, gb267, gb268, gb269, gb270, m1_, m3_, m5_, m8_, m10_, (.pointer (some ⟨gb266, 0, none⟩)), m12_, m13_, m14_, m15_, (by rw [ha.out]; exact putSel_upk 10 hb_ rfl rfl rfl), (by (with_reducible repeat (first | refine blk_drewN ?_ _ | refine blk_drew ?_ | refine blk_alloc ?_ _)); exact BK244.out), (by repeat (first | (with_reducible first | exact HB.out | apply below_alloc | apply pw_below_drewN | apply below_drew1 | refine below_set ?_ GE244.out | refine below_set ?_ GE266.out) | exact HB.out)), z_NB267_266, z_NB266_267, z_NB268_266, z_NB266_268, z_NB269_266, z_NB266_269, z_NB270_266, z_NB266_270, Q_NB268_267, Q_NB267_268, Q_NB269_267, Q_NB267_269, Q_NB270_267, Q_NB267_270, Q_NB269_268, Q_NB268_269, Q_NB270_268, Q_NB268_270, Q_NB270_269, Q_NB269_270, z_HO249, z_HO253, z_HO257, z_HO261, z_HO265, fun _ _ => (by (with_reducible repeat (first | refine blk_drewN ?_ _ | refine blk_drew ?_ | refine blk_alloc ?_ _)); exact BK266.out), fun _ => GW266.out, fun _ => GE266.out, fun _ => NB244_266.out, fun _ => NB266_244.out, z_BK267, Q_GW267, Q_GE267, Q_NB244_267, Q_NB267_244, z_BK268, Q_GW268, Q_GE268, Q_NB244_268, Q_NB268_244, z_BK269, Q_GW269, Q_GE269, Q_NB244_269, Q_NB269_244, z_BK270, Q_GW270, Q_GE270, Q_NB244_270, Q_NB270_244, fun h0_ => absurd ((hoff 16 (by kernel_rfl)).symm.trans h0_) (by decide), fun h0_ => absurd ((hoff 17 (by kernel_rfl)).symm.trans h0_) (by decide), fun h0_ => absurd ((hoff 18 (by kernel_rfl)).symm.trans h0_) (by decide), fun h0_ => absurd ((hoff 19 (by kernel_rfl)).symm.trans h0_) (by decide), fun h0_ => absurd ((hoff 20 (by kernel_rfl)).symm.trans h0_) (by decide), Q_X1_, Q_X3_, Q_X5_, Q_X8_, Q_X10_, fun _ => rfl, Q_X12_, Q_X13_, Q_X14_, Q_X15_⟩
        refine steps_cons ?_ ?_
        ·
         rintro b a w' ⟨v248, v252, v256, v260, v264, gb266, gb267, gb268, gb269, gb270, m1_, m3_, m5_, m8_, m10_, m11_, m12_, m13_, m14_, m15_, hI_⟩ hb_ hon hoff
         have ha := hI_.ha; have Q_BK244 := hI_.Q_BK244; have Q_HB := hI_.Q_HB; have Q_NB267_266 := hI_.Q_NB267_266; have Q_NB266_267 := hI_.Q_NB266_267; have Q_NB268_266 := hI_.Q_NB268_266; have Q_NB266_268 := hI_.Q_NB266_268; have Q_NB269_266 := hI_.Q_NB269_266; have Q_NB266_269 := hI_.Q_NB266_269; have Q_NB270_266 := hI_.Q_NB270_266; have Q_NB266_270 := hI_.Q_NB266_270; have Q_NB268_267 := hI_.Q_NB268_267; have Q_NB267_268 := hI_.Q_NB267_268; have Q_NB269_267 := hI_.Q_NB269_267; have Q_NB267_269 := hI_.Q_NB267_269; have Q_NB270_267 := hI_.Q_NB270_267; have Q_NB267_270 := hI_.Q_NB267_270; have Q_NB269_268 := hI_.Q_NB269_268; have Q_NB268_269 := hI_.Q_NB268_269; have Q_NB270_268 := hI_.Q_NB270_268; have Q_NB268_270 := hI_.Q_NB268_270; have Q_NB270_269 := hI_.Q_NB270_269; have Q_NB269_270 := hI_.Q_NB269_270; have Q_HO249 := hI_.Q_HO249; have Q_HO253 := hI_.Q_HO253; have Q_HO257 := hI_.Q_HO257; have Q_HO261 := hI_.Q_HO261; have Q_HO265 := hI_.Q_HO265; have Q_BK266 := hI_.Q_BK266; have Q_GW266 := hI_.Q_GW266; have Q_GE266 := hI_.Q_GE266; have Q_NB244_266 := hI_.Q_NB244_266; have Q_NB266_244 := hI_.Q_NB266_244; have Q_BK267 := hI_.Q_BK267; have Q_GW267 := hI_.Q_GW267; have Q_GE267 := hI_.Q_GE267; have Q_NB244_267 := hI_.Q_NB244_267; have Q_NB267_244 := hI_.Q_NB267_244; have Q_BK268 := hI_.Q_BK268; have Q_GW268 := hI_.Q_GW268; have Q_GE268 := hI_.Q_GE268; have Q_NB244_268 := hI_.Q_NB244_268; have Q_NB268_244 := hI_.Q_NB268_244; have Q_BK269 := hI_.Q_BK269; have Q_GW269 := hI_.Q_GW269; have Q_GE269 := hI_.Q_GE269; have Q_NB244_269 := hI_.Q_NB244_269; have Q_NB269_244 := hI_.Q_NB269_244; have Q_BK270 := hI_.Q_BK270; have Q_GW270 := hI_.Q_GW270; have Q_GE270 := hI_.Q_GE270; have Q_NB244_270 := hI_.Q_NB244_270; have Q_NB270_244 := hI_.Q_NB270_244; have Q_BK266_e16 := hI_.Q_BK266_e16; have Q_BK267_e17 := hI_.Q_BK267_e17; have Q_BK268_e18 := hI_.Q_BK268_e18; have Q_BK269_e19 := hI_.Q_BK269_e19; have Q_BK270_e20 := hI_.Q_BK270_e20; have Q_X1_ := hI_.Q_X1_; have Q_X3_ := hI_.Q_X3_; have Q_X5_ := hI_.Q_X5_; have Q_X8_ := hI_.Q_X8_; have Q_X10_ := hI_.Q_X10_; have Q_X11_ := hI_.Q_X11_; have Q_X12_ := hI_.Q_X12_; have Q_X13_ := hI_.Q_X13_; have Q_X14_ := hI_.Q_X14_; have Q_X15_ := hI_.Q_X15_
         clear hI_
         refine ⟨_, rfl, fun K hK => ?_⟩
         replace ha := Aside0.mk ha
         have BK244 := Aside0.mk Q_BK244
         have HB := Aside0.mk Q_HB
         refine box_step ?hg (N := 6) ?hd (cs := #[.string (⟨#[]⟩ : ByteArray), .slice none 0 0]) (t := 24) ?hr ?_; (case hd => rfl); (case hg => rfl); (case hr => first | (go_simp; done) | (go_simp; rfl))
         intro gb267 hg w29 hbox hb
         have n0_ := Aside0.mk (blk_below (g := gb244) (o := .cells #[.string a0_0, .slice A0_1 l0_1.length c0_1] 24 (0, 0)) (by (with_reducible repeat (first | refine blk_drewN ?_ _ | refine blk_drew ?_ | refine blk_alloc ?_ _)); exact BK244.out) hb)
         have n1_ := Aside0.mk (below_step (by repeat (first | (with_reducible first | exact HB.out | apply below_alloc | apply pw_below_drewN | apply below_drew1 | refine below_set ?_ GE244.out) | exact HB.out)) hb)
         have n2_ := Aside0.mk (hbox)
         have n3_ := Aside0.mk ((by rw [hg]; exact (below_size (by repeat (first | (with_reducible first | exact HB.out | apply below_alloc | apply pw_below_drewN | apply below_drew1 | refine below_set ?_ GE244.out) | exact HB.out))) : w.heap.size ≤ gb267))
         have n4_ := Aside0.mk ((by rw [hg]; exact (below_size (by repeat (first | (with_reducible first | exact HB.out | apply below_alloc | apply pw_below_drewN | apply below_drew1 | refine below_set ?_ GE244.out) | exact HB.out))) : w.heap.size ≤ gb267))
         have n5_ := Aside0.mk ((by rw [hg]; exact Nat.ne_of_lt (blk_lt (g := gb244) (o := .cells #[.string a0_0, .slice A0_1 l0_1.length c0_1] 24 (0, 0)) (by (with_reducible repeat (first | refine blk_drewN ?_ _ | refine blk_drew ?_ | refine blk_alloc ?_ _)); exact BK244.out)) : gb244 ≠ gb267))
         have n6_ := Aside0.mk ((by rw [hg]; exact Nat.ne_of_gt (blk_lt (g := gb244) (o := .cells #[.string a0_0, .slice A0_1 l0_1.length c0_1] 24 (0, 0)) (by (with_reducible repeat (first | refine blk_drewN ?_ _ | refine blk_drew ?_ | refine blk_alloc ?_ _)); exact BK244.out)) : gb267 ≠ gb244))
         have z_NB267_266 := fun (h0_ : up b 12 11 = true) (h1_ : up b 12 12 = true) => (show gb267 ≠ gb266 from ((by rw [hg]; exact Nat.ne_of_gt (blk_lt (g := gb266) (o := .cells #[.string (⟨#[]⟩ : ByteArray), .slice none 0 0] 24 (0, 0)) (by (with_reducible repeat (first | refine blk_drewN ?_ _ | refine blk_drew ?_ | refine blk_alloc ?_ _)); exact (Q_BK266 ((up_ne (by decide)).symm.trans h0_) (hoff 16 (by kernel_rfl))))) : gb267 ≠ gb266)))
         have z_NB266_267 := fun (h0_ : up b 12 11 = true) (h1_ : up b 12 12 = true) => (show gb266 ≠ gb267 from ((by rw [hg]; exact Nat.ne_of_lt (blk_lt (g := gb266) (o := .cells #[.string (⟨#[]⟩ : ByteArray), .slice none 0 0] 24 (0, 0)) (by (with_reducible repeat (first | refine blk_drewN ?_ _ | refine blk_drew ?_ | refine blk_alloc ?_ _)); exact (Q_BK266 ((up_ne (by decide)).symm.trans h0_) (hoff 16 (by kernel_rfl))))) : gb266 ≠ gb267)))
         have z_NB268_267 := fun (h0_ : up b 12 12 = true) (h1_ : up b 12 13 = true) => (show gb268 ≠ gb267 from ((by rw [hg]; exact Nat.ne_of_lt (blk_lt (g := gb268) (o := .cells #[.string (⟨#[]⟩ : ByteArray), .slice none 0 0] 24 (0, 0)) (by (with_reducible repeat (first | refine blk_drewN ?_ _ | refine blk_drew ?_ | refine blk_alloc ?_ _)); exact (Q_BK268 ((up_ne (by decide)).symm.trans h1_) (hoff 18 (by kernel_rfl))))) : gb268 ≠ gb267)))
         have z_NB267_268 := fun (h0_ : up b 12 12 = true) (h1_ : up b 12 13 = true) => (show gb267 ≠ gb268 from ((by rw [hg]; exact Nat.ne_of_gt (blk_lt (g := gb268) (o := .cells #[.string (⟨#[]⟩ : ByteArray), .slice none 0 0] 24 (0, 0)) (by (with_reducible repeat (first | refine blk_drewN ?_ _ | refine blk_drew ?_ | refine blk_alloc ?_ _)); exact (Q_BK268 ((up_ne (by decide)).symm.trans h1_) (hoff 18 (by kernel_rfl))))) : gb267 ≠ gb268)))
         have z_NB269_267 := fun (h0_ : up b 12 12 = true) (h1_ : up b 12 14 = true) => (show gb269 ≠ gb267 from ((by rw [hg]; exact Nat.ne_of_lt (blk_lt (g := gb269) (o := .cells #[.string (⟨#[]⟩ : ByteArray), .slice none 0 0] 24 (0, 0)) (by (with_reducible repeat (first | refine blk_drewN ?_ _ | refine blk_drew ?_ | refine blk_alloc ?_ _)); exact (Q_BK269 ((up_ne (by decide)).symm.trans h1_) (hoff 19 (by kernel_rfl))))) : gb269 ≠ gb267)))
         have z_NB267_269 := fun (h0_ : up b 12 12 = true) (h1_ : up b 12 14 = true) => (show gb267 ≠ gb269 from ((by rw [hg]; exact Nat.ne_of_gt (blk_lt (g := gb269) (o := .cells #[.string (⟨#[]⟩ : ByteArray), .slice none 0 0] 24 (0, 0)) (by (with_reducible repeat (first | refine blk_drewN ?_ _ | refine blk_drew ?_ | refine blk_alloc ?_ _)); exact (Q_BK269 ((up_ne (by decide)).symm.trans h1_) (hoff 19 (by kernel_rfl))))) : gb267 ≠ gb269)))
         have z_NB270_267 := fun (h0_ : up b 12 12 = true) (h1_ : up b 12 15 = true) => (show gb270 ≠ gb267 from ((by rw [hg]; exact Nat.ne_of_lt (blk_lt (g := gb270) (o := .cells #[.string (⟨#[]⟩ : ByteArray), .slice none 0 0] 24 (0, 0)) (by (with_reducible repeat (first | refine blk_drewN ?_ _ | refine blk_drew ?_ | refine blk_alloc ?_ _)); exact (Q_BK270 ((up_ne (by decide)).symm.trans h1_) (hoff 20 (by kernel_rfl))))) : gb270 ≠ gb267)))
         have z_NB267_270 := fun (h0_ : up b 12 12 = true) (h1_ : up b 12 15 = true) => (show gb267 ≠ gb270 from ((by rw [hg]; exact Nat.ne_of_gt (blk_lt (g := gb270) (o := .cells #[.string (⟨#[]⟩ : ByteArray), .slice none 0 0] 24 (0, 0)) (by (with_reducible repeat (first | refine blk_drewN ?_ _ | refine blk_drew ?_ | refine blk_alloc ?_ _)); exact (Q_BK270 ((up_ne (by decide)).symm.trans h1_) (hoff 20 (by kernel_rfl))))) : gb267 ≠ gb270)))
         have z_HO249 := fun (h0_ : b 1 = true) => (show Kd.R k85 85 w29 w.heap.size (fun _ => True) v248 t247 from by first | exact (Kd.R_below (by (with_reducible repeat (first | apply Kd.R_alloc | apply Kd.R_drewN | apply Kd.R_drew)); exact (Q_HO249 h0_)) hb) | exact Kd.R_mono (Kd.R_below (by (with_reducible repeat (first | apply Kd.R_alloc | apply Kd.R_drewN | apply Kd.R_drew)); exact (Q_HO249 h0_)) hb) (fun _ h_ => by first | trivial | exact h_ | exact h_.1))
         have z_HO253 := fun (h0_ : b 3 = true) => (show Kd.R k85 85 w29 w.heap.size (fun _ => True) v252 t251 from by first | exact (Kd.R_below (by (with_reducible repeat (first | apply Kd.R_alloc | apply Kd.R_drewN | apply Kd.R_drew)); exact (Q_HO253 h0_)) hb) | exact Kd.R_mono (Kd.R_below (by (with_reducible repeat (first | apply Kd.R_alloc | apply Kd.R_drewN | apply Kd.R_drew)); exact (Q_HO253 h0_)) hb) (fun _ h_ => by first | trivial | exact h_ | exact h_.1))
         have z_HO257 := fun (h0_ : b 5 = true) => (show Kd.R k85 85 w29 w.heap.size (fun _ => True) v256 t255 from by first | exact (Kd.R_below (by (with_reducible repeat (first | apply Kd.R_alloc | apply Kd.R_drewN | apply Kd.R_drew)); exact (Q_HO257 h0_)) hb) | exact Kd.R_mono (Kd.R_below (by (with_reducible repeat (first | apply Kd.R_alloc | apply Kd.R_drewN | apply Kd.R_drew)); exact (Q_HO257 h0_)) hb) (fun _ h_ => by first | trivial | exact h_ | exact h_.1))
         have z_HO261 := fun (h0_ : b 8 = true) => (show Kd.R k85 85 w29 w.heap.size (fun _ => True) v260 t259 from by first | exact (Kd.R_below (by (with_reducible repeat (first | apply Kd.R_alloc | apply Kd.R_drewN | apply Kd.R_drew)); exact (Q_HO261 h0_)) hb) | exact Kd.R_mono (Kd.R_below (by (with_reducible repeat (first | apply Kd.R_alloc | apply Kd.R_drewN | apply Kd.R_drew)); exact (Q_HO261 h0_)) hb) (fun _ h_ => by first | trivial | exact h_ | exact h_.1))
         have z_HO265 := fun (h0_ : b 10 = true) => (show Kd.R k85 85 w29 w.heap.size (fun _ => True) v264 t263 from by first | exact (Kd.R_below (by (with_reducible repeat (first | apply Kd.R_alloc | apply Kd.R_drewN | apply Kd.R_drew)); exact (Q_HO265 h0_)) hb) | exact Kd.R_mono (Kd.R_below (by (with_reducible repeat (first | apply Kd.R_alloc | apply Kd.R_drewN | apply Kd.R_drew)); exact (Q_HO265 h0_)) hb) (fun _ h_ => by first | trivial | exact h_ | exact h_.1))
         have z_BK266 := fun (h0_ : b 11 = true) (h1_ : b 16 = false) => (show w29.heap[gb266]? = some (.cells #[.string (⟨#[]⟩ : ByteArray), .slice none 0 0] 24 (0, 0)) from by first | exact (blk_below (g := gb266) (o := .cells #[.string (⟨#[]⟩ : ByteArray), .slice none 0 0] 24 (0, 0)) (by (with_reducible repeat (first | refine blk_drewN ?_ _ | refine blk_drew ?_ | refine blk_alloc ?_ _)); exact (Q_BK266 h0_ h1_)) hb))
         have z_BK268 := fun (h0_ : b 13 = true) (h1_ : b 18 = false) => (show w29.heap[gb268]? = some (.cells #[.string (⟨#[]⟩ : ByteArray), .slice none 0 0] 24 (0, 0)) from by first | exact (blk_below (g := gb268) (o := .cells #[.string (⟨#[]⟩ : ByteArray), .slice none 0 0] 24 (0, 0)) (by (with_reducible repeat (first | refine blk_drewN ?_ _ | refine blk_drew ?_ | refine blk_alloc ?_ _)); exact (Q_BK268 h0_ h1_)) hb))
         have z_BK269 := fun (h0_ : b 14 = true) (h1_ : b 19 = false) => (show w29.heap[gb269]? = some (.cells #[.string (⟨#[]⟩ : ByteArray), .slice none 0 0] 24 (0, 0)) from by first | exact (blk_below (g := gb269) (o := .cells #[.string (⟨#[]⟩ : ByteArray), .slice none 0 0] 24 (0, 0)) (by (with_reducible repeat (first | refine blk_drewN ?_ _ | refine blk_drew ?_ | refine blk_alloc ?_ _)); exact (Q_BK269 h0_ h1_)) hb))
         have z_BK270 := fun (h0_ : b 15 = true) (h1_ : b 20 = false) => (show w29.heap[gb270]? = some (.cells #[.string (⟨#[]⟩ : ByteArray), .slice none 0 0] 24 (0, 0)) from by first | exact (blk_below (g := gb270) (o := .cells #[.string (⟨#[]⟩ : ByteArray), .slice none 0 0] 24 (0, 0)) (by (with_reducible repeat (first | refine blk_drewN ?_ _ | refine blk_drew ?_ | refine blk_alloc ?_ _)); exact (Q_BK270 h0_ h1_)) hb))
         clear BK244
         clear HB
         have BK244 := n0_
         have HB := n1_
         have BK267 := n2_
         have GW267 := n3_
         have GE267 := n4_
         have NB244_267 := n5_
         have NB267_244 := n6_
         clear n0_ n1_ n2_ n3_ n4_ n5_ n6_
         clear hb hbox hg
         refine hK.out _ _ ⟨v248, v252, v256, v260, v264, gb266, gb267, gb268, gb269, gb270, m1_, m3_, m5_, m8_, m10_, m11_, (.pointer (some ⟨gb267, 0, none⟩)), m13_, m14_, m15_, (by rw [ha.out]; exact putSel_upk 11 hb_ rfl rfl rfl), (by (with_reducible repeat (first | refine blk_drewN ?_ _ | refine blk_drew ?_ | refine blk_alloc ?_ _)); exact BK244.out), (by repeat (first | (with_reducible first | exact HB.out | apply below_alloc | apply pw_below_drewN | apply below_drew1 | refine below_set ?_ GE244.out | refine below_set ?_ GE267.out) | exact HB.out)), z_NB267_266, z_NB266_267, Q_NB268_266, Q_NB266_268, Q_NB269_266, Q_NB266_269, Q_NB270_266, Q_NB266_270, z_NB268_267, z_NB267_268, z_NB269_267, z_NB267_269, z_NB270_267, z_NB267_270, Q_NB269_268, Q_NB268_269, Q_NB270_268, Q_NB268_270, Q_NB270_269, Q_NB269_270, z_HO249, z_HO253, z_HO257, z_HO261, z_HO265, z_BK266, Q_GW266, Q_GE266, Q_NB244_266, Q_NB266_244, fun _ _ => (by (with_reducible repeat (first | refine blk_drewN ?_ _ | refine blk_drew ?_ | refine blk_alloc ?_ _)); exact BK267.out), fun _ => GW267.out, fun _ => GE267.out, fun _ => NB244_267.out, fun _ => NB267_244.out, z_BK268, Q_GW268, Q_GE268, Q_NB244_268, Q_NB268_244, z_BK269, Q_GW269, Q_GE269, Q_NB244_269, Q_NB269_244, z_BK270, Q_GW270, Q_GE270, Q_NB244_270, Q_NB270_244, fun h0_ => absurd ((hoff 16 (by kernel_rfl)).symm.trans h0_) (by decide), fun h0_ => absurd ((hoff 17 (by kernel_rfl)).symm.trans h0_) (by decide), fun h0_ => absurd ((hoff 18 (by kernel_rfl)).symm.trans h0_) (by decide), fun h0_ => absurd ((hoff 19 (by kernel_rfl)).symm.trans h0_) (by decide), fun h0_ => absurd ((hoff 20 (by kernel_rfl)).symm.trans h0_) (by decide), Q_X1_, Q_X3_, Q_X5_, Q_X8_, Q_X10_, Q_X11_, fun _ => rfl, Q_X13_, Q_X14_, Q_X15_⟩
        refine steps_cons ?_ ?_
        ·
         rintro b a w' ⟨v248, v252, v256, v260, v264, gb266, gb267, gb268, gb269, gb270, m1_, m3_, m5_, m8_, m10_, m11_, m12_, m13_, m14_, m15_, hI_⟩ hb_ hon hoff
         have ha := hI_.ha; have Q_BK244 := hI_.Q_BK244; have Q_HB := hI_.Q_HB; have Q_NB267_266 := hI_.Q_NB267_266; have Q_NB266_267 := hI_.Q_NB266_267; have Q_NB268_266 := hI_.Q_NB268_266; have Q_NB266_268 := hI_.Q_NB266_268; have Q_NB269_266 := hI_.Q_NB269_266; have Q_NB266_269 := hI_.Q_NB266_269; have Q_NB270_266 := hI_.Q_NB270_266; have Q_NB266_270 := hI_.Q_NB266_270; have Q_NB268_267 := hI_.Q_NB268_267; have Q_NB267_268 := hI_.Q_NB267_268; have Q_NB269_267 := hI_.Q_NB269_267; have Q_NB267_269 := hI_.Q_NB267_269; have Q_NB270_267 := hI_.Q_NB270_267; have Q_NB267_270 := hI_.Q_NB267_270; have Q_NB269_268 := hI_.Q_NB269_268; have Q_NB268_269 := hI_.Q_NB268_269; have Q_NB270_268 := hI_.Q_NB270_268; have Q_NB268_270 := hI_.Q_NB268_270; have Q_NB270_269 := hI_.Q_NB270_269; have Q_NB269_270 := hI_.Q_NB269_270; have Q_HO249 := hI_.Q_HO249; have Q_HO253 := hI_.Q_HO253; have Q_HO257 := hI_.Q_HO257; have Q_HO261 := hI_.Q_HO261; have Q_HO265 := hI_.Q_HO265; have Q_BK266 := hI_.Q_BK266; have Q_GW266 := hI_.Q_GW266; have Q_GE266 := hI_.Q_GE266; have Q_NB244_266 := hI_.Q_NB244_266; have Q_NB266_244 := hI_.Q_NB266_244; have Q_BK267 := hI_.Q_BK267; have Q_GW267 := hI_.Q_GW267; have Q_GE267 := hI_.Q_GE267; have Q_NB244_267 := hI_.Q_NB244_267; have Q_NB267_244 := hI_.Q_NB267_244; have Q_BK268 := hI_.Q_BK268; have Q_GW268 := hI_.Q_GW268; have Q_GE268 := hI_.Q_GE268; have Q_NB244_268 := hI_.Q_NB244_268; have Q_NB268_244 := hI_.Q_NB268_244; have Q_BK269 := hI_.Q_BK269; have Q_GW269 := hI_.Q_GW269; have Q_GE269 := hI_.Q_GE269; have Q_NB244_269 := hI_.Q_NB244_269; have Q_NB269_244 := hI_.Q_NB269_244; have Q_BK270 := hI_.Q_BK270; have Q_GW270 := hI_.Q_GW270; have Q_GE270 := hI_.Q_GE270; have Q_NB244_270 := hI_.Q_NB244_270; have Q_NB270_244 := hI_.Q_NB270_244; have Q_BK266_e16 := hI_.Q_BK266_e16; have Q_BK267_e17 := hI_.Q_BK267_e17; have Q_BK268_e18 := hI_.Q_BK268_e18; have Q_BK269_e19 := hI_.Q_BK269_e19; have Q_BK270_e20 := hI_.Q_BK270_e20; have Q_X1_ := hI_.Q_X1_; have Q_X3_ := hI_.Q_X3_; have Q_X5_ := hI_.Q_X5_; have Q_X8_ := hI_.Q_X8_; have Q_X10_ := hI_.Q_X10_; have Q_X11_ := hI_.Q_X11_; have Q_X12_ := hI_.Q_X12_; have Q_X13_ := hI_.Q_X13_; have Q_X14_ := hI_.Q_X14_; have Q_X15_ := hI_.Q_X15_
         clear hI_
         refine ⟨_, rfl, fun K hK => ?_⟩
         replace ha := Aside0.mk ha
         have BK244 := Aside0.mk Q_BK244
         have HB := Aside0.mk Q_HB
         refine box_step ?hg (N := 7) ?hd (cs := #[.string (⟨#[]⟩ : ByteArray), .slice none 0 0]) (t := 24) ?hr ?_; (case hd => rfl); (case hg => rfl); (case hr => first | (go_simp; done) | (go_simp; rfl))
         intro gb268 hg w29 hbox hb
         have n0_ := Aside0.mk (blk_below (g := gb244) (o := .cells #[.string a0_0, .slice A0_1 l0_1.length c0_1] 24 (0, 0)) (by (with_reducible repeat (first | refine blk_drewN ?_ _ | refine blk_drew ?_ | refine blk_alloc ?_ _)); exact BK244.out) hb)
         have n1_ := Aside0.mk (below_step (by repeat (first | (with_reducible first | exact HB.out | apply below_alloc | apply pw_below_drewN | apply below_drew1 | refine below_set ?_ GE244.out) | exact HB.out)) hb)
         have n2_ := Aside0.mk (hbox)
         have n3_ := Aside0.mk ((by rw [hg]; exact (below_size (by repeat (first | (with_reducible first | exact HB.out | apply below_alloc | apply pw_below_drewN | apply below_drew1 | refine below_set ?_ GE244.out) | exact HB.out))) : w.heap.size ≤ gb268))
         have n4_ := Aside0.mk ((by rw [hg]; exact (below_size (by repeat (first | (with_reducible first | exact HB.out | apply below_alloc | apply pw_below_drewN | apply below_drew1 | refine below_set ?_ GE244.out) | exact HB.out))) : w.heap.size ≤ gb268))
         have n5_ := Aside0.mk ((by rw [hg]; exact Nat.ne_of_lt (blk_lt (g := gb244) (o := .cells #[.string a0_0, .slice A0_1 l0_1.length c0_1] 24 (0, 0)) (by (with_reducible repeat (first | refine blk_drewN ?_ _ | refine blk_drew ?_ | refine blk_alloc ?_ _)); exact BK244.out)) : gb244 ≠ gb268))
         have n6_ := Aside0.mk ((by rw [hg]; exact Nat.ne_of_gt (blk_lt (g := gb244) (o := .cells #[.string a0_0, .slice A0_1 l0_1.length c0_1] 24 (0, 0)) (by (with_reducible repeat (first | refine blk_drewN ?_ _ | refine blk_drew ?_ | refine blk_alloc ?_ _)); exact BK244.out)) : gb268 ≠ gb244))
         have z_NB268_266 := fun (h0_ : up b 13 11 = true) (h1_ : up b 13 13 = true) => (show gb268 ≠ gb266 from ((by rw [hg]; exact Nat.ne_of_gt (blk_lt (g := gb266) (o := .cells #[.string (⟨#[]⟩ : ByteArray), .slice none 0 0] 24 (0, 0)) (by (with_reducible repeat (first | refine blk_drewN ?_ _ | refine blk_drew ?_ | refine blk_alloc ?_ _)); exact (Q_BK266 ((up_ne (by decide)).symm.trans h0_) (hoff 16 (by kernel_rfl))))) : gb268 ≠ gb266)))
         have z_NB266_268 := fun (h0_ : up b 13 11 = true) (h1_ : up b 13 13 = true) => (show gb266 ≠ gb268 from ((by rw [hg]; exact Nat.ne_of_lt (blk_lt (g := gb266) (o := .cells #[.string (⟨#[]⟩ : ByteArray), .slice none 0 0] 24 (0, 0)) (by (with_reducible repeat (first | refine blk_drewN ?_ _ | refine blk_drew ?_ | refine blk_alloc ?_ _)); exact (Q_BK266 ((up_ne (by decide)).symm.trans h0_) (hoff 16 (by kernel_rfl))))) : gb266 ≠ gb268)))
         have z_NB268_267 := fun (h0_ : up b 13 12 = true) (h1_ : up b 13 13 = true) => (show gb268 ≠ gb267 from ((by rw [hg]; exact Nat.ne_of_gt (blk_lt (g := gb267) (o := .cells #[.string (⟨#[]⟩ : ByteArray), .slice none 0 0] 24 (0, 0)) (by (with_reducible repeat (first | refine blk_drewN ?_ _ | refine blk_drew ?_ | refine blk_alloc ?_ _)); exact (Q_BK267 ((up_ne (by decide)).symm.trans h0_) (hoff 17 (by kernel_rfl))))) : gb268 ≠ gb267)))
         have z_NB267_268 := fun (h0_ : up b 13 12 = true) (h1_ : up b 13 13 = true) => (show gb267 ≠ gb268 from ((by rw [hg]; exact Nat.ne_of_lt (blk_lt (g := gb267) (o := .cells #[.string (⟨#[]⟩ : ByteArray), .slice none 0 0] 24 (0, 0)) (by (with_reducible repeat (first | refine blk_drewN ?_ _ | refine blk_drew ?_ | refine blk_alloc ?_ _)); exact (Q_BK267 ((up_ne (by decide)).symm.trans h0_) (hoff 17 (by kernel_rfl))))) : gb267 ≠ gb268)))
         have z_NB269_268 := fun (h0_ : up b 13 13 = true) (h1_ : up b 13 14 = true) => (show gb269 ≠ gb268 from ((by rw [hg]; exact Nat.ne_of_lt (blk_lt (g := gb269) (o := .cells #[.string (⟨#[]⟩ : ByteArray), .slice none 0 0] 24 (0, 0)) (by (with_reducible repeat (first | refine blk_drewN ?_ _ | refine blk_drew ?_ | refine blk_alloc ?_ _)); exact (Q_BK269 ((up_ne (by decide)).symm.trans h1_) (hoff 19 (by kernel_rfl))))) : gb269 ≠ gb268)))
         have z_NB268_269 := fun (h0_ : up b 13 13 = true) (h1_ : up b 13 14 = true) => (show gb268 ≠ gb269 from ((by rw [hg]; exact Nat.ne_of_gt (blk_lt (g := gb269) (o := .cells #[.string (⟨#[]⟩ : ByteArray), .slice none 0 0] 24 (0, 0)) (by (with_reducible repeat (first | refine blk_drewN ?_ _ | refine blk_drew ?_ | refine blk_alloc ?_ _)); exact (Q_BK269 ((up_ne (by decide)).symm.trans h1_) (hoff 19 (by kernel_rfl))))) : gb268 ≠ gb269)))
         have z_NB270_268 := fun (h0_ : up b 13 13 = true) (h1_ : up b 13 15 = true) => (show gb270 ≠ gb268 from ((by rw [hg]; exact Nat.ne_of_lt (blk_lt (g := gb270) (o := .cells #[.string (⟨#[]⟩ : ByteArray), .slice none 0 0] 24 (0, 0)) (by (with_reducible repeat (first | refine blk_drewN ?_ _ | refine blk_drew ?_ | refine blk_alloc ?_ _)); exact (Q_BK270 ((up_ne (by decide)).symm.trans h1_) (hoff 20 (by kernel_rfl))))) : gb270 ≠ gb268)))
         have z_NB268_270 := fun (h0_ : up b 13 13 = true) (h1_ : up b 13 15 = true) => (show gb268 ≠ gb270 from ((by rw [hg]; exact Nat.ne_of_gt (blk_lt (g := gb270) (o := .cells #[.string (⟨#[]⟩ : ByteArray), .slice none 0 0] 24 (0, 0)) (by (with_reducible repeat (first | refine blk_drewN ?_ _ | refine blk_drew ?_ | refine blk_alloc ?_ _)); exact (Q_BK270 ((up_ne (by decide)).symm.trans h1_) (hoff 20 (by kernel_rfl))))) : gb268 ≠ gb270)))
         have z_HO249 := fun (h0_ : b 1 = true) => (show Kd.R k85 85 w29 w.heap.size (fun _ => True) v248 t247 from by first | exact (Kd.R_below (by (with_reducible repeat (first | apply Kd.R_alloc | apply Kd.R_drewN | apply Kd.R_drew)); exact (Q_HO249 h0_)) hb) | exact Kd.R_mono (Kd.R_below (by (with_reducible repeat (first | apply Kd.R_alloc | apply Kd.R_drewN | apply Kd.R_drew)); exact (Q_HO249 h0_)) hb) (fun _ h_ => by first | trivial | exact h_ | exact h_.1))
         have z_HO253 := fun (h0_ : b 3 = true) => (show Kd.R k85 85 w29 w.heap.size (fun _ => True) v252 t251 from by first | exact (Kd.R_below (by (with_reducible repeat (first | apply Kd.R_alloc | apply Kd.R_drewN | apply Kd.R_drew)); exact (Q_HO253 h0_)) hb) | exact Kd.R_mono (Kd.R_below (by (with_reducible repeat (first | apply Kd.R_alloc | apply Kd.R_drewN | apply Kd.R_drew)); exact (Q_HO253 h0_)) hb) (fun _ h_ => by first | trivial | exact h_ | exact h_.1))
         have z_HO257 := fun (h0_ : b 5 = true) => (show Kd.R k85 85 w29 w.heap.size (fun _ => True) v256 t255 from by first | exact (Kd.R_below (by (with_reducible repeat (first | apply Kd.R_alloc | apply Kd.R_drewN | apply Kd.R_drew)); exact (Q_HO257 h0_)) hb) | exact Kd.R_mono (Kd.R_below (by (with_reducible repeat (first | apply Kd.R_alloc | apply Kd.R_drewN | apply Kd.R_drew)); exact (Q_HO257 h0_)) hb) (fun _ h_ => by first | trivial | exact h_ | exact h_.1))
         have z_HO261 := fun (h0_ : b 8 = true) => (show Kd.R k85 85 w29 w.heap.size (fun _ => True) v260 t259 from by first | exact (Kd.R_below (by (with_reducible repeat (first | apply Kd.R_alloc | apply Kd.R_drewN | apply Kd.R_drew)); exact (Q_HO261 h0_)) hb) | exact Kd.R_mono (Kd.R_below (by (with_reducible repeat (first | apply Kd.R_alloc | apply Kd.R_drewN | apply Kd.R_drew)); exact (Q_HO261 h0_)) hb) (fun _ h_ => by first | trivial | exact h_ | exact h_.1))
         have z_HO265 := fun (h0_ : b 10 = true) => (show Kd.R k85 85 w29 w.heap.size (fun _ => True) v264 t263 from by first | exact (Kd.R_below (by (with_reducible repeat (first | apply Kd.R_alloc | apply Kd.R_drewN | apply Kd.R_drew)); exact (Q_HO265 h0_)) hb) | exact Kd.R_mono (Kd.R_below (by (with_reducible repeat (first | apply Kd.R_alloc | apply Kd.R_drewN | apply Kd.R_drew)); exact (Q_HO265 h0_)) hb) (fun _ h_ => by first | trivial | exact h_ | exact h_.1))
         have z_BK266 := fun (h0_ : b 11 = true) (h1_ : b 16 = false) => (show w29.heap[gb266]? = some (.cells #[.string (⟨#[]⟩ : ByteArray), .slice none 0 0] 24 (0, 0)) from by first | exact (blk_below (g := gb266) (o := .cells #[.string (⟨#[]⟩ : ByteArray), .slice none 0 0] 24 (0, 0)) (by (with_reducible repeat (first | refine blk_drewN ?_ _ | refine blk_drew ?_ | refine blk_alloc ?_ _)); exact (Q_BK266 h0_ h1_)) hb))
         have z_BK267 := fun (h0_ : b 12 = true) (h1_ : b 17 = false) => (show w29.heap[gb267]? = some (.cells #[.string (⟨#[]⟩ : ByteArray), .slice none 0 0] 24 (0, 0)) from by first | exact (blk_below (g := gb267) (o := .cells #[.string (⟨#[]⟩ : ByteArray), .slice none 0 0] 24 (0, 0)) (by (with_reducible repeat (first | refine blk_drewN ?_ _ | refine blk_drew ?_ | refine blk_alloc ?_ _)); exact (Q_BK267 h0_ h1_)) hb))
         have z_BK269 := fun (h0_ : b 14 = true) (h1_ : b 19 = false) => (show w29.heap[gb269]? = some (.cells #[.string (⟨#[]⟩ : ByteArray), .slice none 0 0] 24 (0, 0)) from by first | exact (blk_below (g := gb269) (o := .cells #[.string (⟨#[]⟩ : ByteArray), .slice none 0 0] 24 (0, 0)) (by (with_reducible repeat (first | refine blk_drewN ?_ _ | refine blk_drew ?_ | refine blk_alloc ?_ _)); exact (Q_BK269 h0_ h1_)) hb))
         have z_BK270 := fun (h0_ : b 15 = true) (h1_ : b 20 = false) => (show w29.heap[gb270]? = some (.cells #[.string (⟨#[]⟩ : ByteArray), .slice none 0 0] 24 (0, 0)) from by first | exact (blk_below (g := gb270) (o := .cells #[.string (⟨#[]⟩ : ByteArray), .slice none 0 0] 24 (0, 0)) (by (with_reducible repeat (first | refine blk_drewN ?_ _ | refine blk_drew ?_ | refine blk_alloc ?_ _)); exact (Q_BK270 h0_ h1_)) hb))
         clear BK244
         clear HB
         have BK244 := n0_
         have HB := n1_
         have BK268 := n2_
         have GW268 := n3_
         have GE268 := n4_
         have NB244_268 := n5_
         have NB268_244 := n6_
         clear n0_ n1_ n2_ n3_ n4_ n5_ n6_
         clear hb hbox hg
         refine hK.out _ _ ⟨v248, v252, v256, v260, v264, gb266, gb267, gb268, gb269, gb270, m1_, m3_, m5_, m8_, m10_, m11_, m12_, (.pointer (some ⟨gb268, 0, none⟩)), m14_, m15_, (by rw [ha.out]; exact putSel_upk 12 hb_ rfl rfl rfl), (by (with_reducible repeat (first | refine blk_drewN ?_ _ | refine blk_drew ?_ | refine blk_alloc ?_ _)); exact BK244.out), (by repeat (first | (with_reducible first | exact HB.out | apply below_alloc | apply pw_below_drewN | apply below_drew1 | refine below_set ?_ GE244.out | refine below_set ?_ GE268.out) | exact HB.out)), Q_NB267_266, Q_NB266_267, z_NB268_266, z_NB266_268, Q_NB269_266, Q_NB266_269, Q_NB270_266, Q_NB266_270, z_NB268_267, z_NB267_268, Q_NB269_267, Q_NB267_269, Q_NB270_267, Q_NB267_270, z_NB269_268, z_NB268_269, z_NB270_268, z_NB268_270, Q_NB270_269, Q_NB269_270, z_HO249, z_HO253, z_HO257, z_HO261, z_HO265, z_BK266, Q_GW266, Q_GE266, Q_NB244_266, Q_NB266_244, z_BK267, Q_GW267, Q_GE267, Q_NB244_267, Q_NB267_244, fun _ _ => (by (with_reducible repeat (first | refine blk_drewN ?_ _ | refine blk_drew ?_ | refine blk_alloc ?_ _)); exact BK268.out), fun _ => GW268.out, fun _ => GE268.out, fun _ => NB244_268.out, fun _ => NB268_244.out, z_BK269, Q_GW269, Q_GE269, Q_NB244_269, Q_NB269_244, z_BK270, Q_GW270, Q_GE270, Q_NB244_270, Q_NB270_244, fun h0_ => absurd ((hoff 16 (by kernel_rfl)).symm.trans h0_) (by decide), fun h0_ => absurd ((hoff 17 (by kernel_rfl)).symm.trans h0_) (by decide), fun h0_ => absurd ((hoff 18 (by kernel_rfl)).symm.trans h0_) (by decide), fun h0_ => absurd ((hoff 19 (by kernel_rfl)).symm.trans h0_) (by decide), fun h0_ => absurd ((hoff 20 (by kernel_rfl)).symm.trans h0_) (by decide), Q_X1_, Q_X3_, Q_X5_, Q_X8_, Q_X10_, Q_X11_, Q_X12_, fun _ => rfl, Q_X14_, Q_X15_⟩
        refine steps_cons ?_ ?_
        ·
         rintro b a w' ⟨v248, v252, v256, v260, v264, gb266, gb267, gb268, gb269, gb270, m1_, m3_, m5_, m8_, m10_, m11_, m12_, m13_, m14_, m15_, hI_⟩ hb_ hon hoff
         have ha := hI_.ha; have Q_BK244 := hI_.Q_BK244; have Q_HB := hI_.Q_HB; have Q_NB267_266 := hI_.Q_NB267_266; have Q_NB266_267 := hI_.Q_NB266_267; have Q_NB268_266 := hI_.Q_NB268_266; have Q_NB266_268 := hI_.Q_NB266_268; have Q_NB269_266 := hI_.Q_NB269_266; have Q_NB266_269 := hI_.Q_NB266_269; have Q_NB270_266 := hI_.Q_NB270_266; have Q_NB266_270 := hI_.Q_NB266_270; have Q_NB268_267 := hI_.Q_NB268_267; have Q_NB267_268 := hI_.Q_NB267_268; have Q_NB269_267 := hI_.Q_NB269_267; have Q_NB267_269 := hI_.Q_NB267_269; have Q_NB270_267 := hI_.Q_NB270_267; have Q_NB267_270 := hI_.Q_NB267_270; have Q_NB269_268 := hI_.Q_NB269_268; have Q_NB268_269 := hI_.Q_NB268_269; have Q_NB270_268 := hI_.Q_NB270_268; have Q_NB268_270 := hI_.Q_NB268_270; have Q_NB270_269 := hI_.Q_NB270_269; have Q_NB269_270 := hI_.Q_NB269_270; have Q_HO249 := hI_.Q_HO249; have Q_HO253 := hI_.Q_HO253; have Q_HO257 := hI_.Q_HO257; have Q_HO261 := hI_.Q_HO261; have Q_HO265 := hI_.Q_HO265; have Q_BK266 := hI_.Q_BK266; have Q_GW266 := hI_.Q_GW266; have Q_GE266 := hI_.Q_GE266; have Q_NB244_266 := hI_.Q_NB244_266; have Q_NB266_244 := hI_.Q_NB266_244; have Q_BK267 := hI_.Q_BK267; have Q_GW267 := hI_.Q_GW267; have Q_GE267 := hI_.Q_GE267; have Q_NB244_267 := hI_.Q_NB244_267; have Q_NB267_244 := hI_.Q_NB267_244; have Q_BK268 := hI_.Q_BK268; have Q_GW268 := hI_.Q_GW268; have Q_GE268 := hI_.Q_GE268; have Q_NB244_268 := hI_.Q_NB244_268; have Q_NB268_244 := hI_.Q_NB268_244; have Q_BK269 := hI_.Q_BK269; have Q_GW269 := hI_.Q_GW269; have Q_GE269 := hI_.Q_GE269; have Q_NB244_269 := hI_.Q_NB244_269; have Q_NB269_244 := hI_.Q_NB269_244; have Q_BK270 := hI_.Q_BK270; have Q_GW270 := hI_.Q_GW270; have Q_GE270 := hI_.Q_GE270; have Q_NB244_270 := hI_.Q_NB244_270; have Q_NB270_244 := hI_.Q_NB270_244; have Q_BK266_e16 := hI_.Q_BK266_e16; have Q_BK267_e17 := hI_.Q_BK267_e17; have Q_BK268_e18 := hI_.Q_BK268_e18; have Q_BK269_e19 := hI_.Q_BK269_e19; have Q_BK270_e20 := hI_.Q_BK270_e20; have Q_X1_ := hI_.Q_X1_; have Q_X3_ := hI_.Q_X3_; have Q_X5_ := hI_.Q_X5_; have Q_X8_ := hI_.Q_X8_; have Q_X10_ := hI_.Q_X10_; have Q_X11_ := hI_.Q_X11_; have Q_X12_ := hI_.Q_X12_; have Q_X13_ := hI_.Q_X13_; have Q_X14_ := hI_.Q_X14_; have Q_X15_ := hI_.Q_X15_
         clear hI_
         refine ⟨_, rfl, fun K hK => ?_⟩
         replace ha := Aside0.mk ha
         have BK244 := Aside0.mk Q_BK244
         have HB := Aside0.mk Q_HB
         refine box_step ?hg (N := 8) ?hd (cs := #[.string (⟨#[]⟩ : ByteArray), .slice none 0 0]) (t := 24) ?hr ?_; (case hd => rfl); (case hg => rfl); (case hr => first | (go_simp; done) | (go_simp; rfl))
         intro gb269 hg w29 hbox hb
         have n0_ := Aside0.mk (blk_below (g := gb244) (o := .cells #[.string a0_0, .slice A0_1 l0_1.length c0_1] 24 (0, 0)) (by (with_reducible repeat (first | refine blk_drewN ?_ _ | refine blk_drew ?_ | refine blk_alloc ?_ _)); exact BK244.out) hb)
         have n1_ := Aside0.mk (below_step (by repeat (first | (with_reducible first | exact HB.out | apply below_alloc | apply pw_below_drewN | apply below_drew1 | refine below_set ?_ GE244.out) | exact HB.out)) hb)
         have n2_ := Aside0.mk (hbox)
         have n3_ := Aside0.mk ((by rw [hg]; exact (below_size (by repeat (first | (with_reducible first | exact HB.out | apply below_alloc | apply pw_below_drewN | apply below_drew1 | refine below_set ?_ GE244.out) | exact HB.out))) : w.heap.size ≤ gb269))
         have n4_ := Aside0.mk ((by rw [hg]; exact (below_size (by repeat (first | (with_reducible first | exact HB.out | apply below_alloc | apply pw_below_drewN | apply below_drew1 | refine below_set ?_ GE244.out) | exact HB.out))) : w.heap.size ≤ gb269))
         have n5_ := Aside0.mk ((by rw [hg]; exact Nat.ne_of_lt (blk_lt (g := gb244) (o := .cells #[.string a0_0, .slice A0_1 l0_1.length c0_1] 24 (0, 0)) (by (with_reducible repeat (first | refine blk_drewN ?_ _ | refine blk_drew ?_ | refine blk_alloc ?_ _)); exact BK244.out)) : gb244 ≠ gb269))
         have n6_ := Aside0.mk ((by rw [hg]; exact Nat.ne_of_gt (blk_lt (g := gb244) (o := .cells #[.string a0_0, .slice A0_1 l0_1.length c0_1] 24 (0, 0)) (by (with_reducible repeat (first | refine blk_drewN ?_ _ | refine blk_drew ?_ | refine blk_alloc ?_ _)); exact BK244.out)) : gb269 ≠ gb244))
         have z_NB269_266 := fun (h0_ : up b 14 11 = true) (h1_ : up b 14 14 = true) => (show gb269 ≠ gb266 from ((by rw [hg]; exact Nat.ne_of_gt (blk_lt (g := gb266) (o := .cells #[.string (⟨#[]⟩ : ByteArray), .slice none 0 0] 24 (0, 0)) (by (with_reducible repeat (first | refine blk_drewN ?_ _ | refine blk_drew ?_ | refine blk_alloc ?_ _)); exact (Q_BK266 ((up_ne (by decide)).symm.trans h0_) (hoff 16 (by kernel_rfl))))) : gb269 ≠ gb266)))
         have z_NB266_269 := fun (h0_ : up b 14 11 = true) (h1_ : up b 14 14 = true) => (show gb266 ≠ gb269 from ((by rw [hg]; exact Nat.ne_of_lt (blk_lt (g := gb266) (o := .cells #[.string (⟨#[]⟩ : ByteArray), .slice none 0 0] 24 (0, 0)) (by (with_reducible repeat (first | refine blk_drewN ?_ _ | refine blk_drew ?_ | refine blk_alloc ?_ _)); exact (Q_BK266 ((up_ne (by decide)).symm.trans h0_) (hoff 16 (by kernel_rfl))))) : gb266 ≠ gb269)))
         have z_NB269_267 := fun (h0_ : up b 14 12 = true) (h1_ : up b 14 14 = true) => (show gb269 ≠ gb267 from ((by rw [hg]; exact Nat.ne_of_gt (blk_lt (g := gb267) (o := .cells #[.string (⟨#[]⟩ : ByteArray), .slice none 0 0] 24 (0, 0)) (by (with_reducible repeat (first | refine blk_drewN ?_ _ | refine blk_drew ?_ | refine blk_alloc ?_ _)); exact (Q_BK267 ((up_ne (by decide)).symm.trans h0_) (hoff 17 (by kernel_rfl))))) : gb269 ≠ gb267)))
         have z_NB267_269 := fun (h0_ : up b 14 12 = true) (h1_ : up b 14 14 = true) => (show gb267 ≠ gb269 from ((by rw [hg]; exact Nat.ne_of_lt (blk_lt (g := gb267) (o := .cells #[.string (⟨#[]⟩ : ByteArray), .slice none 0 0] 24 (0, 0)) (by (with_reducible repeat (first | refine blk_drewN ?_ _ | refine blk_drew ?_ | refine blk_alloc ?_ _)); exact (Q_BK267 ((up_ne (by decide)).symm.trans h0_) (hoff 17 (by kernel_rfl))))) : gb267 ≠ gb269)))
         have z_NB269_268 := fun (h0_ : up b 14 13 = true) (h1_ : up b 14 14 = true) => (show gb269 ≠ gb268 from ((by rw [hg]; exact Nat.ne_of_gt (blk_lt (g := gb268) (o := .cells #[.string (⟨#[]⟩ : ByteArray), .slice none 0 0] 24 (0, 0)) (by (with_reducible repeat (first | refine blk_drewN ?_ _ | refine blk_drew ?_ | refine blk_alloc ?_ _)); exact (Q_BK268 ((up_ne (by decide)).symm.trans h0_) (hoff 18 (by kernel_rfl))))) : gb269 ≠ gb268)))
         have z_NB268_269 := fun (h0_ : up b 14 13 = true) (h1_ : up b 14 14 = true) => (show gb268 ≠ gb269 from ((by rw [hg]; exact Nat.ne_of_lt (blk_lt (g := gb268) (o := .cells #[.string (⟨#[]⟩ : ByteArray), .slice none 0 0] 24 (0, 0)) (by (with_reducible repeat (first | refine blk_drewN ?_ _ | refine blk_drew ?_ | refine blk_alloc ?_ _)); exact (Q_BK268 ((up_ne (by decide)).symm.trans h0_) (hoff 18 (by kernel_rfl))))) : gb268 ≠ gb269)))
         have z_NB270_269 := fun (h0_ : up b 14 14 = true) (h1_ : up b 14 15 = true) => (show gb270 ≠ gb269 from ((by rw [hg]; exact Nat.ne_of_lt (blk_lt (g := gb270) (o := .cells #[.string (⟨#[]⟩ : ByteArray), .slice none 0 0] 24 (0, 0)) (by (with_reducible repeat (first | refine blk_drewN ?_ _ | refine blk_drew ?_ | refine blk_alloc ?_ _)); exact (Q_BK270 ((up_ne (by decide)).symm.trans h1_) (hoff 20 (by kernel_rfl))))) : gb270 ≠ gb269)))
         have z_NB269_270 := fun (h0_ : up b 14 14 = true) (h1_ : up b 14 15 = true) => (show gb269 ≠ gb270 from ((by rw [hg]; exact Nat.ne_of_gt (blk_lt (g := gb270) (o := .cells #[.string (⟨#[]⟩ : ByteArray), .slice none 0 0] 24 (0, 0)) (by (with_reducible repeat (first | refine blk_drewN ?_ _ | refine blk_drew ?_ | refine blk_alloc ?_ _)); exact (Q_BK270 ((up_ne (by decide)).symm.trans h1_) (hoff 20 (by kernel_rfl))))) : gb269 ≠ gb270)))
         have z_HO249 := fun (h0_ : b 1 = true) => (show Kd.R k85 85 w29 w.heap.size (fun _ => True) v248 t247 from by first | exact (Kd.R_below (by (with_reducible repeat (first | apply Kd.R_alloc | apply Kd.R_drewN | apply Kd.R_drew)); exact (Q_HO249 h0_)) hb) | exact Kd.R_mono (Kd.R_below (by (with_reducible repeat (first | apply Kd.R_alloc | apply Kd.R_drewN | apply Kd.R_drew)); exact (Q_HO249 h0_)) hb) (fun _ h_ => by first | trivial | exact h_ | exact h_.1))
         have z_HO253 := fun (h0_ : b 3 = true) => (show Kd.R k85 85 w29 w.heap.size (fun _ => True) v252 t251 from by first | exact (Kd.R_below (by (with_reducible repeat (first | apply Kd.R_alloc | apply Kd.R_drewN | apply Kd.R_drew)); exact (Q_HO253 h0_)) hb) | exact Kd.R_mono (Kd.R_below (by (with_reducible repeat (first | apply Kd.R_alloc | apply Kd.R_drewN | apply Kd.R_drew)); exact (Q_HO253 h0_)) hb) (fun _ h_ => by first | trivial | exact h_ | exact h_.1))
         have z_HO257 := fun (h0_ : b 5 = true) => (show Kd.R k85 85 w29 w.heap.size (fun _ => True) v256 t255 from by first | exact (Kd.R_below (by (with_reducible repeat (first | apply Kd.R_alloc | apply Kd.R_drewN | apply Kd.R_drew)); exact (Q_HO257 h0_)) hb) | exact Kd.R_mono (Kd.R_below (by (with_reducible repeat (first | apply Kd.R_alloc | apply Kd.R_drewN | apply Kd.R_drew)); exact (Q_HO257 h0_)) hb) (fun _ h_ => by first | trivial | exact h_ | exact h_.1))
         have z_HO261 := fun (h0_ : b 8 = true) => (show Kd.R k85 85 w29 w.heap.size (fun _ => True) v260 t259 from by first | exact (Kd.R_below (by (with_reducible repeat (first | apply Kd.R_alloc | apply Kd.R_drewN | apply Kd.R_drew)); exact (Q_HO261 h0_)) hb) | exact Kd.R_mono (Kd.R_below (by (with_reducible repeat (first | apply Kd.R_alloc | apply Kd.R_drewN | apply Kd.R_drew)); exact (Q_HO261 h0_)) hb) (fun _ h_ => by first | trivial | exact h_ | exact h_.1))
         have z_HO265 := fun (h0_ : b 10 = true) => (show Kd.R k85 85 w29 w.heap.size (fun _ => True) v264 t263 from by first | exact (Kd.R_below (by (with_reducible repeat (first | apply Kd.R_alloc | apply Kd.R_drewN | apply Kd.R_drew)); exact (Q_HO265 h0_)) hb) | exact Kd.R_mono (Kd.R_below (by (with_reducible repeat (first | apply Kd.R_alloc | apply Kd.R_drewN | apply Kd.R_drew)); exact (Q_HO265 h0_)) hb) (fun _ h_ => by first | trivial | exact h_ | exact h_.1))
         have z_BK266 := fun (h0_ : b 11 = true) (h1_ : b 16 = false) => (show w29.heap[gb266]? = some (.cells #[.string (⟨#[]⟩ : ByteArray), .slice none 0 0] 24 (0, 0)) from by first | exact (blk_below (g := gb266) (o := .cells #[.string (⟨#[]⟩ : ByteArray), .slice none 0 0] 24 (0, 0)) (by (with_reducible repeat (first | refine blk_drewN ?_ _ | refine blk_drew ?_ | refine blk_alloc ?_ _)); exact (Q_BK266 h0_ h1_)) hb))
         have z_BK267 := fun (h0_ : b 12 = true) (h1_ : b 17 = false) => (show w29.heap[gb267]? = some (.cells #[.string (⟨#[]⟩ : ByteArray), .slice none 0 0] 24 (0, 0)) from by first | exact (blk_below (g := gb267) (o := .cells #[.string (⟨#[]⟩ : ByteArray), .slice none 0 0] 24 (0, 0)) (by (with_reducible repeat (first | refine blk_drewN ?_ _ | refine blk_drew ?_ | refine blk_alloc ?_ _)); exact (Q_BK267 h0_ h1_)) hb))
         have z_BK268 := fun (h0_ : b 13 = true) (h1_ : b 18 = false) => (show w29.heap[gb268]? = some (.cells #[.string (⟨#[]⟩ : ByteArray), .slice none 0 0] 24 (0, 0)) from by first | exact (blk_below (g := gb268) (o := .cells #[.string (⟨#[]⟩ : ByteArray), .slice none 0 0] 24 (0, 0)) (by (with_reducible repeat (first | refine blk_drewN ?_ _ | refine blk_drew ?_ | refine blk_alloc ?_ _)); exact (Q_BK268 h0_ h1_)) hb))
         have z_BK270 := fun (h0_ : b 15 = true) (h1_ : b 20 = false) => (show w29.heap[gb270]? = some (.cells #[.string (⟨#[]⟩ : ByteArray), .slice none 0 0] 24 (0, 0)) from by first | exact (blk_below (g := gb270) (o := .cells #[.string (⟨#[]⟩ : ByteArray), .slice none 0 0] 24 (0, 0)) (by (with_reducible repeat (first | refine blk_drewN ?_ _ | refine blk_drew ?_ | refine blk_alloc ?_ _)); exact (Q_BK270 h0_ h1_)) hb))
         clear BK244
         clear HB
         have BK244 := n0_
         have HB := n1_
         have BK269 := n2_
         have GW269 := n3_
         have GE269 := n4_
         have NB244_269 := n5_
         have NB269_244 := n6_
         clear n0_ n1_ n2_ n3_ n4_ n5_ n6_
         clear hb hbox hg
         refine hK.out _ _ ⟨v248, v252, v256, v260, v264, gb266, gb267, gb268, gb269, gb270, m1_, m3_, m5_, m8_, m10_, m11_, m12_, m13_, (.pointer (some ⟨gb269, 0, none⟩)), m15_, (by rw [ha.out]; exact putSel_upk 13 hb_ rfl rfl rfl), (by (with_reducible repeat (first | refine blk_drewN ?_ _ | refine blk_drew ?_ | refine blk_alloc ?_ _)); exact BK244.out), (by repeat (first | (with_reducible first | exact HB.out | apply below_alloc | apply pw_below_drewN | apply below_drew1 | refine below_set ?_ GE244.out | refine below_set ?_ GE269.out) | exact HB.out)), Q_NB267_266, Q_NB266_267, Q_NB268_266, Q_NB266_268, z_NB269_266, z_NB266_269, Q_NB270_266, Q_NB266_270, Q_NB268_267, Q_NB267_268, z_NB269_267, z_NB267_269, Q_NB270_267, Q_NB267_270, z_NB269_268, z_NB268_269, Q_NB270_268, Q_NB268_270, z_NB270_269, z_NB269_270, z_HO249, z_HO253, z_HO257, z_HO261, z_HO265, z_BK266, Q_GW266, Q_GE266, Q_NB244_266, Q_NB266_244, z_BK267, Q_GW267, Q_GE267, Q_NB244_267, Q_NB267_244, z_BK268, Q_GW268, Q_GE268, Q_NB244_268, Q_NB268_244, fun _ _ => (by (with_reducible repeat (first | refine blk_drewN ?_ _ | refine blk_drew ?_ | refine blk_alloc ?_ _)); exact BK269.out), fun _ => GW269.out, fun _ => GE269.out, fun _ => NB244_269.out, fun _ => NB269_244.out, z_BK270, Q_GW270, Q_GE270, Q_NB244_270, Q_NB270_244, fun h0_ => absurd ((hoff 16 (by kernel_rfl)).symm.trans h0_) (by decide), fun h0_ => absurd ((hoff 17 (by kernel_rfl)).symm.trans h0_) (by decide), fun h0_ => absurd ((hoff 18 (by kernel_rfl)).symm.trans h0_) (by decide), fun h0_ => absurd ((hoff 19 (by kernel_rfl)).symm.trans h0_) (by decide), fun h0_ => absurd ((hoff 20 (by kernel_rfl)).symm.trans h0_) (by decide), Q_X1_, Q_X3_, Q_X5_, Q_X8_, Q_X10_, Q_X11_, Q_X12_, Q_X13_, fun _ => rfl, Q_X15_⟩
        refine steps_cons ?_ ?_
        ·
         rintro b a w' ⟨v248, v252, v256, v260, v264, gb266, gb267, gb268, gb269, gb270, m1_, m3_, m5_, m8_, m10_, m11_, m12_, m13_, m14_, m15_, hI_⟩ hb_ hon hoff
         have ha := hI_.ha; have Q_BK244 := hI_.Q_BK244; have Q_HB := hI_.Q_HB; have Q_NB267_266 := hI_.Q_NB267_266; have Q_NB266_267 := hI_.Q_NB266_267; have Q_NB268_266 := hI_.Q_NB268_266; have Q_NB266_268 := hI_.Q_NB266_268; have Q_NB269_266 := hI_.Q_NB269_266; have Q_NB266_269 := hI_.Q_NB266_269; have Q_NB270_266 := hI_.Q_NB270_266; have Q_NB266_270 := hI_.Q_NB266_270; have Q_NB268_267 := hI_.Q_NB268_267; have Q_NB267_268 := hI_.Q_NB267_268; have Q_NB269_267 := hI_.Q_NB269_267; have Q_NB267_269 := hI_.Q_NB267_269; have Q_NB270_267 := hI_.Q_NB270_267; have Q_NB267_270 := hI_.Q_NB267_270; have Q_NB269_268 := hI_.Q_NB269_268; have Q_NB268_269 := hI_.Q_NB268_269; have Q_NB270_268 := hI_.Q_NB270_268; have Q_NB268_270 := hI_.Q_NB268_270; have Q_NB270_269 := hI_.Q_NB270_269; have Q_NB269_270 := hI_.Q_NB269_270; have Q_HO249 := hI_.Q_HO249; have Q_HO253 := hI_.Q_HO253; have Q_HO257 := hI_.Q_HO257; have Q_HO261 := hI_.Q_HO261; have Q_HO265 := hI_.Q_HO265; have Q_BK266 := hI_.Q_BK266; have Q_GW266 := hI_.Q_GW266; have Q_GE266 := hI_.Q_GE266; have Q_NB244_266 := hI_.Q_NB244_266; have Q_NB266_244 := hI_.Q_NB266_244; have Q_BK267 := hI_.Q_BK267; have Q_GW267 := hI_.Q_GW267; have Q_GE267 := hI_.Q_GE267; have Q_NB244_267 := hI_.Q_NB244_267; have Q_NB267_244 := hI_.Q_NB267_244; have Q_BK268 := hI_.Q_BK268; have Q_GW268 := hI_.Q_GW268; have Q_GE268 := hI_.Q_GE268; have Q_NB244_268 := hI_.Q_NB244_268; have Q_NB268_244 := hI_.Q_NB268_244; have Q_BK269 := hI_.Q_BK269; have Q_GW269 := hI_.Q_GW269; have Q_GE269 := hI_.Q_GE269; have Q_NB244_269 := hI_.Q_NB244_269; have Q_NB269_244 := hI_.Q_NB269_244; have Q_BK270 := hI_.Q_BK270; have Q_GW270 := hI_.Q_GW270; have Q_GE270 := hI_.Q_GE270; have Q_NB244_270 := hI_.Q_NB244_270; have Q_NB270_244 := hI_.Q_NB270_244; have Q_BK266_e16 := hI_.Q_BK266_e16; have Q_BK267_e17 := hI_.Q_BK267_e17; have Q_BK268_e18 := hI_.Q_BK268_e18; have Q_BK269_e19 := hI_.Q_BK269_e19; have Q_BK270_e20 := hI_.Q_BK270_e20; have Q_X1_ := hI_.Q_X1_; have Q_X3_ := hI_.Q_X3_; have Q_X5_ := hI_.Q_X5_; have Q_X8_ := hI_.Q_X8_; have Q_X10_ := hI_.Q_X10_; have Q_X11_ := hI_.Q_X11_; have Q_X12_ := hI_.Q_X12_; have Q_X13_ := hI_.Q_X13_; have Q_X14_ := hI_.Q_X14_; have Q_X15_ := hI_.Q_X15_
         clear hI_
         refine ⟨_, rfl, fun K hK => ?_⟩
         replace ha := Aside0.mk ha
         have BK244 := Aside0.mk Q_BK244
         have HB := Aside0.mk Q_HB
         refine box_step ?hg (N := 9) ?hd (cs := #[.string (⟨#[]⟩ : ByteArray), .slice none 0 0]) (t := 24) ?hr ?_; (case hd => rfl); (case hg => rfl); (case hr => first | (go_simp; done) | (go_simp; rfl))
         intro gb270 hg w29 hbox hb
         have n0_ := Aside0.mk (blk_below (g := gb244) (o := .cells #[.string a0_0, .slice A0_1 l0_1.length c0_1] 24 (0, 0)) (by (with_reducible repeat (first | refine blk_drewN ?_ _ | refine blk_drew ?_ | refine blk_alloc ?_ _)); exact BK244.out) hb)
         have n1_ := Aside0.mk (below_step (by repeat (first | (with_reducible first | exact HB.out | apply below_alloc | apply pw_below_drewN | apply below_drew1 | refine below_set ?_ GE244.out) | exact HB.out)) hb)
         have n2_ := Aside0.mk (hbox)
         have n3_ := Aside0.mk ((by rw [hg]; exact (below_size (by repeat (first | (with_reducible first | exact HB.out | apply below_alloc | apply pw_below_drewN | apply below_drew1 | refine below_set ?_ GE244.out) | exact HB.out))) : w.heap.size ≤ gb270))
         have n4_ := Aside0.mk ((by rw [hg]; exact (below_size (by repeat (first | (with_reducible first | exact HB.out | apply below_alloc | apply pw_below_drewN | apply below_drew1 | refine below_set ?_ GE244.out) | exact HB.out))) : w.heap.size ≤ gb270))
         have n5_ := Aside0.mk ((by rw [hg]; exact Nat.ne_of_lt (blk_lt (g := gb244) (o := .cells #[.string a0_0, .slice A0_1 l0_1.length c0_1] 24 (0, 0)) (by (with_reducible repeat (first | refine blk_drewN ?_ _ | refine blk_drew ?_ | refine blk_alloc ?_ _)); exact BK244.out)) : gb244 ≠ gb270))
         have n6_ := Aside0.mk ((by rw [hg]; exact Nat.ne_of_gt (blk_lt (g := gb244) (o := .cells #[.string a0_0, .slice A0_1 l0_1.length c0_1] 24 (0, 0)) (by (with_reducible repeat (first | refine blk_drewN ?_ _ | refine blk_drew ?_ | refine blk_alloc ?_ _)); exact BK244.out)) : gb270 ≠ gb244))
         have z_NB270_266 := fun (h0_ : up b 15 11 = true) (h1_ : up b 15 15 = true) => (show gb270 ≠ gb266 from ((by rw [hg]; exact Nat.ne_of_gt (blk_lt (g := gb266) (o := .cells #[.string (⟨#[]⟩ : ByteArray), .slice none 0 0] 24 (0, 0)) (by (with_reducible repeat (first | refine blk_drewN ?_ _ | refine blk_drew ?_ | refine blk_alloc ?_ _)); exact (Q_BK266 ((up_ne (by decide)).symm.trans h0_) (hoff 16 (by kernel_rfl))))) : gb270 ≠ gb266)))
         have z_NB266_270 := fun (h0_ : up b 15 11 = true) (h1_ : up b 15 15 = true) => (show gb266 ≠ gb270 from ((by rw [hg]; exact Nat.ne_of_lt (blk_lt (g := gb266) (o := .cells #[.string (⟨#[]⟩ : ByteArray), .slice none 0 0] 24 (0, 0)) (by (with_reducible repeat (first | refine blk_drewN ?_ _ | refine blk_drew ?_ | refine blk_alloc ?_ _)); exact (Q_BK266 ((up_ne (by decide)).symm.trans h0_) (hoff 16 (by kernel_rfl))))) : gb266 ≠ gb270)))
         have z_NB270_267 := fun (h0_ : up b 15 12 = true) (h1_ : up b 15 15 = true) => (show gb270 ≠ gb267 from ((by rw [hg]; exact Nat.ne_of_gt (blk_lt (g := gb267) (o := .cells #[.string (⟨#[]⟩ : ByteArray), .slice none 0 0] 24 (0, 0)) (by (with_reducible repeat (first | refine blk_drewN ?_ _ | refine blk_drew ?_ | refine blk_alloc ?_ _)); exact (Q_BK267 ((up_ne (by decide)).symm.trans h0_) (hoff 17 (by kernel_rfl))))) : gb270 ≠ gb267)))
         have z_NB267_270 := fun (h0_ : up b 15 12 = true) (h1_ : up b 15 15 = true) => (show gb267 ≠ gb270 from ((by rw [hg]; exact Nat.ne_of_lt (blk_lt (g := gb267) (o := .cells #[.string (⟨#[]⟩ : ByteArray), .slice none 0 0] 24 (0, 0)) (by (with_reducible repeat (first | refine blk_drewN ?_ _ | refine blk_drew ?_ | refine blk_alloc ?_ _)); exact (Q_BK267 ((up_ne (by decide)).symm.trans h0_) (hoff 17 (by kernel_rfl))))) : gb267 ≠ gb270)))
         have z_NB270_268 := fun (h0_ : up b 15 13 = true) (h1_ : up b 15 15 = true) => (show gb270 ≠ gb268 from ((by rw [hg]; exact Nat.ne_of_gt (blk_lt (g := gb268) (o := .cells #[.string (⟨#[]⟩ : ByteArray), .slice none 0 0] 24 (0, 0)) (by (with_reducible repeat (first | refine blk_drewN ?_ _ | refine blk_drew ?_ | refine blk_alloc ?_ _)); exact (Q_BK268 ((up_ne (by decide)).symm.trans h0_) (hoff 18 (by kernel_rfl))))) : gb270 ≠ gb268)))
         have z_NB268_270 := fun (h0_ : up b 15 13 = true) (h1_ : up b 15 15 = true) => (show gb268 ≠ gb270 from ((by rw [hg]; exact Nat.ne_of_lt (blk_lt (g := gb268) (o := .cells #[.string (⟨#[]⟩ : ByteArray), .slice none 0 0] 24 (0, 0)) (by (with_reducible repeat (first | refine blk_drewN ?_ _ | refine blk_drew ?_ | refine blk_alloc ?_ _)); exact (Q_BK268 ((up_ne (by decide)).symm.trans h0_) (hoff 18 (by kernel_rfl))))) : gb268 ≠ gb270)))
         have z_NB270_269 := fun (h0_ : up b 15 14 = true) (h1_ : up b 15 15 = true) => (show gb270 ≠ gb269 from ((by rw [hg]; exact Nat.ne_of_gt (blk_lt (g := gb269) (o := .cells #[.string (⟨#[]⟩ : ByteArray), .slice none 0 0] 24 (0, 0)) (by (with_reducible repeat (first | refine blk_drewN ?_ _ | refine blk_drew ?_ | refine blk_alloc ?_ _)); exact (Q_BK269 ((up_ne (by decide)).symm.trans h0_) (hoff 19 (by kernel_rfl))))) : gb270 ≠ gb269)))
         have z_NB269_270 := fun (h0_ : up b 15 14 = true) (h1_ : up b 15 15 = true) => (show gb269 ≠ gb270 from ((by rw [hg]; exact Nat.ne_of_lt (blk_lt (g := gb269) (o := .cells #[.string (⟨#[]⟩ : ByteArray), .slice none 0 0] 24 (0, 0)) (by (with_reducible repeat (first | refine blk_drewN ?_ _ | refine blk_drew ?_ | refine blk_alloc ?_ _)); exact (Q_BK269 ((up_ne (by decide)).symm.trans h0_) (hoff 19 (by kernel_rfl))))) : gb269 ≠ gb270)))
         have z_HO249 := fun (h0_ : b 1 = true) => (show Kd.R k85 85 w29 w.heap.size (fun _ => True) v248 t247 from by first | exact (Kd.R_below (by (with_reducible repeat (first | apply Kd.R_alloc | apply Kd.R_drewN | apply Kd.R_drew)); exact (Q_HO249 h0_)) hb) | exact Kd.R_mono (Kd.R_below (by (with_reducible repeat (first | apply Kd.R_alloc | apply Kd.R_drewN | apply Kd.R_drew)); exact (Q_HO249 h0_)) hb) (fun _ h_ => by first | trivial | exact h_ | exact h_.1))
         have z_HO253 := fun (h0_ : b 3 = true) => (show Kd.R k85 85 w29 w.heap.size (fun _ => True) v252 t251 from by first | exact (Kd.R_below (by (with_reducible repeat (first | apply Kd.R_alloc | apply Kd.R_drewN | apply Kd.R_drew)); exact (Q_HO253 h0_)) hb) | exact Kd.R_mono (Kd.R_below (by (with_reducible repeat (first | apply Kd.R_alloc | apply Kd.R_drewN | apply Kd.R_drew)); exact (Q_HO253 h0_)) hb) (fun _ h_ => by first | trivial | exact h_ | exact h_.1))
         have z_HO257 := fun (h0_ : b 5 = true) => (show Kd.R k85 85 w29 w.heap.size (fun _ => True) v256 t255 from by first | exact (Kd.R_below (by (with_reducible repeat (first | apply Kd.R_alloc | apply Kd.R_drewN | apply Kd.R_drew)); exact (Q_HO257 h0_)) hb) | exact Kd.R_mono (Kd.R_below (by (with_reducible repeat (first | apply Kd.R_alloc | apply Kd.R_drewN | apply Kd.R_drew)); exact (Q_HO257 h0_)) hb) (fun _ h_ => by first | trivial | exact h_ | exact h_.1))
         have z_HO261 := fun (h0_ : b 8 = true) => (show Kd.R k85 85 w29 w.heap.size (fun _ => True) v260 t259 from by first | exact (Kd.R_below (by (with_reducible repeat (first | apply Kd.R_alloc | apply Kd.R_drewN | apply Kd.R_drew)); exact (Q_HO261 h0_)) hb) | exact Kd.R_mono (Kd.R_below (by (with_reducible repeat (first | apply Kd.R_alloc | apply Kd.R_drewN | apply Kd.R_drew)); exact (Q_HO261 h0_)) hb) (fun _ h_ => by first | trivial | exact h_ | exact h_.1))
         have z_HO265 := fun (h0_ : b 10 = true) => (show Kd.R k85 85 w29 w.heap.size (fun _ => True) v264 t263 from by first | exact (Kd.R_below (by (with_reducible repeat (first | apply Kd.R_alloc | apply Kd.R_drewN | apply Kd.R_drew)); exact (Q_HO265 h0_)) hb) | exact Kd.R_mono (Kd.R_below (by (with_reducible repeat (first | apply Kd.R_alloc | apply Kd.R_drewN | apply Kd.R_drew)); exact (Q_HO265 h0_)) hb) (fun _ h_ => by first | trivial | exact h_ | exact h_.1))
         have z_BK266 := fun (h0_ : b 11 = true) (h1_ : b 16 = false) => (show w29.heap[gb266]? = some (.cells #[.string (⟨#[]⟩ : ByteArray), .slice none 0 0] 24 (0, 0)) from by first | exact (blk_below (g := gb266) (o := .cells #[.string (⟨#[]⟩ : ByteArray), .slice none 0 0] 24 (0, 0)) (by (with_reducible repeat (first | refine blk_drewN ?_ _ | refine blk_drew ?_ | refine blk_alloc ?_ _)); exact (Q_BK266 h0_ h1_)) hb))
         have z_BK267 := fun (h0_ : b 12 = true) (h1_ : b 17 = false) => (show w29.heap[gb267]? = some (.cells #[.string (⟨#[]⟩ : ByteArray), .slice none 0 0] 24 (0, 0)) from by first | exact (blk_below (g := gb267) (o := .cells #[.string (⟨#[]⟩ : ByteArray), .slice none 0 0] 24 (0, 0)) (by (with_reducible repeat (first | refine blk_drewN ?_ _ | refine blk_drew ?_ | refine blk_alloc ?_ _)); exact (Q_BK267 h0_ h1_)) hb))
         have z_BK268 := fun (h0_ : b 13 = true) (h1_ : b 18 = false) => (show w29.heap[gb268]? = some (.cells #[.string (⟨#[]⟩ : ByteArray), .slice none 0 0] 24 (0, 0)) from by first | exact (blk_below (g := gb268) (o := .cells #[.string (⟨#[]⟩ : ByteArray), .slice none 0 0] 24 (0, 0)) (by (with_reducible repeat (first | refine blk_drewN ?_ _ | refine blk_drew ?_ | refine blk_alloc ?_ _)); exact (Q_BK268 h0_ h1_)) hb))
         have z_BK269 := fun (h0_ : b 14 = true) (h1_ : b 19 = false) => (show w29.heap[gb269]? = some (.cells #[.string (⟨#[]⟩ : ByteArray), .slice none 0 0] 24 (0, 0)) from by first | exact (blk_below (g := gb269) (o := .cells #[.string (⟨#[]⟩ : ByteArray), .slice none 0 0] 24 (0, 0)) (by (with_reducible repeat (first | refine blk_drewN ?_ _ | refine blk_drew ?_ | refine blk_alloc ?_ _)); exact (Q_BK269 h0_ h1_)) hb))
         clear BK244
         clear HB
         have BK244 := n0_
         have HB := n1_
         have BK270 := n2_
         have GW270 := n3_
         have GE270 := n4_
         have NB244_270 := n5_
         have NB270_244 := n6_
         clear n0_ n1_ n2_ n3_ n4_ n5_ n6_
         clear hb hbox hg
         refine hK.out _ _ ⟨v248, v252, v256, v260, v264, gb266, gb267, gb268, gb269, gb270, m1_, m3_, m5_, m8_, m10_, m11_, m12_, m13_, m14_, (.pointer (some ⟨gb270, 0, none⟩)), (by rw [ha.out]; exact putSel_upk 14 hb_ rfl rfl rfl), (by (with_reducible repeat (first | refine blk_drewN ?_ _ | refine blk_drew ?_ | refine blk_alloc ?_ _)); exact BK244.out), (by repeat (first | (with_reducible first | exact HB.out | apply below_alloc | apply pw_below_drewN | apply below_drew1 | refine below_set ?_ GE244.out | refine below_set ?_ GE270.out) | exact HB.out)), Q_NB267_266, Q_NB266_267, Q_NB268_266, Q_NB266_268, Q_NB269_266, Q_NB266_269, z_NB270_266, z_NB266_270, Q_NB268_267, Q_NB267_268, Q_NB269_267, Q_NB267_269, z_NB270_267, z_NB267_270, Q_NB269_268, Q_NB268_269, z_NB270_268, z_NB268_270, z_NB270_269, z_NB269_270, z_HO249, z_HO253, z_HO257, z_HO261, z_HO265, z_BK266, Q_GW266, Q_GE266, Q_NB244_266, Q_NB266_244, z_BK267, Q_GW267, Q_GE267, Q_NB244_267, Q_NB267_244, z_BK268, Q_GW268, Q_GE268, Q_NB244_268, Q_NB268_244, z_BK269, Q_GW269, Q_GE269, Q_NB244_269, Q_NB269_244, fun _ _ => (by (with_reducible repeat (first | refine blk_drewN ?_ _ | refine blk_drew ?_ | refine blk_alloc ?_ _)); exact BK270.out), fun _ => GW270.out, fun _ => GE270.out, fun _ => NB244_270.out, fun _ => NB270_244.out, fun h0_ => absurd ((hoff 16 (by kernel_rfl)).symm.trans h0_) (by decide), fun h0_ => absurd ((hoff 17 (by kernel_rfl)).symm.trans h0_) (by decide), fun h0_ => absurd ((hoff 18 (by kernel_rfl)).symm.trans h0_) (by decide), fun h0_ => absurd ((hoff 19 (by kernel_rfl)).symm.trans h0_) (by decide), fun h0_ => absurd ((hoff 20 (by kernel_rfl)).symm.trans h0_) (by decide), Q_X1_, Q_X3_, Q_X5_, Q_X8_, Q_X10_, Q_X11_, Q_X12_, Q_X13_, Q_X14_, fun _ => rfl⟩
        refine steps_cons ?_ ?_
        ·
         rintro b a w' ⟨v248, v252, v256, v260, v264, gb266, gb267, gb268, gb269, gb270, m1_, m3_, m5_, m8_, m10_, m11_, m12_, m13_, m14_, m15_, hI_⟩ hb_ hon hoff
         have ha := hI_.ha; have Q_BK244 := hI_.Q_BK244; have Q_HB := hI_.Q_HB; have Q_NB267_266 := hI_.Q_NB267_266; have Q_NB266_267 := hI_.Q_NB266_267; have Q_NB268_266 := hI_.Q_NB268_266; have Q_NB266_268 := hI_.Q_NB266_268; have Q_NB269_266 := hI_.Q_NB269_266; have Q_NB266_269 := hI_.Q_NB266_269; have Q_NB270_266 := hI_.Q_NB270_266; have Q_NB266_270 := hI_.Q_NB266_270; have Q_NB268_267 := hI_.Q_NB268_267; have Q_NB267_268 := hI_.Q_NB267_268; have Q_NB269_267 := hI_.Q_NB269_267; have Q_NB267_269 := hI_.Q_NB267_269; have Q_NB270_267 := hI_.Q_NB270_267; have Q_NB267_270 := hI_.Q_NB267_270; have Q_NB269_268 := hI_.Q_NB269_268; have Q_NB268_269 := hI_.Q_NB268_269; have Q_NB270_268 := hI_.Q_NB270_268; have Q_NB268_270 := hI_.Q_NB268_270; have Q_NB270_269 := hI_.Q_NB270_269; have Q_NB269_270 := hI_.Q_NB269_270; have Q_HO249 := hI_.Q_HO249; have Q_HO253 := hI_.Q_HO253; have Q_HO257 := hI_.Q_HO257; have Q_HO261 := hI_.Q_HO261; have Q_HO265 := hI_.Q_HO265; have Q_BK266 := hI_.Q_BK266; have Q_GW266 := hI_.Q_GW266; have Q_GE266 := hI_.Q_GE266; have Q_NB244_266 := hI_.Q_NB244_266; have Q_NB266_244 := hI_.Q_NB266_244; have Q_BK267 := hI_.Q_BK267; have Q_GW267 := hI_.Q_GW267; have Q_GE267 := hI_.Q_GE267; have Q_NB244_267 := hI_.Q_NB244_267; have Q_NB267_244 := hI_.Q_NB267_244; have Q_BK268 := hI_.Q_BK268; have Q_GW268 := hI_.Q_GW268; have Q_GE268 := hI_.Q_GE268; have Q_NB244_268 := hI_.Q_NB244_268; have Q_NB268_244 := hI_.Q_NB268_244; have Q_BK269 := hI_.Q_BK269; have Q_GW269 := hI_.Q_GW269; have Q_GE269 := hI_.Q_GE269; have Q_NB244_269 := hI_.Q_NB244_269; have Q_NB269_244 := hI_.Q_NB269_244; have Q_BK270 := hI_.Q_BK270; have Q_GW270 := hI_.Q_GW270; have Q_GE270 := hI_.Q_GE270; have Q_NB244_270 := hI_.Q_NB244_270; have Q_NB270_244 := hI_.Q_NB270_244; have Q_BK266_e16 := hI_.Q_BK266_e16; have Q_BK267_e17 := hI_.Q_BK267_e17; have Q_BK268_e18 := hI_.Q_BK268_e18; have Q_BK269_e19 := hI_.Q_BK269_e19; have Q_BK270_e20 := hI_.Q_BK270_e20; have Q_X1_ := hI_.Q_X1_; have Q_X3_ := hI_.Q_X3_; have Q_X5_ := hI_.Q_X5_; have Q_X8_ := hI_.Q_X8_; have Q_X10_ := hI_.Q_X10_; have Q_X11_ := hI_.Q_X11_; have Q_X12_ := hI_.Q_X12_; have Q_X13_ := hI_.Q_X13_; have Q_X14_ := hI_.Q_X14_; have Q_X15_ := hI_.Q_X15_
         clear hI_
         refine ⟨_, rfl, fun K hK => ?_⟩
         have e5 : a.tmps[5]? = some (m11_) := by rw [ha]; exact putSel_on (e := (11, 5, m11_)) 10 rfl rfl (hon 11 (by kernel_rfl)) rfl
         rw [Q_X11_ (hon 11 (by kernel_rfl))] at e5
         have e13 : a.tmps[13]? = some (m1_) := by rw [ha]; exact putSel_on (e := (1, 13, m1_)) 1 rfl rfl (hon 1 (by kernel_rfl)) rfl
         rw [Q_X1_ (hon 1 (by kernel_rfl))] at e13
         replace ha := Aside0.mk ha
         have BK244 := Aside0.mk Q_BK244
         have HB := Aside0.mk Q_HB
         have NB267_266 := Aside0.mk (Q_NB267_266 (hon 11 (by kernel_rfl)) (hon 12 (by kernel_rfl)))
         have NB266_267 := Aside0.mk (Q_NB266_267 (hon 11 (by kernel_rfl)) (hon 12 (by kernel_rfl)))
         have NB268_266 := Aside0.mk (Q_NB268_266 (hon 11 (by kernel_rfl)) (hon 13 (by kernel_rfl)))
         have NB266_268 := Aside0.mk (Q_NB266_268 (hon 11 (by kernel_rfl)) (hon 13 (by kernel_rfl)))
         have NB269_266 := Aside0.mk (Q_NB269_266 (hon 11 (by kernel_rfl)) (hon 14 (by kernel_rfl)))
         have NB266_269 := Aside0.mk (Q_NB266_269 (hon 11 (by kernel_rfl)) (hon 14 (by kernel_rfl)))
         have NB270_266 := Aside0.mk (Q_NB270_266 (hon 11 (by kernel_rfl)) (hon 15 (by kernel_rfl)))
         have NB266_270 := Aside0.mk (Q_NB266_270 (hon 11 (by kernel_rfl)) (hon 15 (by kernel_rfl)))
         have NB268_267 := Aside0.mk (Q_NB268_267 (hon 12 (by kernel_rfl)) (hon 13 (by kernel_rfl)))
         have NB267_268 := Aside0.mk (Q_NB267_268 (hon 12 (by kernel_rfl)) (hon 13 (by kernel_rfl)))
         have NB269_267 := Aside0.mk (Q_NB269_267 (hon 12 (by kernel_rfl)) (hon 14 (by kernel_rfl)))
         have NB267_269 := Aside0.mk (Q_NB267_269 (hon 12 (by kernel_rfl)) (hon 14 (by kernel_rfl)))
         have NB270_267 := Aside0.mk (Q_NB270_267 (hon 12 (by kernel_rfl)) (hon 15 (by kernel_rfl)))
         have NB267_270 := Aside0.mk (Q_NB267_270 (hon 12 (by kernel_rfl)) (hon 15 (by kernel_rfl)))
         have NB269_268 := Aside0.mk (Q_NB269_268 (hon 13 (by kernel_rfl)) (hon 14 (by kernel_rfl)))
         have NB268_269 := Aside0.mk (Q_NB268_269 (hon 13 (by kernel_rfl)) (hon 14 (by kernel_rfl)))
         have NB270_268 := Aside0.mk (Q_NB270_268 (hon 13 (by kernel_rfl)) (hon 15 (by kernel_rfl)))
         have NB268_270 := Aside0.mk (Q_NB268_270 (hon 13 (by kernel_rfl)) (hon 15 (by kernel_rfl)))
         have NB270_269 := Aside0.mk (Q_NB270_269 (hon 14 (by kernel_rfl)) (hon 15 (by kernel_rfl)))
         have NB269_270 := Aside0.mk (Q_NB269_270 (hon 14 (by kernel_rfl)) (hon 15 (by kernel_rfl)))
         have HO249 := Aside0.mk (Q_HO249 (hon 1 (by kernel_rfl)))
         have HO253 := Aside0.mk (Q_HO253 (hon 3 (by kernel_rfl)))
         have HO257 := Aside0.mk (Q_HO257 (hon 5 (by kernel_rfl)))
         have HO261 := Aside0.mk (Q_HO261 (hon 8 (by kernel_rfl)))
         have HO265 := Aside0.mk (Q_HO265 (hon 10 (by kernel_rfl)))
         have BK266 := Aside0.mk (Q_BK266 (hon 11 (by kernel_rfl)) hb_)
         have GW266 := Aside0.mk (Q_GW266 (hon 11 (by kernel_rfl)))
         have GE266 := Aside0.mk (Q_GE266 (hon 11 (by kernel_rfl)))
         have NB244_266 := Aside0.mk (Q_NB244_266 (hon 11 (by kernel_rfl)))
         have NB266_244 := Aside0.mk (Q_NB266_244 (hon 11 (by kernel_rfl)))
         have BK267 := Aside0.mk (Q_BK267 (hon 12 (by kernel_rfl)) (hoff 17 (by kernel_rfl)))
         have GW267 := Aside0.mk (Q_GW267 (hon 12 (by kernel_rfl)))
         have GE267 := Aside0.mk (Q_GE267 (hon 12 (by kernel_rfl)))
         have NB244_267 := Aside0.mk (Q_NB244_267 (hon 12 (by kernel_rfl)))
         have NB267_244 := Aside0.mk (Q_NB267_244 (hon 12 (by kernel_rfl)))
         have BK268 := Aside0.mk (Q_BK268 (hon 13 (by kernel_rfl)) (hoff 18 (by kernel_rfl)))
         have GW268 := Aside0.mk (Q_GW268 (hon 13 (by kernel_rfl)))
         have GE268 := Aside0.mk (Q_GE268 (hon 13 (by kernel_rfl)))
         have NB244_268 := Aside0.mk (Q_NB244_268 (hon 13 (by kernel_rfl)))
         have NB268_244 := Aside0.mk (Q_NB268_244 (hon 13 (by kernel_rfl)))
         have BK269 := Aside0.mk (Q_BK269 (hon 14 (by kernel_rfl)) (hoff 19 (by kernel_rfl)))
         have GW269 := Aside0.mk (Q_GW269 (hon 14 (by kernel_rfl)))
         have GE269 := Aside0.mk (Q_GE269 (hon 14 (by kernel_rfl)))
         have NB244_269 := Aside0.mk (Q_NB244_269 (hon 14 (by kernel_rfl)))
         have NB269_244 := Aside0.mk (Q_NB269_244 (hon 14 (by kernel_rfl)))
         have BK270 := Aside0.mk (Q_BK270 (hon 15 (by kernel_rfl)) (hoff 20 (by kernel_rfl)))
         have GW270 := Aside0.mk (Q_GW270 (hon 15 (by kernel_rfl)))
         have GE270 := Aside0.mk (Q_GE270 (hon 15 (by kernel_rfl)))
         have NB244_270 := Aside0.mk (Q_NB244_270 (hon 15 (by kernel_rfl)))
         have NB270_244 := Aside0.mk (Q_NB270_244 (hon 15 (by kernel_rfl)))
         obtain ⟨Ao41, co41, eo41⟩ := Kd.R_slice HO249.out
         (first | subst eo41 | (injection eo41 with f1_ f2_ f3_; have f4_ := f1_.symm; have f5_ := f3_.symm; clear f1_ f2_ f3_; subst f4_; subst f5_))
         have hs40 : w'.cell? ⟨gb266, 0, none⟩ = some (.string (⟨#[]⟩ : ByteArray)) := (blk_cell BK266.out 0).trans rfl
         have hfs40 := blk_frozen BK266.out 0
         have hns40_0 := NB244_266.out
         have hns40_2 := NB267_266.out
         have hns40_3 := NB268_266.out
         have hns40_4 := NB269_266.out
         have hns40_5 := NB270_266.out
         have hms40_0 := NB266_244.out
         have hms40_2 := NB266_267.out
         have hms40_3 := NB266_268.out
         have hms40_4 := NB266_269.out
         have hms40_5 := NB266_270.out
         have hs42 : w'.cell? ⟨gb266, 1, none⟩ = some (.slice none 0 0) := (blk_cell BK266.out 1).trans rfl
         have hfs42 := blk_frozen BK266.out 1
         have hns42_0 := NB244_266.out
         have hns42_2 := NB267_266.out
         have hns42_3 := NB268_266.out
         have hns42_4 := NB269_266.out
         have hns42_5 := NB270_266.out
         have hms42_0 := NB266_244.out
         have hms42_2 := NB266_267.out
         have hms42_3 := NB266_268.out
         have hms42_4 := NB266_269.out
         have hms42_5 := NB266_270.out
         refine skip_ (w1 := ?_) (by rfl) rfl ?_ ?_
         rotate_left
         ·
          go_simp
          rfl
         refine hK.out _ _ ⟨.slice Ao41 t247.length co41, v252, v256, v260, v264, gb266, gb267, gb268, gb269, gb270, m1_, m3_, m5_, m8_, m10_, m11_, m12_, m13_, m14_, m15_, (by rw [ha.out]; exact putSel_none (v := undef) rfl), (by (with_reducible repeat (first | refine blk_drewN ?_ _ | refine blk_drew ?_ | refine blk_alloc ?_ _)); refine blk_far ?_ NB244_266.out _; (with_reducible repeat (first | refine blk_drewN ?_ _ | refine blk_drew ?_ | refine blk_alloc ?_ _)); refine blk_far ?_ NB244_266.out _; (with_reducible repeat (first | refine blk_drewN ?_ _ | refine blk_drew ?_ | refine blk_alloc ?_ _)); exact BK244.out), (by repeat (first | (with_reducible first | exact HB.out | apply below_alloc | apply pw_below_drewN | apply below_drew1 | refine below_set ?_ GE244.out | refine below_set ?_ GE266.out | refine below_set ?_ GE267.out | refine below_set ?_ GE268.out | refine below_set ?_ GE269.out | refine below_set ?_ GE270.out) | exact HB.out)), fun _ _ => NB267_266.out, fun _ _ => NB266_267.out, fun _ _ => NB268_266.out, fun _ _ => NB266_268.out, fun _ _ => NB269_266.out, fun _ _ => NB266_269.out, fun _ _ => NB270_266.out, fun _ _ => NB266_270.out, fun _ _ => NB268_267.out, fun _ _ => NB267_268.out, fun _ _ => NB269_267.out, fun _ _ => NB267_269.out, fun _ _ => NB270_267.out, fun _ _ => NB267_270.out, fun _ _ => NB269_268.out, fun _ _ => NB268_269.out, fun _ _ => NB270_268.out, fun _ _ => NB268_270.out, fun _ _ => NB270_269.out, fun _ _ => NB269_270.out, fun _ => (by (with_reducible repeat (first | apply Kd.R_alloc | apply Kd.R_drewN | apply Kd.R_drew)); exact Kd.R_mono (Kd.R_far (p := ⟨gb266, 1, none⟩) (Kd.R_far (p := ⟨gb266, 0, none⟩) (Kd.R_types HO249.out BK266.out (by decide)) (fun _ hk => hk.2) (.string t246)) (fun _ hk => hk.2) (.slice Ao41 t247.length co41)) (fun _ _ => trivial)), fun _ => (by (with_reducible repeat (first | apply Kd.R_alloc | apply Kd.R_drewN | apply Kd.R_drew)); exact Kd.R_mono (Kd.R_far (p := ⟨gb266, 1, none⟩) (Kd.R_far (p := ⟨gb266, 0, none⟩) (Kd.R_types HO253.out BK266.out (by decide)) (fun _ hk => hk.2) (.string t246)) (fun _ hk => hk.2) (.slice Ao41 t247.length co41)) (fun _ _ => trivial)), fun _ => (by (with_reducible repeat (first | apply Kd.R_alloc | apply Kd.R_drewN | apply Kd.R_drew)); exact Kd.R_mono (Kd.R_far (p := ⟨gb266, 1, none⟩) (Kd.R_far (p := ⟨gb266, 0, none⟩) (Kd.R_types HO257.out BK266.out (by decide)) (fun _ hk => hk.2) (.string t246)) (fun _ hk => hk.2) (.slice Ao41 t247.length co41)) (fun _ _ => trivial)), fun _ => (by (with_reducible repeat (first | apply Kd.R_alloc | apply Kd.R_drewN | apply Kd.R_drew)); exact Kd.R_mono (Kd.R_far (p := ⟨gb266, 1, none⟩) (Kd.R_far (p := ⟨gb266, 0, none⟩) (Kd.R_types HO261.out BK266.out (by decide)) (fun _ hk => hk.2) (.string t246)) (fun _ hk => hk.2) (.slice Ao41 t247.length co41)) (fun _ _ => trivial)), fun _ => (by (with_reducible repeat (first | apply Kd.R_alloc | apply Kd.R_drewN | apply Kd.R_drew)); exact Kd.R_mono (Kd.R_far (p := ⟨gb266, 1, none⟩) (Kd.R_far (p := ⟨gb266, 0, none⟩) (Kd.R_types HO265.out BK266.out (by decide)) (fun _ hk => hk.2) (.string t246)) (fun _ hk => hk.2) (.slice Ao41 t247.length co41)) (fun _ _ => trivial)), fun _ h1_ => absurd ((up_self b 16).symm.trans h1_) (by decide), fun _ => GW266.out, fun _ => GE266.out, fun _ => NB244_266.out, fun _ => NB266_244.out, fun _ _ => (by (with_reducible repeat (first | refine blk_drewN ?_ _ | refine blk_drew ?_ | refine blk_alloc ?_ _)); refine blk_far ?_ NB267_266.out _; (with_reducible repeat (first | refine blk_drewN ?_ _ | refine blk_drew ?_ | refine blk_alloc ?_ _)); refine blk_far ?_ NB267_266.out _; (with_reducible repeat (first | refine blk_drewN ?_ _ | refine blk_drew ?_ | refine blk_alloc ?_ _)); exact BK267.out), fun _ => GW267.out, fun _ => GE267.out, fun _ => NB244_267.out, fun _ => NB267_244.out, fun _ _ => (by (with_reducible repeat (first | refine blk_drewN ?_ _ | refine blk_drew ?_ | refine blk_alloc ?_ _)); refine blk_far ?_ NB268_266.out _; (with_reducible repeat (first | refine blk_drewN ?_ _ | refine blk_drew ?_ | refine blk_alloc ?_ _)); refine blk_far ?_ NB268_266.out _; (with_reducible repeat (first | refine blk_drewN ?_ _ | refine blk_drew ?_ | refine blk_alloc ?_ _)); exact BK268.out), fun _ => GW268.out, fun _ => GE268.out, fun _ => NB244_268.out, fun _ => NB268_244.out, fun _ _ => (by (with_reducible repeat (first | refine blk_drewN ?_ _ | refine blk_drew ?_ | refine blk_alloc ?_ _)); refine blk_far ?_ NB269_266.out _; (with_reducible repeat (first | refine blk_drewN ?_ _ | refine blk_drew ?_ | refine blk_alloc ?_ _)); refine blk_far ?_ NB269_266.out _; (with_reducible repeat (first | refine blk_drewN ?_ _ | refine blk_drew ?_ | refine blk_alloc ?_ _)); exact BK269.out), fun _ => GW269.out, fun _ => GE269.out, fun _ => NB244_269.out, fun _ => NB269_244.out, fun _ _ => (by (with_reducible repeat (first | refine blk_drewN ?_ _ | refine blk_drew ?_ | refine blk_alloc ?_ _)); refine blk_far ?_ NB270_266.out _; (with_reducible repeat (first | refine blk_drewN ?_ _ | refine blk_drew ?_ | refine blk_alloc ?_ _)); refine blk_far ?_ NB270_266.out _; (with_reducible repeat (first | refine blk_drewN ?_ _ | refine blk_drew ?_ | refine blk_alloc ?_ _)); exact BK270.out), fun _ => GW270.out, fun _ => GE270.out, fun _ => NB244_270.out, fun _ => NB270_244.out, fun _ => (by (with_reducible repeat (first | refine blk_drewN ?_ _ | refine blk_drew ?_ | refine blk_alloc ?_ _)); refine blk_put (cs := #[.string t246, .slice none 0 0]) ?_ 1 _ rfl; (with_reducible repeat (first | refine blk_drewN ?_ _ | refine blk_drew ?_ | refine blk_alloc ?_ _)); refine blk_put (cs := #[.string (⟨#[]⟩ : ByteArray), .slice none 0 0]) ?_ 0 _ rfl; (with_reducible repeat (first | refine blk_drewN ?_ _ | refine blk_drew ?_ | refine blk_alloc ?_ _)); exact BK266.out), fun h0_ => absurd ((hoff 17 (by kernel_rfl)).symm.trans h0_) (by decide), fun h0_ => absurd ((hoff 18 (by kernel_rfl)).symm.trans h0_) (by decide), fun h0_ => absurd ((hoff 19 (by kernel_rfl)).symm.trans h0_) (by decide), fun h0_ => absurd ((hoff 20 (by kernel_rfl)).symm.trans h0_) (by decide), Q_X1_, Q_X3_, Q_X5_, Q_X8_, Q_X10_, Q_X11_, Q_X12_, Q_X13_, Q_X14_, Q_X15_⟩
        refine steps_cons ?_ ?_
        ·
         rintro b a w' ⟨v248, v252, v256, v260, v264, gb266, gb267, gb268, gb269, gb270, m1_, m3_, m5_, m8_, m10_, m11_, m12_, m13_, m14_, m15_, hI_⟩ hb_ hon hoff
         have ha := hI_.ha; have Q_BK244 := hI_.Q_BK244; have Q_HB := hI_.Q_HB; have Q_NB267_266 := hI_.Q_NB267_266; have Q_NB266_267 := hI_.Q_NB266_267; have Q_NB268_266 := hI_.Q_NB268_266; have Q_NB266_268 := hI_.Q_NB266_268; have Q_NB269_266 := hI_.Q_NB269_266; have Q_NB266_269 := hI_.Q_NB266_269; have Q_NB270_266 := hI_.Q_NB270_266; have Q_NB266_270 := hI_.Q_NB266_270; have Q_NB268_267 := hI_.Q_NB268_267; have Q_NB267_268 := hI_.Q_NB267_268; have Q_NB269_267 := hI_.Q_NB269_267; have Q_NB267_269 := hI_.Q_NB267_269; have Q_NB270_267 := hI_.Q_NB270_267; have Q_NB267_270 := hI_.Q_NB267_270; have Q_NB269_268 := hI_.Q_NB269_268; have Q_NB268_269 := hI_.Q_NB268_269; have Q_NB270_268 := hI_.Q_NB270_268; have Q_NB268_270 := hI_.Q_NB268_270; have Q_NB270_269 := hI_.Q_NB270_269; have Q_NB269_270 := hI_.Q_NB269_270; have Q_HO249 := hI_.Q_HO249; have Q_HO253 := hI_.Q_HO253; have Q_HO257 := hI_.Q_HO257; have Q_HO261 := hI_.Q_HO261; have Q_HO265 := hI_.Q_HO265; have Q_BK266 := hI_.Q_BK266; have Q_GW266 := hI_.Q_GW266; have Q_GE266 := hI_.Q_GE266; have Q_NB244_266 := hI_.Q_NB244_266; have Q_NB266_244 := hI_.Q_NB266_244; have Q_BK267 := hI_.Q_BK267; have Q_GW267 := hI_.Q_GW267; have Q_GE267 := hI_.Q_GE267; have Q_NB244_267 := hI_.Q_NB244_267; have Q_NB267_244 := hI_.Q_NB267_244; have Q_BK268 := hI_.Q_BK268; have Q_GW268 := hI_.Q_GW268; have Q_GE268 := hI_.Q_GE268; have Q_NB244_268 := hI_.Q_NB244_268; have Q_NB268_244 := hI_.Q_NB268_244; have Q_BK269 := hI_.Q_BK269; have Q_GW269 := hI_.Q_GW269; have Q_GE269 := hI_.Q_GE269; have Q_NB244_269 := hI_.Q_NB244_269; have Q_NB269_244 := hI_.Q_NB269_244; have Q_BK270 := hI_.Q_BK270; have Q_GW270 := hI_.Q_GW270; have Q_GE270 := hI_.Q_GE270; have Q_NB244_270 := hI_.Q_NB244_270; have Q_NB270_244 := hI_.Q_NB270_244; have Q_BK266_e16 := hI_.Q_BK266_e16; have Q_BK267_e17 := hI_.Q_BK267_e17; have Q_BK268_e18 := hI_.Q_BK268_e18; have Q_BK269_e19 := hI_.Q_BK269_e19; have Q_BK270_e20 := hI_.Q_BK270_e20; have Q_X1_ := hI_.Q_X1_; have Q_X3_ := hI_.Q_X3_; have Q_X5_ := hI_.Q_X5_; have Q_X8_ := hI_.Q_X8_; have Q_X10_ := hI_.Q_X10_; have Q_X11_ := hI_.Q_X11_; have Q_X12_ := hI_.Q_X12_; have Q_X13_ := hI_.Q_X13_; have Q_X14_ := hI_.Q_X14_; have Q_X15_ := hI_.Q_X15_
         clear hI_
         refine ⟨_, rfl, fun K hK => ?_⟩
         have e6 : a.tmps[6]? = some (m12_) := by rw [ha]; exact putSel_on (e := (12, 6, m12_)) 11 rfl rfl (hon 12 (by kernel_rfl)) rfl
         rw [Q_X12_ (hon 12 (by kernel_rfl))] at e6
         have e15 : a.tmps[15]? = some (m3_) := by rw [ha]; exact putSel_on (e := (3, 15, m3_)) 3 rfl rfl (hon 3 (by kernel_rfl)) rfl
         rw [Q_X3_ (hon 3 (by kernel_rfl))] at e15
         replace ha := Aside0.mk ha
         have BK244 := Aside0.mk Q_BK244
         have HB := Aside0.mk Q_HB
         have NB267_266 := Aside0.mk (Q_NB267_266 (hon 11 (by kernel_rfl)) (hon 12 (by kernel_rfl)))
         have NB266_267 := Aside0.mk (Q_NB266_267 (hon 11 (by kernel_rfl)) (hon 12 (by kernel_rfl)))
         have NB268_266 := Aside0.mk (Q_NB268_266 (hon 11 (by kernel_rfl)) (hon 13 (by kernel_rfl)))
         have NB266_268 := Aside0.mk (Q_NB266_268 (hon 11 (by kernel_rfl)) (hon 13 (by kernel_rfl)))
         have NB269_266 := Aside0.mk (Q_NB269_266 (hon 11 (by kernel_rfl)) (hon 14 (by kernel_rfl)))
         have NB266_269 := Aside0.mk (Q_NB266_269 (hon 11 (by kernel_rfl)) (hon 14 (by kernel_rfl)))
         have NB270_266 := Aside0.mk (Q_NB270_266 (hon 11 (by kernel_rfl)) (hon 15 (by kernel_rfl)))
         have NB266_270 := Aside0.mk (Q_NB266_270 (hon 11 (by kernel_rfl)) (hon 15 (by kernel_rfl)))
         have NB268_267 := Aside0.mk (Q_NB268_267 (hon 12 (by kernel_rfl)) (hon 13 (by kernel_rfl)))
         have NB267_268 := Aside0.mk (Q_NB267_268 (hon 12 (by kernel_rfl)) (hon 13 (by kernel_rfl)))
         have NB269_267 := Aside0.mk (Q_NB269_267 (hon 12 (by kernel_rfl)) (hon 14 (by kernel_rfl)))
         have NB267_269 := Aside0.mk (Q_NB267_269 (hon 12 (by kernel_rfl)) (hon 14 (by kernel_rfl)))
         have NB270_267 := Aside0.mk (Q_NB270_267 (hon 12 (by kernel_rfl)) (hon 15 (by kernel_rfl)))
         have NB267_270 := Aside0.mk (Q_NB267_270 (hon 12 (by kernel_rfl)) (hon 15 (by kernel_rfl)))
         have NB269_268 := Aside0.mk (Q_NB269_268 (hon 13 (by kernel_rfl)) (hon 14 (by kernel_rfl)))
         have NB268_269 := Aside0.mk (Q_NB268_269 (hon 13 (by kernel_rfl)) (hon 14 (by kernel_rfl)))
         have NB270_268 := Aside0.mk (Q_NB270_268 (hon 13 (by kernel_rfl)) (hon 15 (by kernel_rfl)))
         have NB268_270 := Aside0.mk (Q_NB268_270 (hon 13 (by kernel_rfl)) (hon 15 (by kernel_rfl)))
         have NB270_269 := Aside0.mk (Q_NB270_269 (hon 14 (by kernel_rfl)) (hon 15 (by kernel_rfl)))
         have NB269_270 := Aside0.mk (Q_NB269_270 (hon 14 (by kernel_rfl)) (hon 15 (by kernel_rfl)))
         have HO249 := Aside0.mk (Q_HO249 (hon 1 (by kernel_rfl)))
         have HO253 := Aside0.mk (Q_HO253 (hon 3 (by kernel_rfl)))
         have HO257 := Aside0.mk (Q_HO257 (hon 5 (by kernel_rfl)))
         have HO261 := Aside0.mk (Q_HO261 (hon 8 (by kernel_rfl)))
         have HO265 := Aside0.mk (Q_HO265 (hon 10 (by kernel_rfl)))
         have GW266 := Aside0.mk (Q_GW266 (hon 11 (by kernel_rfl)))
         have GE266 := Aside0.mk (Q_GE266 (hon 11 (by kernel_rfl)))
         have NB244_266 := Aside0.mk (Q_NB244_266 (hon 11 (by kernel_rfl)))
         have NB266_244 := Aside0.mk (Q_NB266_244 (hon 11 (by kernel_rfl)))
         have BK267 := Aside0.mk (Q_BK267 (hon 12 (by kernel_rfl)) hb_)
         have GW267 := Aside0.mk (Q_GW267 (hon 12 (by kernel_rfl)))
         have GE267 := Aside0.mk (Q_GE267 (hon 12 (by kernel_rfl)))
         have NB244_267 := Aside0.mk (Q_NB244_267 (hon 12 (by kernel_rfl)))
         have NB267_244 := Aside0.mk (Q_NB267_244 (hon 12 (by kernel_rfl)))
         have BK268 := Aside0.mk (Q_BK268 (hon 13 (by kernel_rfl)) (hoff 18 (by kernel_rfl)))
         have GW268 := Aside0.mk (Q_GW268 (hon 13 (by kernel_rfl)))
         have GE268 := Aside0.mk (Q_GE268 (hon 13 (by kernel_rfl)))
         have NB244_268 := Aside0.mk (Q_NB244_268 (hon 13 (by kernel_rfl)))
         have NB268_244 := Aside0.mk (Q_NB268_244 (hon 13 (by kernel_rfl)))
         have BK269 := Aside0.mk (Q_BK269 (hon 14 (by kernel_rfl)) (hoff 19 (by kernel_rfl)))
         have GW269 := Aside0.mk (Q_GW269 (hon 14 (by kernel_rfl)))
         have GE269 := Aside0.mk (Q_GE269 (hon 14 (by kernel_rfl)))
         have NB244_269 := Aside0.mk (Q_NB244_269 (hon 14 (by kernel_rfl)))
         have NB269_244 := Aside0.mk (Q_NB269_244 (hon 14 (by kernel_rfl)))
         have BK270 := Aside0.mk (Q_BK270 (hon 15 (by kernel_rfl)) (hoff 20 (by kernel_rfl)))
         have GW270 := Aside0.mk (Q_GW270 (hon 15 (by kernel_rfl)))
         have GE270 := Aside0.mk (Q_GE270 (hon 15 (by kernel_rfl)))
         have NB244_270 := Aside0.mk (Q_NB244_270 (hon 15 (by kernel_rfl)))
         have NB270_244 := Aside0.mk (Q_NB270_244 (hon 15 (by kernel_rfl)))
         have BK266 := Aside0.mk (Q_BK266_e16 (hon 16 (by kernel_rfl)))
         obtain ⟨Ao44, co44, eo44⟩ := Kd.R_slice HO253.out
         (first | subst eo44 | (injection eo44 with f1_ f2_ f3_; have f4_ := f1_.symm; have f5_ := f3_.symm; clear f1_ f2_ f3_; subst f4_; subst f5_))
         have hs43 : w'.cell? ⟨gb267, 0, none⟩ = some (.string (⟨#[]⟩ : ByteArray)) := (blk_cell BK267.out 0).trans rfl
         have hfs43 := blk_frozen BK267.out 0
         have hns43_0 := NB244_267.out
         have hns43_1 := NB266_267.out
         have hns43_3 := NB268_267.out
         have hns43_4 := NB269_267.out
         have hns43_5 := NB270_267.out
         have hms43_0 := NB267_244.out
         have hms43_1 := NB267_266.out
         have hms43_3 := NB267_268.out
         have hms43_4 := NB267_269.out
         have hms43_5 := NB267_270.out
         have hs45 : w'.cell? ⟨gb267, 1, none⟩ = some (.slice none 0 0) := (blk_cell BK267.out 1).trans rfl
         have hfs45 := blk_frozen BK267.out 1
         have hns45_0 := NB244_267.out
         have hns45_1 := NB266_267.out
         have hns45_3 := NB268_267.out
         have hns45_4 := NB269_267.out
         have hns45_5 := NB270_267.out
         have hms45_0 := NB267_244.out
         have hms45_1 := NB267_266.out
         have hms45_3 := NB267_268.out
         have hms45_4 := NB267_269.out
         have hms45_5 := NB267_270.out
         refine skip_ (w1 := ?_) (by rfl) rfl ?_ ?_
         rotate_left
         ·
          go_simp
          rfl
         refine hK.out _ _ ⟨v248, .slice Ao44 t251.length co44, v256, v260, v264, gb266, gb267, gb268, gb269, gb270, m1_, m3_, m5_, m8_, m10_, m11_, m12_, m13_, m14_, m15_, (by rw [ha.out]; exact putSel_none (v := undef) rfl), (by (with_reducible repeat (first | refine blk_drewN ?_ _ | refine blk_drew ?_ | refine blk_alloc ?_ _)); refine blk_far ?_ NB244_267.out _; (with_reducible repeat (first | refine blk_drewN ?_ _ | refine blk_drew ?_ | refine blk_alloc ?_ _)); refine blk_far ?_ NB244_267.out _; (with_reducible repeat (first | refine blk_drewN ?_ _ | refine blk_drew ?_ | refine blk_alloc ?_ _)); exact BK244.out), (by repeat (first | (with_reducible first | exact HB.out | apply below_alloc | apply pw_below_drewN | apply below_drew1 | refine below_set ?_ GE244.out | refine below_set ?_ GE266.out | refine below_set ?_ GE267.out | refine below_set ?_ GE268.out | refine below_set ?_ GE269.out | refine below_set ?_ GE270.out) | exact HB.out)), fun _ _ => NB267_266.out, fun _ _ => NB266_267.out, fun _ _ => NB268_266.out, fun _ _ => NB266_268.out, fun _ _ => NB269_266.out, fun _ _ => NB266_269.out, fun _ _ => NB270_266.out, fun _ _ => NB266_270.out, fun _ _ => NB268_267.out, fun _ _ => NB267_268.out, fun _ _ => NB269_267.out, fun _ _ => NB267_269.out, fun _ _ => NB270_267.out, fun _ _ => NB267_270.out, fun _ _ => NB269_268.out, fun _ _ => NB268_269.out, fun _ _ => NB270_268.out, fun _ _ => NB268_270.out, fun _ _ => NB270_269.out, fun _ _ => NB269_270.out, fun _ => (by (with_reducible repeat (first | apply Kd.R_alloc | apply Kd.R_drewN | apply Kd.R_drew)); exact Kd.R_mono (Kd.R_far (p := ⟨gb267, 1, none⟩) (Kd.R_far (p := ⟨gb267, 0, none⟩) (Kd.R_types HO249.out BK267.out (by decide)) (fun _ hk => hk.2) (.string t250)) (fun _ hk => hk.2) (.slice Ao44 t251.length co44)) (fun _ _ => trivial)), fun _ => (by (with_reducible repeat (first | apply Kd.R_alloc | apply Kd.R_drewN | apply Kd.R_drew)); exact Kd.R_mono (Kd.R_far (p := ⟨gb267, 1, none⟩) (Kd.R_far (p := ⟨gb267, 0, none⟩) (Kd.R_types HO253.out BK267.out (by decide)) (fun _ hk => hk.2) (.string t250)) (fun _ hk => hk.2) (.slice Ao44 t251.length co44)) (fun _ _ => trivial)), fun _ => (by (with_reducible repeat (first | apply Kd.R_alloc | apply Kd.R_drewN | apply Kd.R_drew)); exact Kd.R_mono (Kd.R_far (p := ⟨gb267, 1, none⟩) (Kd.R_far (p := ⟨gb267, 0, none⟩) (Kd.R_types HO257.out BK267.out (by decide)) (fun _ hk => hk.2) (.string t250)) (fun _ hk => hk.2) (.slice Ao44 t251.length co44)) (fun _ _ => trivial)), fun _ => (by (with_reducible repeat (first | apply Kd.R_alloc | apply Kd.R_drewN | apply Kd.R_drew)); exact Kd.R_mono (Kd.R_far (p := ⟨gb267, 1, none⟩) (Kd.R_far (p := ⟨gb267, 0, none⟩) (Kd.R_types HO261.out BK267.out (by decide)) (fun _ hk => hk.2) (.string t250)) (fun _ hk => hk.2) (.slice Ao44 t251.length co44)) (fun _ _ => trivial)), fun _ => (by (with_reducible repeat (first | apply Kd.R_alloc | apply Kd.R_drewN | apply Kd.R_drew)); exact Kd.R_mono (Kd.R_far (p := ⟨gb267, 1, none⟩) (Kd.R_far (p := ⟨gb267, 0, none⟩) (Kd.R_types HO265.out BK267.out (by decide)) (fun _ hk => hk.2) (.string t250)) (fun _ hk => hk.2) (.slice Ao44 t251.length co44)) (fun _ _ => trivial)), fun _ h1_ => absurd ((hon 16 (by kernel_rfl)).symm.trans h1_) (by decide), fun _ => GW266.out, fun _ => GE266.out, fun _ => NB244_266.out, fun _ => NB266_244.out, fun _ h1_ => absurd ((up_self b 17).symm.trans h1_) (by decide), fun _ => GW267.out, fun _ => GE267.out, fun _ => NB244_267.out, fun _ => NB267_244.out, fun _ _ => (by (with_reducible repeat (first | refine blk_drewN ?_ _ | refine blk_drew ?_ | refine blk_alloc ?_ _)); refine blk_far ?_ NB268_267.out _; (with_reducible repeat (first | refine blk_drewN ?_ _ | refine blk_drew ?_ | refine blk_alloc ?_ _)); refine blk_far ?_ NB268_267.out _; (with_reducible repeat (first | refine blk_drewN ?_ _ | refine blk_drew ?_ | refine blk_alloc ?_ _)); exact BK268.out), fun _ => GW268.out, fun _ => GE268.out, fun _ => NB244_268.out, fun _ => NB268_244.out, fun _ _ => (by (with_reducible repeat (first | refine blk_drewN ?_ _ | refine blk_drew ?_ | refine blk_alloc ?_ _)); refine blk_far ?_ NB269_267.out _; (with_reducible repeat (first | refine blk_drewN ?_ _ | refine blk_drew ?_ | refine blk_alloc ?_ _)); refine blk_far ?_ NB269_267.out _; (with_reducible repeat (first | refine blk_drewN ?_ _ | refine blk_drew ?_ | refine blk_alloc ?_ _)); exact BK269.out), fun _ => GW269.out, fun _ => GE269.out, fun _ => NB244_269.out, fun _ => NB269_244.out, fun _ _ => (by (with_reducible repeat (first | refine blk_drewN ?_ _ | refine blk_drew ?_ | refine blk_alloc ?_ _)); refine blk_far ?_ NB270_267.out _; (with_reducible repeat (first | refine blk_drewN ?_ _ | refine blk_drew ?_ | refine blk_alloc ?_ _)); refine blk_far ?_ NB270_267.out _; (with_reducible repeat (first | refine blk_drewN ?_ _ | refine blk_drew ?_ | refine blk_alloc ?_ _)); exact BK270.out), fun _ => GW270.out, fun _ => GE270.out, fun _ => NB244_270.out, fun _ => NB270_244.out, fun _ => (by (with_reducible repeat (first | refine blk_drewN ?_ _ | refine blk_drew ?_ | refine blk_alloc ?_ _)); refine blk_far ?_ NB266_267.out _; (with_reducible repeat (first | refine blk_drewN ?_ _ | refine blk_drew ?_ | refine blk_alloc ?_ _)); refine blk_far ?_ NB266_267.out _; (with_reducible repeat (first | refine blk_drewN ?_ _ | refine blk_drew ?_ | refine blk_alloc ?_ _)); exact BK266.out), fun _ => (by (with_reducible repeat (first | refine blk_drewN ?_ _ | refine blk_drew ?_ | refine blk_alloc ?_ _)); refine blk_put (cs := #[.string t250, .slice none 0 0]) ?_ 1 _ rfl; (with_reducible repeat (first | refine blk_drewN ?_ _ | refine blk_drew ?_ | refine blk_alloc ?_ _)); refine blk_put (cs := #[.string (⟨#[]⟩ : ByteArray), .slice none 0 0]) ?_ 0 _ rfl; (with_reducible repeat (first | refine blk_drewN ?_ _ | refine blk_drew ?_ | refine blk_alloc ?_ _)); exact BK267.out), fun h0_ => absurd ((hoff 18 (by kernel_rfl)).symm.trans h0_) (by decide), fun h0_ => absurd ((hoff 19 (by kernel_rfl)).symm.trans h0_) (by decide), fun h0_ => absurd ((hoff 20 (by kernel_rfl)).symm.trans h0_) (by decide), Q_X1_, Q_X3_, Q_X5_, Q_X8_, Q_X10_, Q_X11_, Q_X12_, Q_X13_, Q_X14_, Q_X15_⟩
        refine steps_cons ?_ ?_
        ·
         rintro b a w' ⟨v248, v252, v256, v260, v264, gb266, gb267, gb268, gb269, gb270, m1_, m3_, m5_, m8_, m10_, m11_, m12_, m13_, m14_, m15_, hI_⟩ hb_ hon hoff
         have ha := hI_.ha; have Q_BK244 := hI_.Q_BK244; have Q_HB := hI_.Q_HB; have Q_NB267_266 := hI_.Q_NB267_266; have Q_NB266_267 := hI_.Q_NB266_267; have Q_NB268_266 := hI_.Q_NB268_266; have Q_NB266_268 := hI_.Q_NB266_268; have Q_NB269_266 := hI_.Q_NB269_266; have Q_NB266_269 := hI_.Q_NB266_269; have Q_NB270_266 := hI_.Q_NB270_266; have Q_NB266_270 := hI_.Q_NB266_270; have Q_NB268_267 := hI_.Q_NB268_267; have Q_NB267_268 := hI_.Q_NB267_268; have Q_NB269_267 := hI_.Q_NB269_267; have Q_NB267_269 := hI_.Q_NB267_269; have Q_NB270_267 := hI_.Q_NB270_267; have Q_NB267_270 := hI_.Q_NB267_270; have Q_NB269_268 := hI_.Q_NB269_268; have Q_NB268_269 := hI_.Q_NB268_269; have Q_NB270_268 := hI_.Q_NB270_268; have Q_NB268_270 := hI_.Q_NB268_270; have Q_NB270_269 := hI_.Q_NB270_269; have Q_NB269_270 := hI_.Q_NB269_270; have Q_HO249 := hI_.Q_HO249; have Q_HO253 := hI_.Q_HO253; have Q_HO257 := hI_.Q_HO257; have Q_HO261 := hI_.Q_HO261; have Q_HO265 := hI_.Q_HO265; have Q_BK266 := hI_.Q_BK266; have Q_GW266 := hI_.Q_GW266; have Q_GE266 := hI_.Q_GE266; have Q_NB244_266 := hI_.Q_NB244_266; have Q_NB266_244 := hI_.Q_NB266_244; have Q_BK267 := hI_.Q_BK267; have Q_GW267 := hI_.Q_GW267; have Q_GE267 := hI_.Q_GE267; have Q_NB244_267 := hI_.Q_NB244_267; have Q_NB267_244 := hI_.Q_NB267_244; have Q_BK268 := hI_.Q_BK268; have Q_GW268 := hI_.Q_GW268; have Q_GE268 := hI_.Q_GE268; have Q_NB244_268 := hI_.Q_NB244_268; have Q_NB268_244 := hI_.Q_NB268_244; have Q_BK269 := hI_.Q_BK269; have Q_GW269 := hI_.Q_GW269; have Q_GE269 := hI_.Q_GE269; have Q_NB244_269 := hI_.Q_NB244_269; have Q_NB269_244 := hI_.Q_NB269_244; have Q_BK270 := hI_.Q_BK270; have Q_GW270 := hI_.Q_GW270; have Q_GE270 := hI_.Q_GE270; have Q_NB244_270 := hI_.Q_NB244_270; have Q_NB270_244 := hI_.Q_NB270_244; have Q_BK266_e16 := hI_.Q_BK266_e16; have Q_BK267_e17 := hI_.Q_BK267_e17; have Q_BK268_e18 := hI_.Q_BK268_e18; have Q_BK269_e19 := hI_.Q_BK269_e19; have Q_BK270_e20 := hI_.Q_BK270_e20; have Q_X1_ := hI_.Q_X1_; have Q_X3_ := hI_.Q_X3_; have Q_X5_ := hI_.Q_X5_; have Q_X8_ := hI_.Q_X8_; have Q_X10_ := hI_.Q_X10_; have Q_X11_ := hI_.Q_X11_; have Q_X12_ := hI_.Q_X12_; have Q_X13_ := hI_.Q_X13_; have Q_X14_ := hI_.Q_X14_; have Q_X15_ := hI_.Q_X15_
         clear hI_
         refine ⟨_, rfl, fun K hK => ?_⟩
         have e7 : a.tmps[7]? = some (m13_) := by rw [ha]; exact putSel_on (e := (13, 7, m13_)) 12 rfl rfl (hon 13 (by kernel_rfl)) rfl
         rw [Q_X13_ (hon 13 (by kernel_rfl))] at e7
         have e17 : a.tmps[17]? = some (m5_) := by rw [ha]; exact putSel_on (e := (5, 17, m5_)) 5 rfl rfl (hon 5 (by kernel_rfl)) rfl
         rw [Q_X5_ (hon 5 (by kernel_rfl))] at e17
         replace ha := Aside0.mk ha
         have BK244 := Aside0.mk Q_BK244
         have HB := Aside0.mk Q_HB
         have NB267_266 := Aside0.mk (Q_NB267_266 (hon 11 (by kernel_rfl)) (hon 12 (by kernel_rfl)))
         have NB266_267 := Aside0.mk (Q_NB266_267 (hon 11 (by kernel_rfl)) (hon 12 (by kernel_rfl)))
         have NB268_266 := Aside0.mk (Q_NB268_266 (hon 11 (by kernel_rfl)) (hon 13 (by kernel_rfl)))
         have NB266_268 := Aside0.mk (Q_NB266_268 (hon 11 (by kernel_rfl)) (hon 13 (by kernel_rfl)))
         have NB269_266 := Aside0.mk (Q_NB269_266 (hon 11 (by kernel_rfl)) (hon 14 (by kernel_rfl)))
         have NB266_269 := Aside0.mk (Q_NB266_269 (hon 11 (by kernel_rfl)) (hon 14 (by kernel_rfl)))
         have NB270_266 := Aside0.mk (Q_NB270_266 (hon 11 (by kernel_rfl)) (hon 15 (by kernel_rfl)))
         have NB266_270 := Aside0.mk (Q_NB266_270 (hon 11 (by kernel_rfl)) (hon 15 (by kernel_rfl)))
         have NB268_267 := Aside0.mk (Q_NB268_267 (hon 12 (by kernel_rfl)) (hon 13 (by kernel_rfl)))
         have NB267_268 := Aside0.mk (Q_NB267_268 (hon 12 (by kernel_rfl)) (hon 13 (by kernel_rfl)))
         have NB269_267 := Aside0.mk (Q_NB269_267 (hon 12 (by kernel_rfl)) (hon 14 (by kernel_rfl)))
         have NB267_269 := Aside0.mk (Q_NB267_269 (hon 12 (by kernel_rfl)) (hon 14 (by kernel_rfl)))
         have NB270_267 := Aside0.mk (Q_NB270_267 (hon 12 (by kernel_rfl)) (hon 15 (by kernel_rfl)))
         have NB267_270 := Aside0.mk (Q_NB267_270 (hon 12 (by kernel_rfl)) (hon 15 (by kernel_rfl)))
         have NB269_268 := Aside0.mk (Q_NB269_268 (hon 13 (by kernel_rfl)) (hon 14 (by kernel_rfl)))
         have NB268_269 := Aside0.mk (Q_NB268_269 (hon 13 (by kernel_rfl)) (hon 14 (by kernel_rfl)))
         have NB270_268 := Aside0.mk (Q_NB270_268 (hon 13 (by kernel_rfl)) (hon 15 (by kernel_rfl)))
         have NB268_270 := Aside0.mk (Q_NB268_270 (hon 13 (by kernel_rfl)) (hon 15 (by kernel_rfl)))
         have NB270_269 := Aside0.mk (Q_NB270_269 (hon 14 (by kernel_rfl)) (hon 15 (by kernel_rfl)))
         have NB269_270 := Aside0.mk (Q_NB269_270 (hon 14 (by kernel_rfl)) (hon 15 (by kernel_rfl)))
         have HO249 := Aside0.mk (Q_HO249 (hon 1 (by kernel_rfl)))
         have HO253 := Aside0.mk (Q_HO253 (hon 3 (by kernel_rfl)))
         have HO257 := Aside0.mk (Q_HO257 (hon 5 (by kernel_rfl)))
         have HO261 := Aside0.mk (Q_HO261 (hon 8 (by kernel_rfl)))
         have HO265 := Aside0.mk (Q_HO265 (hon 10 (by kernel_rfl)))
         have GW266 := Aside0.mk (Q_GW266 (hon 11 (by kernel_rfl)))
         have GE266 := Aside0.mk (Q_GE266 (hon 11 (by kernel_rfl)))
         have NB244_266 := Aside0.mk (Q_NB244_266 (hon 11 (by kernel_rfl)))
         have NB266_244 := Aside0.mk (Q_NB266_244 (hon 11 (by kernel_rfl)))
         have GW267 := Aside0.mk (Q_GW267 (hon 12 (by kernel_rfl)))
         have GE267 := Aside0.mk (Q_GE267 (hon 12 (by kernel_rfl)))
         have NB244_267 := Aside0.mk (Q_NB244_267 (hon 12 (by kernel_rfl)))
         have NB267_244 := Aside0.mk (Q_NB267_244 (hon 12 (by kernel_rfl)))
         have BK268 := Aside0.mk (Q_BK268 (hon 13 (by kernel_rfl)) hb_)
         have GW268 := Aside0.mk (Q_GW268 (hon 13 (by kernel_rfl)))
         have GE268 := Aside0.mk (Q_GE268 (hon 13 (by kernel_rfl)))
         have NB244_268 := Aside0.mk (Q_NB244_268 (hon 13 (by kernel_rfl)))
         have NB268_244 := Aside0.mk (Q_NB268_244 (hon 13 (by kernel_rfl)))
         have BK269 := Aside0.mk (Q_BK269 (hon 14 (by kernel_rfl)) (hoff 19 (by kernel_rfl)))
         have GW269 := Aside0.mk (Q_GW269 (hon 14 (by kernel_rfl)))
         have GE269 := Aside0.mk (Q_GE269 (hon 14 (by kernel_rfl)))
         have NB244_269 := Aside0.mk (Q_NB244_269 (hon 14 (by kernel_rfl)))
         have NB269_244 := Aside0.mk (Q_NB269_244 (hon 14 (by kernel_rfl)))
         have BK270 := Aside0.mk (Q_BK270 (hon 15 (by kernel_rfl)) (hoff 20 (by kernel_rfl)))
         have GW270 := Aside0.mk (Q_GW270 (hon 15 (by kernel_rfl)))
         have GE270 := Aside0.mk (Q_GE270 (hon 15 (by kernel_rfl)))
         have NB244_270 := Aside0.mk (Q_NB244_270 (hon 15 (by kernel_rfl)))
         have NB270_244 := Aside0.mk (Q_NB270_244 (hon 15 (by kernel_rfl)))
         have BK266 := Aside0.mk (Q_BK266_e16 (hon 16 (by kernel_rfl)))
         have BK267 := Aside0.mk (Q_BK267_e17 (hon 17 (by kernel_rfl)))
         obtain ⟨Ao47, co47, eo47⟩ := Kd.R_slice HO257.out
         (first | subst eo47 | (injection eo47 with f1_ f2_ f3_; have f4_ := f1_.symm; have f5_ := f3_.symm; clear f1_ f2_ f3_; subst f4_; subst f5_))
         have hs46 : w'.cell? ⟨gb268, 0, none⟩ = some (.string (⟨#[]⟩ : ByteArray)) := (blk_cell BK268.out 0).trans rfl
         have hfs46 := blk_frozen BK268.out 0
         have hns46_0 := NB244_268.out
         have hns46_1 := NB266_268.out
         have hns46_2 := NB267_268.out
         have hns46_4 := NB269_268.out
         have hns46_5 := NB270_268.out
         have hms46_0 := NB268_244.out
         have hms46_1 := NB268_266.out
         have hms46_2 := NB268_267.out
         have hms46_4 := NB268_269.out
         have hms46_5 := NB268_270.out
         have hs48 : w'.cell? ⟨gb268, 1, none⟩ = some (.slice none 0 0) := (blk_cell BK268.out 1).trans rfl
         have hfs48 := blk_frozen BK268.out 1
         have hns48_0 := NB244_268.out
         have hns48_1 := NB266_268.out
         have hns48_2 := NB267_268.out
         have hns48_4 := NB269_268.out
         have hns48_5 := NB270_268.out
         have hms48_0 := NB268_244.out
         have hms48_1 := NB268_266.out
         have hms48_2 := NB268_267.out
         have hms48_4 := NB268_269.out
         have hms48_5 := NB268_270.out
         refine skip_ (w1 := ?_) (by rfl) rfl ?_ ?_
         rotate_left
         ·
          go_simp
          rfl
         refine hK.out _ _ ⟨v248, v252, .slice Ao47 t255.length co47, v260, v264, gb266, gb267, gb268, gb269, gb270, m1_, m3_, m5_, m8_, m10_, m11_, m12_, m13_, m14_, m15_, (by rw [ha.out]; exact putSel_none (v := undef) rfl), (by (with_reducible repeat (first | refine blk_drewN ?_ _ | refine blk_drew ?_ | refine blk_alloc ?_ _)); refine blk_far ?_ NB244_268.out _; (with_reducible repeat (first | refine blk_drewN ?_ _ | refine blk_drew ?_ | refine blk_alloc ?_ _)); refine blk_far ?_ NB244_268.out _; (with_reducible repeat (first | refine blk_drewN ?_ _ | refine blk_drew ?_ | refine blk_alloc ?_ _)); exact BK244.out), (by repeat (first | (with_reducible first | exact HB.out | apply below_alloc | apply pw_below_drewN | apply below_drew1 | refine below_set ?_ GE244.out | refine below_set ?_ GE266.out | refine below_set ?_ GE267.out | refine below_set ?_ GE268.out | refine below_set ?_ GE269.out | refine below_set ?_ GE270.out) | exact HB.out)), fun _ _ => NB267_266.out, fun _ _ => NB266_267.out, fun _ _ => NB268_266.out, fun _ _ => NB266_268.out, fun _ _ => NB269_266.out, fun _ _ => NB266_269.out, fun _ _ => NB270_266.out, fun _ _ => NB266_270.out, fun _ _ => NB268_267.out, fun _ _ => NB267_268.out, fun _ _ => NB269_267.out, fun _ _ => NB267_269.out, fun _ _ => NB270_267.out, fun _ _ => NB267_270.out, fun _ _ => NB269_268.out, fun _ _ => NB268_269.out, fun _ _ => NB270_268.out, fun _ _ => NB268_270.out, fun _ _ => NB270_269.out, fun _ _ => NB269_270.out, fun _ => (by (with_reducible repeat (first | apply Kd.R_alloc | apply Kd.R_drewN | apply Kd.R_drew)); exact Kd.R_mono (Kd.R_far (p := ⟨gb268, 1, none⟩) (Kd.R_far (p := ⟨gb268, 0, none⟩) (Kd.R_types HO249.out BK268.out (by decide)) (fun _ hk => hk.2) (.string t254)) (fun _ hk => hk.2) (.slice Ao47 t255.length co47)) (fun _ _ => trivial)), fun _ => (by (with_reducible repeat (first | apply Kd.R_alloc | apply Kd.R_drewN | apply Kd.R_drew)); exact Kd.R_mono (Kd.R_far (p := ⟨gb268, 1, none⟩) (Kd.R_far (p := ⟨gb268, 0, none⟩) (Kd.R_types HO253.out BK268.out (by decide)) (fun _ hk => hk.2) (.string t254)) (fun _ hk => hk.2) (.slice Ao47 t255.length co47)) (fun _ _ => trivial)), fun _ => (by (with_reducible repeat (first | apply Kd.R_alloc | apply Kd.R_drewN | apply Kd.R_drew)); exact Kd.R_mono (Kd.R_far (p := ⟨gb268, 1, none⟩) (Kd.R_far (p := ⟨gb268, 0, none⟩) (Kd.R_types HO257.out BK268.out (by decide)) (fun _ hk => hk.2) (.string t254)) (fun _ hk => hk.2) (.slice Ao47 t255.length co47)) (fun _ _ => trivial)), fun _ => (by (with_reducible repeat (first | apply Kd.R_alloc | apply Kd.R_drewN | apply Kd.R_drew)); exact Kd.R_mono (Kd.R_far (p := ⟨gb268, 1, none⟩) (Kd.R_far (p := ⟨gb268, 0, none⟩) (Kd.R_types HO261.out BK268.out (by decide)) (fun _ hk => hk.2) (.string t254)) (fun _ hk => hk.2) (.slice Ao47 t255.length co47)) (fun _ _ => trivial)), fun _ => (by (with_reducible repeat (first | apply Kd.R_alloc | apply Kd.R_drewN | apply Kd.R_drew)); exact Kd.R_mono (Kd.R_far (p := ⟨gb268, 1, none⟩) (Kd.R_far (p := ⟨gb268, 0, none⟩) (Kd.R_types HO265.out BK268.out (by decide)) (fun _ hk => hk.2) (.string t254)) (fun _ hk => hk.2) (.slice Ao47 t255.length co47)) (fun _ _ => trivial)), fun _ h1_ => absurd ((hon 16 (by kernel_rfl)).symm.trans h1_) (by decide), fun _ => GW266.out, fun _ => GE266.out, fun _ => NB244_266.out, fun _ => NB266_244.out, fun _ h1_ => absurd ((hon 17 (by kernel_rfl)).symm.trans h1_) (by decide), fun _ => GW267.out, fun _ => GE267.out, fun _ => NB244_267.out, fun _ => NB267_244.out, fun _ h1_ => absurd ((up_self b 18).symm.trans h1_) (by decide), fun _ => GW268.out, fun _ => GE268.out, fun _ => NB244_268.out, fun _ => NB268_244.out, fun _ _ => (by (with_reducible repeat (first | refine blk_drewN ?_ _ | refine blk_drew ?_ | refine blk_alloc ?_ _)); refine blk_far ?_ NB269_268.out _; (with_reducible repeat (first | refine blk_drewN ?_ _ | refine blk_drew ?_ | refine blk_alloc ?_ _)); refine blk_far ?_ NB269_268.out _; (with_reducible repeat (first | refine blk_drewN ?_ _ | refine blk_drew ?_ | refine blk_alloc ?_ _)); exact BK269.out), fun _ => GW269.out, fun _ => GE269.out, fun _ => NB244_269.out, fun _ => NB269_244.out, fun _ _ => (by (with_reducible repeat (first | refine blk_drewN ?_ _ | refine blk_drew ?_ | refine blk_alloc ?_ _)); refine blk_far ?_ NB270_268.out _; (with_reducible repeat (first | refine blk_drewN ?_ _ | refine blk_drew ?_ | refine blk_alloc ?_ _)); refine blk_far ?_ NB270_268.out _; (with_reducible repeat (first | refine blk_drewN ?_ _ | refine blk_drew ?_ | refine blk_alloc ?_ _)); exact BK270.out), fun _ => GW270.out, fun _ => GE270.out, fun _ => NB244_270.out, fun _ => NB270_244.out, fun _ => (by (with_reducible repeat (first | refine blk_drewN ?_ _ | refine blk_drew ?_ | refine blk_alloc ?_ _)); refine blk_far ?_ NB266_268.out _; (with_reducible repeat (first | refine blk_drewN ?_ _ | refine blk_drew ?_ | refine blk_alloc ?_ _)); refine blk_far ?_ NB266_268.out _; (with_reducible repeat (first | refine blk_drewN ?_ _ | refine blk_drew ?_ | refine blk_alloc ?_ _)); exact BK266.out), fun _ => (by (with_reducible repeat (first | refine blk_drewN ?_ _ | refine blk_drew ?_ | refine blk_alloc ?_ _)); refine blk_far ?_ NB267_268.out _; (with_reducible repeat (first | refine blk_drewN ?_ _ | refine blk_drew ?_ | refine blk_alloc ?_ _)); refine blk_far ?_ NB267_268.out _; (with_reducible repeat (first | refine blk_drewN ?_ _ | refine blk_drew ?_ | refine blk_alloc ?_ _)); exact BK267.out), fun _ => (by (with_reducible repeat (first | refine blk_drewN ?_ _ | refine blk_drew ?_ | refine blk_alloc ?_ _)); refine blk_put (cs := #[.string t254, .slice none 0 0]) ?_ 1 _ rfl; (with_reducible repeat (first | refine blk_drewN ?_ _ | refine blk_drew ?_ | refine blk_alloc ?_ _)); refine blk_put (cs := #[.string (⟨#[]⟩ : ByteArray), .slice none 0 0]) ?_ 0 _ rfl; (with_reducible repeat (first | refine blk_drewN ?_ _ | refine blk_drew ?_ | refine blk_alloc ?_ _)); exact BK268.out), fun h0_ => absurd ((hoff 19 (by kernel_rfl)).symm.trans h0_) (by decide), fun h0_ => absurd ((hoff 20 (by kernel_rfl)).symm.trans h0_) (by decide), Q_X1_, Q_X3_, Q_X5_, Q_X8_, Q_X10_, Q_X11_, Q_X12_, Q_X13_, Q_X14_, Q_X15_⟩
        refine steps_cons ?_ ?_
        ·
         rintro b a w' ⟨v248, v252, v256, v260, v264, gb266, gb267, gb268, gb269, gb270, m1_, m3_, m5_, m8_, m10_, m11_, m12_, m13_, m14_, m15_, hI_⟩ hb_ hon hoff
         have ha := hI_.ha; have Q_BK244 := hI_.Q_BK244; have Q_HB := hI_.Q_HB; have Q_NB267_266 := hI_.Q_NB267_266; have Q_NB266_267 := hI_.Q_NB266_267; have Q_NB268_266 := hI_.Q_NB268_266; have Q_NB266_268 := hI_.Q_NB266_268; have Q_NB269_266 := hI_.Q_NB269_266; have Q_NB266_269 := hI_.Q_NB266_269; have Q_NB270_266 := hI_.Q_NB270_266; have Q_NB266_270 := hI_.Q_NB266_270; have Q_NB268_267 := hI_.Q_NB268_267; have Q_NB267_268 := hI_.Q_NB267_268; have Q_NB269_267 := hI_.Q_NB269_267; have Q_NB267_269 := hI_.Q_NB267_269; have Q_NB270_267 := hI_.Q_NB270_267; have Q_NB267_270 := hI_.Q_NB267_270; have Q_NB269_268 := hI_.Q_NB269_268; have Q_NB268_269 := hI_.Q_NB268_269; have Q_NB270_268 := hI_.Q_NB270_268; have Q_NB268_270 := hI_.Q_NB268_270; have Q_NB270_269 := hI_.Q_NB270_269; have Q_NB269_270 := hI_.Q_NB269_270; have Q_HO249 := hI_.Q_HO249; have Q_HO253 := hI_.Q_HO253; have Q_HO257 := hI_.Q_HO257; have Q_HO261 := hI_.Q_HO261; have Q_HO265 := hI_.Q_HO265; have Q_BK266 := hI_.Q_BK266; have Q_GW266 := hI_.Q_GW266; have Q_GE266 := hI_.Q_GE266; have Q_NB244_266 := hI_.Q_NB244_266; have Q_NB266_244 := hI_.Q_NB266_244; have Q_BK267 := hI_.Q_BK267; have Q_GW267 := hI_.Q_GW267; have Q_GE267 := hI_.Q_GE267; have Q_NB244_267 := hI_.Q_NB244_267; have Q_NB267_244 := hI_.Q_NB267_244; have Q_BK268 := hI_.Q_BK268; have Q_GW268 := hI_.Q_GW268; have Q_GE268 := hI_.Q_GE268; have Q_NB244_268 := hI_.Q_NB244_268; have Q_NB268_244 := hI_.Q_NB268_244; have Q_BK269 := hI_.Q_BK269; have Q_GW269 := hI_.Q_GW269; have Q_GE269 := hI_.Q_GE269; have Q_NB244_269 := hI_.Q_NB244_269; have Q_NB269_244 := hI_.Q_NB269_244; have Q_BK270 := hI_.Q_BK270; have Q_GW270 := hI_.Q_GW270; have Q_GE270 := hI_.Q_GE270; have Q_NB244_270 := hI_.Q_NB244_270; have Q_NB270_244 := hI_.Q_NB270_244; have Q_BK266_e16 := hI_.Q_BK266_e16; have Q_BK267_e17 := hI_.Q_BK267_e17; have Q_BK268_e18 := hI_.Q_BK268_e18; have Q_BK269_e19 := hI_.Q_BK269_e19; have Q_BK270_e20 := hI_.Q_BK270_e20; have Q_X1_ := hI_.Q_X1_; have Q_X3_ := hI_.Q_X3_; have Q_X5_ := hI_.Q_X5_; have Q_X8_ := hI_.Q_X8_; have Q_X10_ := hI_.Q_X10_; have Q_X11_ := hI_.Q_X11_; have Q_X12_ := hI_.Q_X12_; have Q_X13_ := hI_.Q_X13_; have Q_X14_ := hI_.Q_X14_; have Q_X15_ := hI_.Q_X15_
         clear hI_
         refine ⟨_, rfl, fun K hK => ?_⟩
         have e8 : a.tmps[8]? = some (m14_) := by rw [ha]; exact putSel_on (e := (14, 8, m14_)) 13 rfl rfl (hon 14 (by kernel_rfl)) rfl
         rw [Q_X14_ (hon 14 (by kernel_rfl))] at e8
         have e20 : a.tmps[20]? = some (m8_) := by rw [ha]; exact putSel_on (e := (8, 20, m8_)) 7 rfl rfl (hon 8 (by kernel_rfl)) rfl
         rw [Q_X8_ (hon 8 (by kernel_rfl))] at e20
         replace ha := Aside0.mk ha
         have BK244 := Aside0.mk Q_BK244
         have HB := Aside0.mk Q_HB
         have NB267_266 := Aside0.mk (Q_NB267_266 (hon 11 (by kernel_rfl)) (hon 12 (by kernel_rfl)))
         have NB266_267 := Aside0.mk (Q_NB266_267 (hon 11 (by kernel_rfl)) (hon 12 (by kernel_rfl)))
         have NB268_266 := Aside0.mk (Q_NB268_266 (hon 11 (by kernel_rfl)) (hon 13 (by kernel_rfl)))
         have NB266_268 := Aside0.mk (Q_NB266_268 (hon 11 (by kernel_rfl)) (hon 13 (by kernel_rfl)))
         have NB269_266 := Aside0.mk (Q_NB269_266 (hon 11 (by kernel_rfl)) (hon 14 (by kernel_rfl)))
         have NB266_269 := Aside0.mk (Q_NB266_269 (hon 11 (by kernel_rfl)) (hon 14 (by kernel_rfl)))
         have NB270_266 := Aside0.mk (Q_NB270_266 (hon 11 (by kernel_rfl)) (hon 15 (by kernel_rfl)))
         have NB266_270 := Aside0.mk (Q_NB266_270 (hon 11 (by kernel_rfl)) (hon 15 (by kernel_rfl)))
         have NB268_267 := Aside0.mk (Q_NB268_267 (hon 12 (by kernel_rfl)) (hon 13 (by kernel_rfl)))
         have NB267_268 := Aside0.mk (Q_NB267_268 (hon 12 (by kernel_rfl)) (hon 13 (by kernel_rfl)))
         have NB269_267 := Aside0.mk (Q_NB269_267 (hon 12 (by kernel_rfl)) (hon 14 (by kernel_rfl)))
         have NB267_269 := Aside0.mk (Q_NB267_269 (hon 12 (by kernel_rfl)) (hon 14 (by kernel_rfl)))
         have NB270_267 := Aside0.mk (Q_NB270_267 (hon 12 (by kernel_rfl)) (hon 15 (by kernel_rfl)))
         have NB267_270 := Aside0.mk (Q_NB267_270 (hon 12 (by kernel_rfl)) (hon 15 (by kernel_rfl)))
         have NB269_268 := Aside0.mk (Q_NB269_268 (hon 13 (by kernel_rfl)) (hon 14 (by kernel_rfl)))
         have NB268_269 := Aside0.mk (Q_NB268_269 (hon 13 (by kernel_rfl)) (hon 14 (by kernel_rfl)))
         have NB270_268 := Aside0.mk (Q_NB270_268 (hon 13 (by kernel_rfl)) (hon 15 (by kernel_rfl)))
         have NB268_270 := Aside0.mk (Q_NB268_270 (hon 13 (by kernel_rfl)) (hon 15 (by kernel_rfl)))
         have NB270_269 := Aside0.mk (Q_NB270_269 (hon 14 (by kernel_rfl)) (hon 15 (by kernel_rfl)))
         have NB269_270 := Aside0.mk (Q_NB269_270 (hon 14 (by kernel_rfl)) (hon 15 (by kernel_rfl)))
         have HO249 := Aside0.mk (Q_HO249 (hon 1 (by kernel_rfl)))
         have HO253 := Aside0.mk (Q_HO253 (hon 3 (by kernel_rfl)))
         have HO257 := Aside0.mk (Q_HO257 (hon 5 (by kernel_rfl)))
         have HO261 := Aside0.mk (Q_HO261 (hon 8 (by kernel_rfl)))
         have HO265 := Aside0.mk (Q_HO265 (hon 10 (by kernel_rfl)))
         have GW266 := Aside0.mk (Q_GW266 (hon 11 (by kernel_rfl)))
         have GE266 := Aside0.mk (Q_GE266 (hon 11 (by kernel_rfl)))
         have NB244_266 := Aside0.mk (Q_NB244_266 (hon 11 (by kernel_rfl)))
         have NB266_244 := Aside0.mk (Q_NB266_244 (hon 11 (by kernel_rfl)))
         have GW267 := Aside0.mk (Q_GW267 (hon 12 (by kernel_rfl)))
         have GE267 := Aside0.mk (Q_GE267 (hon 12 (by kernel_rfl)))
         have NB244_267 := Aside0.mk (Q_NB244_267 (hon 12 (by kernel_rfl)))
         have NB267_244 := Aside0.mk (Q_NB267_244 (hon 12 (by kernel_rfl)))
         have GW268 := Aside0.mk (Q_GW268 (hon 13 (by kernel_rfl)))
         have GE268 := Aside0.mk (Q_GE268 (hon 13 (by kernel_rfl)))
         have NB244_268 := Aside0.mk (Q_NB244_268 (hon 13 (by kernel_rfl)))
         have NB268_244 := Aside0.mk (Q_NB268_244 (hon 13 (by kernel_rfl)))
         have BK269 := Aside0.mk (Q_BK269 (hon 14 (by kernel_rfl)) hb_)
         have GW269 := Aside0.mk (Q_GW269 (hon 14 (by kernel_rfl)))
         have GE269 := Aside0.mk (Q_GE269 (hon 14 (by kernel_rfl)))
         have NB244_269 := Aside0.mk (Q_NB244_269 (hon 14 (by kernel_rfl)))
         have NB269_244 := Aside0.mk (Q_NB269_244 (hon 14 (by kernel_rfl)))
         have BK270 := Aside0.mk (Q_BK270 (hon 15 (by kernel_rfl)) (hoff 20 (by kernel_rfl)))
         have GW270 := Aside0.mk (Q_GW270 (hon 15 (by kernel_rfl)))
         have GE270 := Aside0.mk (Q_GE270 (hon 15 (by kernel_rfl)))
         have NB244_270 := Aside0.mk (Q_NB244_270 (hon 15 (by kernel_rfl)))
         have NB270_244 := Aside0.mk (Q_NB270_244 (hon 15 (by kernel_rfl)))
         have BK266 := Aside0.mk (Q_BK266_e16 (hon 16 (by kernel_rfl)))
         have BK267 := Aside0.mk (Q_BK267_e17 (hon 17 (by kernel_rfl)))
         have BK268 := Aside0.mk (Q_BK268_e18 (hon 18 (by kernel_rfl)))
         obtain ⟨Ao50, co50, eo50⟩ := Kd.R_slice HO261.out
         (first | subst eo50 | (injection eo50 with f1_ f2_ f3_; have f4_ := f1_.symm; have f5_ := f3_.symm; clear f1_ f2_ f3_; subst f4_; subst f5_))
         have hs49 : w'.cell? ⟨gb269, 0, none⟩ = some (.string (⟨#[]⟩ : ByteArray)) := (blk_cell BK269.out 0).trans rfl
         have hfs49 := blk_frozen BK269.out 0
         have hns49_0 := NB244_269.out
         have hns49_1 := NB266_269.out
         have hns49_2 := NB267_269.out
         have hns49_3 := NB268_269.out
         have hns49_5 := NB270_269.out
         have hms49_0 := NB269_244.out
         have hms49_1 := NB269_266.out
         have hms49_2 := NB269_267.out
         have hms49_3 := NB269_268.out
         have hms49_5 := NB269_270.out
         have hs51 : w'.cell? ⟨gb269, 1, none⟩ = some (.slice none 0 0) := (blk_cell BK269.out 1).trans rfl
         have hfs51 := blk_frozen BK269.out 1
         have hns51_0 := NB244_269.out
         have hns51_1 := NB266_269.out
         have hns51_2 := NB267_269.out
         have hns51_3 := NB268_269.out
         have hns51_5 := NB270_269.out
         have hms51_0 := NB269_244.out
         have hms51_1 := NB269_266.out
         have hms51_2 := NB269_267.out
         have hms51_3 := NB269_268.out
         have hms51_5 := NB269_270.out
         refine skip_ (w1 := ?_) (by rfl) rfl ?_ ?_
         rotate_left
         ·
          go_simp
          rfl
         refine hK.out _ _ ⟨v248, v252, v256, .slice Ao50 t259.length co50, v264, gb266, gb267, gb268, gb269, gb270, m1_, m3_, m5_, m8_, m10_, m11_, m12_, m13_, m14_, m15_, (by rw [ha.out]; exact putSel_none (v := undef) rfl), (by (with_reducible repeat (first | refine blk_drewN ?_ _ | refine blk_drew ?_ | refine blk_alloc ?_ _)); refine blk_far ?_ NB244_269.out _; (with_reducible repeat (first | refine blk_drewN ?_ _ | refine blk_drew ?_ | refine blk_alloc ?_ _)); refine blk_far ?_ NB244_269.out _; (with_reducible repeat (first | refine blk_drewN ?_ _ | refine blk_drew ?_ | refine blk_alloc ?_ _)); exact BK244.out), (by repeat (first | (with_reducible first | exact HB.out | apply below_alloc | apply pw_below_drewN | apply below_drew1 | refine below_set ?_ GE244.out | refine below_set ?_ GE266.out | refine below_set ?_ GE267.out | refine below_set ?_ GE268.out | refine below_set ?_ GE269.out | refine below_set ?_ GE270.out) | exact HB.out)), fun _ _ => NB267_266.out, fun _ _ => NB266_267.out, fun _ _ => NB268_266.out, fun _ _ => NB266_268.out, fun _ _ => NB269_266.out, fun _ _ => NB266_269.out, fun _ _ => NB270_266.out, fun _ _ => NB266_270.out, fun _ _ => NB268_267.out, fun _ _ => NB267_268.out, fun _ _ => NB269_267.out, fun _ _ => NB267_269.out, fun _ _ => NB270_267.out, fun _ _ => NB267_270.out, fun _ _ => NB269_268.out, fun _ _ => NB268_269.out, fun _ _ => NB270_268.out, fun _ _ => NB268_270.out, fun _ _ => NB270_269.out, fun _ _ => NB269_270.out, fun _ => (by (with_reducible repeat (first | apply Kd.R_alloc | apply Kd.R_drewN | apply Kd.R_drew)); exact Kd.R_mono (Kd.R_far (p := ⟨gb269, 1, none⟩) (Kd.R_far (p := ⟨gb269, 0, none⟩) (Kd.R_types HO249.out BK269.out (by decide)) (fun _ hk => hk.2) (.string t258)) (fun _ hk => hk.2) (.slice Ao50 t259.length co50)) (fun _ _ => trivial)), fun _ => (by (with_reducible repeat (first | apply Kd.R_alloc | apply Kd.R_drewN | apply Kd.R_drew)); exact Kd.R_mono (Kd.R_far (p := ⟨gb269, 1, none⟩) (Kd.R_far (p := ⟨gb269, 0, none⟩) (Kd.R_types HO253.out BK269.out (by decide)) (fun _ hk => hk.2) (.string t258)) (fun _ hk => hk.2) (.slice Ao50 t259.length co50)) (fun _ _ => trivial)), fun _ => (by (with_reducible repeat (first | apply Kd.R_alloc | apply Kd.R_drewN | apply Kd.R_drew)); exact Kd.R_mono (Kd.R_far (p := ⟨gb269, 1, none⟩) (Kd.R_far (p := ⟨gb269, 0, none⟩) (Kd.R_types HO257.out BK269.out (by decide)) (fun _ hk => hk.2) (.string t258)) (fun _ hk => hk.2) (.slice Ao50 t259.length co50)) (fun _ _ => trivial)), fun _ => (by (with_reducible repeat (first | apply Kd.R_alloc | apply Kd.R_drewN | apply Kd.R_drew)); exact Kd.R_mono (Kd.R_far (p := ⟨gb269, 1, none⟩) (Kd.R_far (p := ⟨gb269, 0, none⟩) (Kd.R_types HO261.out BK269.out (by decide)) (fun _ hk => hk.2) (.string t258)) (fun _ hk => hk.2) (.slice Ao50 t259.length co50)) (fun _ _ => trivial)), fun _ => (by (with_reducible repeat (first | apply Kd.R_alloc | apply Kd.R_drewN | apply Kd.R_drew)); exact Kd.R_mono (Kd.R_far (p := ⟨gb269, 1, none⟩) (Kd.R_far (p := ⟨gb269, 0, none⟩) (Kd.R_types HO265.out BK269.out (by decide)) (fun _ hk => hk.2) (.string t258)) (fun _ hk => hk.2) (.slice Ao50 t259.length co50)) (fun _ _ => trivial)), fun _ h1_ => absurd ((hon 16 (by kernel_rfl)).symm.trans h1_) (by decide), fun _ => GW266.out, fun _ => GE266.out, fun _ => NB244_266.out, fun _ => NB266_244.out, fun _ h1_ => absurd ((hon 17 (by kernel_rfl)).symm.trans h1_) (by decide), fun _ => GW267.out, fun _ => GE267.out, fun _ => NB244_267.out, fun _ => NB267_244.out, fun _ h1_ => absurd ((hon 18 (by kernel_rfl)).symm.trans h1_) (by decide), fun _ => GW268.out, fun _ => GE268.out, fun _ => NB244_268.out, fun _ => NB268_244.out, fun _ h1_ => absurd ((up_self b 19).symm.trans h1_) (by decide), fun _ => GW269.out, fun _ => GE269.out, fun _ => NB244_269.out, fun _ => NB269_244.out, fun _ _ => (by (with_reducible repeat (first | refine blk_drewN ?_ _ | refine blk_drew ?_ | refine blk_alloc ?_ _)); refine blk_far ?_ NB270_269.out _; (with_reducible repeat (first | refine blk_drewN ?_ _ | refine blk_drew ?_ | refine blk_alloc ?_ _)); refine blk_far ?_ NB270_269.out _; (with_reducible repeat (first | refine blk_drewN ?_ _ | refine blk_drew ?_ | refine blk_alloc ?_ _)); exact BK270.out), fun _ => GW270.out, fun _ => GE270.out, fun _ => NB244_270.out, fun _ => NB270_244.out, fun _ => (by (with_reducible repeat (first | refine blk_drewN ?_ _ | refine blk_drew ?_ | refine blk_alloc ?_ _)); refine blk_far ?_ NB266_269.out _; (with_reducible repeat (first | refine blk_drewN ?_ _ | refine blk_drew ?_ | refine blk_alloc ?_ _)); refine blk_far ?_ NB266_269.out _; (with_reducible repeat (first | refine blk_drewN ?_ _ | refine blk_drew ?_ | refine blk_alloc ?_ _)); exact BK266.out), fun _ => (by (with_reducible repeat (first | refine blk_drewN ?_ _ | refine blk_drew ?_ | refine blk_alloc ?_ _)); refine blk_far ?_ NB267_269.out _; (with_reducible repeat (first | refine blk_drewN ?_ _ | refine blk_drew ?_ | refine blk_alloc ?_ _)); refine blk_far ?_ NB267_269.out _; (with_reducible repeat (first | refine blk_drewN ?_ _ | refine blk_drew ?_ | refine blk_alloc ?_ _)); exact BK267.out), fun _ => (by (with_reducible repeat (first | refine blk_drewN ?_ _ | refine blk_drew ?_ | refine blk_alloc ?_ _)); refine blk_far ?_ NB268_269.out _; (with_reducible repeat (first | refine blk_drewN ?_ _ | refine blk_drew ?_ | refine blk_alloc ?_ _)); refine blk_far ?_ NB268_269.out _; (with_reducible repeat (first | refine blk_drewN ?_ _ | refine blk_drew ?_ | refine blk_alloc ?_ _)); exact BK268.out), fun _ => (by (with_reducible repeat (first | refine blk_drewN ?_ _ | refine blk_drew ?_ | refine blk_alloc ?_ _)); refine blk_put (cs := #[.string t258, .slice none 0 0]) ?_ 1 _ rfl; (with_reducible repeat (first | refine blk_drewN ?_ _ | refine blk_drew ?_ | refine blk_alloc ?_ _)); refine blk_put (cs := #[.string (⟨#[]⟩ : ByteArray), .slice none 0 0]) ?_ 0 _ rfl; (with_reducible repeat (first | refine blk_drewN ?_ _ | refine blk_drew ?_ | refine blk_alloc ?_ _)); exact BK269.out), fun h0_ => absurd ((hoff 20 (by kernel_rfl)).symm.trans h0_) (by decide), Q_X1_, Q_X3_, Q_X5_, Q_X8_, Q_X10_, Q_X11_, Q_X12_, Q_X13_, Q_X14_, Q_X15_⟩
        refine steps_cons ?_ ?_
        ·
         rintro b a w' ⟨v248, v252, v256, v260, v264, gb266, gb267, gb268, gb269, gb270, m1_, m3_, m5_, m8_, m10_, m11_, m12_, m13_, m14_, m15_, hI_⟩ hb_ hon hoff
         have ha := hI_.ha; have Q_BK244 := hI_.Q_BK244; have Q_HB := hI_.Q_HB; have Q_NB267_266 := hI_.Q_NB267_266; have Q_NB266_267 := hI_.Q_NB266_267; have Q_NB268_266 := hI_.Q_NB268_266; have Q_NB266_268 := hI_.Q_NB266_268; have Q_NB269_266 := hI_.Q_NB269_266; have Q_NB266_269 := hI_.Q_NB266_269; have Q_NB270_266 := hI_.Q_NB270_266; have Q_NB266_270 := hI_.Q_NB266_270; have Q_NB268_267 := hI_.Q_NB268_267; have Q_NB267_268 := hI_.Q_NB267_268; have Q_NB269_267 := hI_.Q_NB269_267; have Q_NB267_269 := hI_.Q_NB267_269; have Q_NB270_267 := hI_.Q_NB270_267; have Q_NB267_270 := hI_.Q_NB267_270; have Q_NB269_268 := hI_.Q_NB269_268; have Q_NB268_269 := hI_.Q_NB268_269; have Q_NB270_268 := hI_.Q_NB270_268; have Q_NB268_270 := hI_.Q_NB268_270; have Q_NB270_269 := hI_.Q_NB270_269; have Q_NB269_270 := hI_.Q_NB269_270; have Q_HO249 := hI_.Q_HO249; have Q_HO253 := hI_.Q_HO253; have Q_HO257 := hI_.Q_HO257; have Q_HO261 := hI_.Q_HO261; have Q_HO265 := hI_.Q_HO265; have Q_BK266 := hI_.Q_BK266; have Q_GW266 := hI_.Q_GW266; have Q_GE266 := hI_.Q_GE266; have Q_NB244_266 := hI_.Q_NB244_266; have Q_NB266_244 := hI_.Q_NB266_244; have Q_BK267 := hI_.Q_BK267; have Q_GW267 := hI_.Q_GW267; have Q_GE267 := hI_.Q_GE267; have Q_NB244_267 := hI_.Q_NB244_267; have Q_NB267_244 := hI_.Q_NB267_244; have Q_BK268 := hI_.Q_BK268; have Q_GW268 := hI_.Q_GW268; have Q_GE268 := hI_.Q_GE268; have Q_NB244_268 := hI_.Q_NB244_268; have Q_NB268_244 := hI_.Q_NB268_244; have Q_BK269 := hI_.Q_BK269; have Q_GW269 := hI_.Q_GW269; have Q_GE269 := hI_.Q_GE269; have Q_NB244_269 := hI_.Q_NB244_269; have Q_NB269_244 := hI_.Q_NB269_244; have Q_BK270 := hI_.Q_BK270; have Q_GW270 := hI_.Q_GW270; have Q_GE270 := hI_.Q_GE270; have Q_NB244_270 := hI_.Q_NB244_270; have Q_NB270_244 := hI_.Q_NB270_244; have Q_BK266_e16 := hI_.Q_BK266_e16; have Q_BK267_e17 := hI_.Q_BK267_e17; have Q_BK268_e18 := hI_.Q_BK268_e18; have Q_BK269_e19 := hI_.Q_BK269_e19; have Q_BK270_e20 := hI_.Q_BK270_e20; have Q_X1_ := hI_.Q_X1_; have Q_X3_ := hI_.Q_X3_; have Q_X5_ := hI_.Q_X5_; have Q_X8_ := hI_.Q_X8_; have Q_X10_ := hI_.Q_X10_; have Q_X11_ := hI_.Q_X11_; have Q_X12_ := hI_.Q_X12_; have Q_X13_ := hI_.Q_X13_; have Q_X14_ := hI_.Q_X14_; have Q_X15_ := hI_.Q_X15_
         clear hI_
         refine ⟨_, rfl, fun K hK => ?_⟩
         have e9 : a.tmps[9]? = some (m15_) := by rw [ha]; exact putSel_on (e := (15, 9, m15_)) 14 rfl rfl (hon 15 (by kernel_rfl)) rfl
         rw [Q_X15_ (hon 15 (by kernel_rfl))] at e9
         have e22 : a.tmps[22]? = some (m10_) := by rw [ha]; exact putSel_on (e := (10, 22, m10_)) 9 rfl rfl (hon 10 (by kernel_rfl)) rfl
         rw [Q_X10_ (hon 10 (by kernel_rfl))] at e22
         replace ha := Aside0.mk ha
         have BK244 := Aside0.mk Q_BK244
         have HB := Aside0.mk Q_HB
         have NB267_266 := Aside0.mk (Q_NB267_266 (hon 11 (by kernel_rfl)) (hon 12 (by kernel_rfl)))
         have NB266_267 := Aside0.mk (Q_NB266_267 (hon 11 (by kernel_rfl)) (hon 12 (by kernel_rfl)))
         have NB268_266 := Aside0.mk (Q_NB268_266 (hon 11 (by kernel_rfl)) (hon 13 (by kernel_rfl)))
         have NB266_268 := Aside0.mk (Q_NB266_268 (hon 11 (by kernel_rfl)) (hon 13 (by kernel_rfl)))
         have NB269_266 := Aside0.mk (Q_NB269_266 (hon 11 (by kernel_rfl)) (hon 14 (by kernel_rfl)))
         have NB266_269 := Aside0.mk (Q_NB266_269 (hon 11 (by kernel_rfl)) (hon 14 (by kernel_rfl)))
         have NB270_266 := Aside0.mk (Q_NB270_266 (hon 11 (by kernel_rfl)) (hon 15 (by kernel_rfl)))
         have NB266_270 := Aside0.mk (Q_NB266_270 (hon 11 (by kernel_rfl)) (hon 15 (by kernel_rfl)))
         have NB268_267 := Aside0.mk (Q_NB268_267 (hon 12 (by kernel_rfl)) (hon 13 (by kernel_rfl)))
         have NB267_268 := Aside0.mk (Q_NB267_268 (hon 12 (by kernel_rfl)) (hon 13 (by kernel_rfl)))
         have NB269_267 := Aside0.mk (Q_NB269_267 (hon 12 (by kernel_rfl)) (hon 14 (by kernel_rfl)))
         have NB267_269 := Aside0.mk (Q_NB267_269 (hon 12 (by kernel_rfl)) (hon 14 (by kernel_rfl)))
         have NB270_267 := Aside0.mk (Q_NB270_267 (hon 12 (by kernel_rfl)) (hon 15 (by kernel_rfl)))
         have NB267_270 := Aside0.mk (Q_NB267_270 (hon 12 (by kernel_rfl)) (hon 15 (by kernel_rfl)))
         have NB269_268 := Aside0.mk (Q_NB269_268 (hon 13 (by kernel_rfl)) (hon 14 (by kernel_rfl)))
         have NB268_269 := Aside0.mk (Q_NB268_269 (hon 13 (by kernel_rfl)) (hon 14 (by kernel_rfl)))
         have NB270_268 := Aside0.mk (Q_NB270_268 (hon 13 (by kernel_rfl)) (hon 15 (by kernel_rfl)))
         have NB268_270 := Aside0.mk (Q_NB268_270 (hon 13 (by kernel_rfl)) (hon 15 (by kernel_rfl)))
         have NB270_269 := Aside0.mk (Q_NB270_269 (hon 14 (by kernel_rfl)) (hon 15 (by kernel_rfl)))
         have NB269_270 := Aside0.mk (Q_NB269_270 (hon 14 (by kernel_rfl)) (hon 15 (by kernel_rfl)))
         have HO249 := Aside0.mk (Q_HO249 (hon 1 (by kernel_rfl)))
         have HO253 := Aside0.mk (Q_HO253 (hon 3 (by kernel_rfl)))
         have HO257 := Aside0.mk (Q_HO257 (hon 5 (by kernel_rfl)))
         have HO261 := Aside0.mk (Q_HO261 (hon 8 (by kernel_rfl)))
         have HO265 := Aside0.mk (Q_HO265 (hon 10 (by kernel_rfl)))
         have GW266 := Aside0.mk (Q_GW266 (hon 11 (by kernel_rfl)))
         have GE266 := Aside0.mk (Q_GE266 (hon 11 (by kernel_rfl)))
         have NB244_266 := Aside0.mk (Q_NB244_266 (hon 11 (by kernel_rfl)))
         have NB266_244 := Aside0.mk (Q_NB266_244 (hon 11 (by kernel_rfl)))
         have GW267 := Aside0.mk (Q_GW267 (hon 12 (by kernel_rfl)))
         have GE267 := Aside0.mk (Q_GE267 (hon 12 (by kernel_rfl)))
         have NB244_267 := Aside0.mk (Q_NB244_267 (hon 12 (by kernel_rfl)))
         have NB267_244 := Aside0.mk (Q_NB267_244 (hon 12 (by kernel_rfl)))
         have GW268 := Aside0.mk (Q_GW268 (hon 13 (by kernel_rfl)))
         have GE268 := Aside0.mk (Q_GE268 (hon 13 (by kernel_rfl)))
         have NB244_268 := Aside0.mk (Q_NB244_268 (hon 13 (by kernel_rfl)))
         have NB268_244 := Aside0.mk (Q_NB268_244 (hon 13 (by kernel_rfl)))
         have GW269 := Aside0.mk (Q_GW269 (hon 14 (by kernel_rfl)))
         have GE269 := Aside0.mk (Q_GE269 (hon 14 (by kernel_rfl)))
         have NB244_269 := Aside0.mk (Q_NB244_269 (hon 14 (by kernel_rfl)))
         have NB269_244 := Aside0.mk (Q_NB269_244 (hon 14 (by kernel_rfl)))
         have BK270 := Aside0.mk (Q_BK270 (hon 15 (by kernel_rfl)) hb_)
         have GW270 := Aside0.mk (Q_GW270 (hon 15 (by kernel_rfl)))
         have GE270 := Aside0.mk (Q_GE270 (hon 15 (by kernel_rfl)))
         have NB244_270 := Aside0.mk (Q_NB244_270 (hon 15 (by kernel_rfl)))
         have NB270_244 := Aside0.mk (Q_NB270_244 (hon 15 (by kernel_rfl)))
         have BK266 := Aside0.mk (Q_BK266_e16 (hon 16 (by kernel_rfl)))
         have BK267 := Aside0.mk (Q_BK267_e17 (hon 17 (by kernel_rfl)))
         have BK268 := Aside0.mk (Q_BK268_e18 (hon 18 (by kernel_rfl)))
         have BK269 := Aside0.mk (Q_BK269_e19 (hon 19 (by kernel_rfl)))
         obtain ⟨Ao53, co53, eo53⟩ := Kd.R_slice HO265.out
         (first | subst eo53 | (injection eo53 with f1_ f2_ f3_; have f4_ := f1_.symm; have f5_ := f3_.symm; clear f1_ f2_ f3_; subst f4_; subst f5_))
         have hs52 : w'.cell? ⟨gb270, 0, none⟩ = some (.string (⟨#[]⟩ : ByteArray)) := (blk_cell BK270.out 0).trans rfl
         have hfs52 := blk_frozen BK270.out 0
         have hns52_0 := NB244_270.out
         have hns52_1 := NB266_270.out
         have hns52_2 := NB267_270.out
         have hns52_3 := NB268_270.out
         have hns52_4 := NB269_270.out
         have hms52_0 := NB270_244.out
         have hms52_1 := NB270_266.out
         have hms52_2 := NB270_267.out
         have hms52_3 := NB270_268.out
         have hms52_4 := NB270_269.out
         have hs54 : w'.cell? ⟨gb270, 1, none⟩ = some (.slice none 0 0) := (blk_cell BK270.out 1).trans rfl
         have hfs54 := blk_frozen BK270.out 1
         have hns54_0 := NB244_270.out
         have hns54_1 := NB266_270.out
         have hns54_2 := NB267_270.out
         have hns54_3 := NB268_270.out
         have hns54_4 := NB269_270.out
         have hms54_0 := NB270_244.out
         have hms54_1 := NB270_266.out
         have hms54_2 := NB270_267.out
         have hms54_3 := NB270_268.out
         have hms54_4 := NB270_269.out
         refine skip_ (w1 := ?_) (by rfl) rfl ?_ ?_
         rotate_left
         ·
          go_simp
          rfl
         refine hK.out _ _ ⟨v248, v252, v256, v260, .slice Ao53 t263.length co53, gb266, gb267, gb268, gb269, gb270, m1_, m3_, m5_, m8_, m10_, m11_, m12_, m13_, m14_, m15_, (by rw [ha.out]; exact putSel_none (v := undef) rfl), (by (with_reducible repeat (first | refine blk_drewN ?_ _ | refine blk_drew ?_ | refine blk_alloc ?_ _)); refine blk_far ?_ NB244_270.out _; (with_reducible repeat (first | refine blk_drewN ?_ _ | refine blk_drew ?_ | refine blk_alloc ?_ _)); refine blk_far ?_ NB244_270.out _; (with_reducible repeat (first | refine blk_drewN ?_ _ | refine blk_drew ?_ | refine blk_alloc ?_ _)); exact BK244.out), (by repeat (first | (with_reducible first | exact HB.out | apply below_alloc | apply pw_below_drewN | apply below_drew1 | refine below_set ?_ GE244.out | refine below_set ?_ GE266.out | refine below_set ?_ GE267.out | refine below_set ?_ GE268.out | refine below_set ?_ GE269.out | refine below_set ?_ GE270.out) | exact HB.out)), fun _ _ => NB267_266.out, fun _ _ => NB266_267.out, fun _ _ => NB268_266.out, fun _ _ => NB266_268.out, fun _ _ => NB269_266.out, fun _ _ => NB266_269.out, fun _ _ => NB270_266.out, fun _ _ => NB266_270.out, fun _ _ => NB268_267.out, fun _ _ => NB267_268.out, fun _ _ => NB269_267.out, fun _ _ => NB267_269.out, fun _ _ => NB270_267.out, fun _ _ => NB267_270.out, fun _ _ => NB269_268.out, fun _ _ => NB268_269.out, fun _ _ => NB270_268.out, fun _ _ => NB268_270.out, fun _ _ => NB270_269.out, fun _ _ => NB269_270.out, fun _ => (by (with_reducible repeat (first | apply Kd.R_alloc | apply Kd.R_drewN | apply Kd.R_drew)); exact Kd.R_mono (Kd.R_far (p := ⟨gb270, 1, none⟩) (Kd.R_far (p := ⟨gb270, 0, none⟩) (Kd.R_types HO249.out BK270.out (by decide)) (fun _ hk => hk.2) (.string t262)) (fun _ hk => hk.2) (.slice Ao53 t263.length co53)) (fun _ _ => trivial)), fun _ => (by (with_reducible repeat (first | apply Kd.R_alloc | apply Kd.R_drewN | apply Kd.R_drew)); exact Kd.R_mono (Kd.R_far (p := ⟨gb270, 1, none⟩) (Kd.R_far (p := ⟨gb270, 0, none⟩) (Kd.R_types HO253.out BK270.out (by decide)) (fun _ hk => hk.2) (.string t262)) (fun _ hk => hk.2) (.slice Ao53 t263.length co53)) (fun _ _ => trivial)), fun _ => (by (with_reducible repeat (first | apply Kd.R_alloc | apply Kd.R_drewN | apply Kd.R_drew)); exact Kd.R_mono (Kd.R_far (p := ⟨gb270, 1, none⟩) (Kd.R_far (p := ⟨gb270, 0, none⟩) (Kd.R_types HO257.out BK270.out (by decide)) (fun _ hk => hk.2) (.string t262)) (fun _ hk => hk.2) (.slice Ao53 t263.length co53)) (fun _ _ => trivial)), fun _ => (by (with_reducible repeat (first | apply Kd.R_alloc | apply Kd.R_drewN | apply Kd.R_drew)); exact Kd.R_mono (Kd.R_far (p := ⟨gb270, 1, none⟩) (Kd.R_far (p := ⟨gb270, 0, none⟩) (Kd.R_types HO261.out BK270.out (by decide)) (fun _ hk => hk.2) (.string t262)) (fun _ hk => hk.2) (.slice Ao53 t263.length co53)) (fun _ _ => trivial)), fun _ => (by (with_reducible repeat (first | apply Kd.R_alloc | apply Kd.R_drewN | apply Kd.R_drew)); exact Kd.R_mono (Kd.R_far (p := ⟨gb270, 1, none⟩) (Kd.R_far (p := ⟨gb270, 0, none⟩) (Kd.R_types HO265.out BK270.out (by decide)) (fun _ hk => hk.2) (.string t262)) (fun _ hk => hk.2) (.slice Ao53 t263.length co53)) (fun _ _ => trivial)), fun _ h1_ => absurd ((hon 16 (by kernel_rfl)).symm.trans h1_) (by decide), fun _ => GW266.out, fun _ => GE266.out, fun _ => NB244_266.out, fun _ => NB266_244.out, fun _ h1_ => absurd ((hon 17 (by kernel_rfl)).symm.trans h1_) (by decide), fun _ => GW267.out, fun _ => GE267.out, fun _ => NB244_267.out, fun _ => NB267_244.out, fun _ h1_ => absurd ((hon 18 (by kernel_rfl)).symm.trans h1_) (by decide), fun _ => GW268.out, fun _ => GE268.out, fun _ => NB244_268.out, fun _ => NB268_244.out, fun _ h1_ => absurd ((hon 19 (by kernel_rfl)).symm.trans h1_) (by decide), fun _ => GW269.out, fun _ => GE269.out, fun _ => NB244_269.out, fun _ => NB269_244.out, fun _ h1_ => absurd ((up_self b 20).symm.trans h1_) (by decide), fun _ => GW270.out, fun _ => GE270.out, fun _ => NB244_270.out, fun _ => NB270_244.out, fun _ => (by (with_reducible repeat (first | refine blk_drewN ?_ _ | refine blk_drew ?_ | refine blk_alloc ?_ _)); refine blk_far ?_ NB266_270.out _; (with_reducible repeat (first | refine blk_drewN ?_ _ | refine blk_drew ?_ | refine blk_alloc ?_ _)); refine blk_far ?_ NB266_270.out _; (with_reducible repeat (first | refine blk_drewN ?_ _ | refine blk_drew ?_ | refine blk_alloc ?_ _)); exact BK266.out), fun _ => (by (with_reducible repeat (first | refine blk_drewN ?_ _ | refine blk_drew ?_ | refine blk_alloc ?_ _)); refine blk_far ?_ NB267_270.out _; (with_reducible repeat (first | refine blk_drewN ?_ _ | refine blk_drew ?_ | refine blk_alloc ?_ _)); refine blk_far ?_ NB267_270.out _; (with_reducible repeat (first | refine blk_drewN ?_ _ | refine blk_drew ?_ | refine blk_alloc ?_ _)); exact BK267.out), fun _ => (by (with_reducible repeat (first | refine blk_drewN ?_ _ | refine blk_drew ?_ | refine blk_alloc ?_ _)); refine blk_far ?_ NB268_270.out _; (with_reducible repeat (first | refine blk_drewN ?_ _ | refine blk_drew ?_ | refine blk_alloc ?_ _)); refine blk_far ?_ NB268_270.out _; (with_reducible repeat (first | refine blk_drewN ?_ _ | refine blk_drew ?_ | refine blk_alloc ?_ _)); exact BK268.out), fun _ => (by (with_reducible repeat (first | refine blk_drewN ?_ _ | refine blk_drew ?_ | refine blk_alloc ?_ _)); refine blk_far ?_ NB269_270.out _; (with_reducible repeat (first | refine blk_drewN ?_ _ | refine blk_drew ?_ | refine blk_alloc ?_ _)); refine blk_far ?_ NB269_270.out _; (with_reducible repeat (first | refine blk_drewN ?_ _ | refine blk_drew ?_ | refine blk_alloc ?_ _)); exact BK269.out), fun _ => (by (with_reducible repeat (first | refine blk_drewN ?_ _ | refine blk_drew ?_ | refine blk_alloc ?_ _)); refine blk_put (cs := #[.string t262, .slice none 0 0]) ?_ 1 _ rfl; (with_reducible repeat (first | refine blk_drewN ?_ _ | refine blk_drew ?_ | refine blk_alloc ?_ _)); refine blk_put (cs := #[.string (⟨#[]⟩ : ByteArray), .slice none 0 0]) ?_ 0 _ rfl; (with_reducible repeat (first | refine blk_drewN ?_ _ | refine blk_drew ?_ | refine blk_alloc ?_ _)); exact BK270.out), Q_X1_, Q_X3_, Q_X5_, Q_X8_, Q_X10_, Q_X11_, Q_X12_, Q_X13_, Q_X14_, Q_X15_⟩
        exact steps_nil
       rintro b a w54 hall ⟨v248, v252, v256, v260, v264, gb266, gb267, gb268, gb269, gb270, m1_, m3_, m5_, m8_, m10_, m11_, m12_, m13_, m14_, m15_, hI_⟩
       have ha := hI_.ha; have Q_BK244 := hI_.Q_BK244; have Q_HB := hI_.Q_HB; have Q_NB267_266 := hI_.Q_NB267_266; have Q_NB266_267 := hI_.Q_NB266_267; have Q_NB268_266 := hI_.Q_NB268_266; have Q_NB266_268 := hI_.Q_NB266_268; have Q_NB269_266 := hI_.Q_NB269_266; have Q_NB266_269 := hI_.Q_NB266_269; have Q_NB270_266 := hI_.Q_NB270_266; have Q_NB266_270 := hI_.Q_NB266_270; have Q_NB268_267 := hI_.Q_NB268_267; have Q_NB267_268 := hI_.Q_NB267_268; have Q_NB269_267 := hI_.Q_NB269_267; have Q_NB267_269 := hI_.Q_NB267_269; have Q_NB270_267 := hI_.Q_NB270_267; have Q_NB267_270 := hI_.Q_NB267_270; have Q_NB269_268 := hI_.Q_NB269_268; have Q_NB268_269 := hI_.Q_NB268_269; have Q_NB270_268 := hI_.Q_NB270_268; have Q_NB268_270 := hI_.Q_NB268_270; have Q_NB270_269 := hI_.Q_NB270_269; have Q_NB269_270 := hI_.Q_NB269_270; have Q_HO249 := hI_.Q_HO249; have Q_HO253 := hI_.Q_HO253; have Q_HO257 := hI_.Q_HO257; have Q_HO261 := hI_.Q_HO261; have Q_HO265 := hI_.Q_HO265; have Q_BK266 := hI_.Q_BK266; have Q_GW266 := hI_.Q_GW266; have Q_GE266 := hI_.Q_GE266; have Q_NB244_266 := hI_.Q_NB244_266; have Q_NB266_244 := hI_.Q_NB266_244; have Q_BK267 := hI_.Q_BK267; have Q_GW267 := hI_.Q_GW267; have Q_GE267 := hI_.Q_GE267; have Q_NB244_267 := hI_.Q_NB244_267; have Q_NB267_244 := hI_.Q_NB267_244; have Q_BK268 := hI_.Q_BK268; have Q_GW268 := hI_.Q_GW268; have Q_GE268 := hI_.Q_GE268; have Q_NB244_268 := hI_.Q_NB244_268; have Q_NB268_244 := hI_.Q_NB268_244; have Q_BK269 := hI_.Q_BK269; have Q_GW269 := hI_.Q_GW269; have Q_GE269 := hI_.Q_GE269; have Q_NB244_269 := hI_.Q_NB244_269; have Q_NB269_244 := hI_.Q_NB269_244; have Q_BK270 := hI_.Q_BK270; have Q_GW270 := hI_.Q_GW270; have Q_GE270 := hI_.Q_GE270; have Q_NB244_270 := hI_.Q_NB244_270; have Q_NB270_244 := hI_.Q_NB270_244; have Q_BK266_e16 := hI_.Q_BK266_e16; have Q_BK267_e17 := hI_.Q_BK267_e17; have Q_BK268_e18 := hI_.Q_BK268_e18; have Q_BK269_e19 := hI_.Q_BK269_e19; have Q_BK270_e20 := hI_.Q_BK270_e20; have Q_X1_ := hI_.Q_X1_; have Q_X3_ := hI_.Q_X3_; have Q_X5_ := hI_.Q_X5_; have Q_X8_ := hI_.Q_X8_; have Q_X10_ := hI_.Q_X10_; have Q_X11_ := hI_.Q_X11_; have Q_X12_ := hI_.Q_X12_; have Q_X13_ := hI_.Q_X13_; have Q_X14_ := hI_.Q_X14_; have Q_X15_ := hI_.Q_X15_
       clear hI_
       clear BK244 HB
       have hb0_ := hall 0 (by kernel_rfl)
       have hb1_ := hall 1 (by kernel_rfl)
       have hb2_ := hall 2 (by kernel_rfl)
       have hb3_ := hall 3 (by kernel_rfl)
       have hb4_ := hall 4 (by kernel_rfl)
       have hb5_ := hall 5 (by kernel_rfl)
       have hb6_ := hall 6 (by kernel_rfl)
       have hb8_ := hall 8 (by kernel_rfl)
       have hb9_ := hall 9 (by kernel_rfl)
       have hb10_ := hall 10 (by kernel_rfl)
       have hb11_ := hall 11 (by kernel_rfl)
       have hb12_ := hall 12 (by kernel_rfl)
       have hb13_ := hall 13 (by kernel_rfl)
       have hb14_ := hall 14 (by kernel_rfl)
       have hb15_ := hall 15 (by kernel_rfl)
       have hb16_ := hall 16 (by kernel_rfl)
       have hb17_ := hall 17 (by kernel_rfl)
       have hb18_ := hall 18 (by kernel_rfl)
       have hb19_ := hall 19 (by kernel_rfl)
       have hb20_ := hall 20 (by kernel_rfl)
       subst ha
       obtain rfl := Q_X1_ hb1_
       obtain rfl := Q_X3_ hb3_
       obtain rfl := Q_X5_ hb5_
       obtain rfl := Q_X8_ hb8_
       obtain rfl := Q_X10_ hb10_
       obtain rfl := Q_X11_ hb11_
       obtain rfl := Q_X12_ hb12_
       obtain rfl := Q_X13_ hb13_
       obtain rfl := Q_X14_ hb14_
       obtain rfl := Q_X15_ hb15_
       simp only [putSel, hb0_, hb1_, hb2_, hb3_, hb4_, hb5_, hb6_, hb8_, hb9_, hb10_, hb11_, hb12_, hb13_, hb14_, hb15_, hb16_, hb17_, hb18_, hb19_, hb20_, if_true, Act.put, List.setIfInBounds_toArray, List.set_cons_zero, List.set_cons_succ]
       have BK244 := Aside0.mk Q_BK244
       clear Q_BK244
       have HB := Aside0.mk Q_HB
       clear Q_HB
       have NB267_266 := Aside0.mk (Q_NB267_266 hb11_ hb12_)
       clear Q_NB267_266
       have NB266_267 := Aside0.mk (Q_NB266_267 hb11_ hb12_)
       clear Q_NB266_267
       have NB268_266 := Aside0.mk (Q_NB268_266 hb11_ hb13_)
       clear Q_NB268_266
       have NB266_268 := Aside0.mk (Q_NB266_268 hb11_ hb13_)
       clear Q_NB266_268
       have NB269_266 := Aside0.mk (Q_NB269_266 hb11_ hb14_)
       clear Q_NB269_266
       have NB266_269 := Aside0.mk (Q_NB266_269 hb11_ hb14_)
       clear Q_NB266_269
       have NB270_266 := Aside0.mk (Q_NB270_266 hb11_ hb15_)
       clear Q_NB270_266
       have NB266_270 := Aside0.mk (Q_NB266_270 hb11_ hb15_)
       clear Q_NB266_270
       have NB268_267 := Aside0.mk (Q_NB268_267 hb12_ hb13_)
       clear Q_NB268_267
       have NB267_268 := Aside0.mk (Q_NB267_268 hb12_ hb13_)
       clear Q_NB267_268
       have NB269_267 := Aside0.mk (Q_NB269_267 hb12_ hb14_)
       clear Q_NB269_267
       have NB267_269 := Aside0.mk (Q_NB267_269 hb12_ hb14_)
       clear Q_NB267_269
       have NB270_267 := Aside0.mk (Q_NB270_267 hb12_ hb15_)
       clear Q_NB270_267
       have NB267_270 := Aside0.mk (Q_NB267_270 hb12_ hb15_)
       clear Q_NB267_270
       have NB269_268 := Aside0.mk (Q_NB269_268 hb13_ hb14_)
       clear Q_NB269_268
       have NB268_269 := Aside0.mk (Q_NB268_269 hb13_ hb14_)
       clear Q_NB268_269
       have NB270_268 := Aside0.mk (Q_NB270_268 hb13_ hb15_)
       clear Q_NB270_268
       have NB268_270 := Aside0.mk (Q_NB268_270 hb13_ hb15_)
       clear Q_NB268_270
       have NB270_269 := Aside0.mk (Q_NB270_269 hb14_ hb15_)
       clear Q_NB270_269
       have NB269_270 := Aside0.mk (Q_NB269_270 hb14_ hb15_)
       clear Q_NB269_270
       have HO249 := Aside0.mk (Q_HO249 hb1_)
       clear Q_HO249
       have HO253 := Aside0.mk (Q_HO253 hb3_)
       clear Q_HO253
       have HO257 := Aside0.mk (Q_HO257 hb5_)
       clear Q_HO257
       have HO261 := Aside0.mk (Q_HO261 hb8_)
       clear Q_HO261
       have HO265 := Aside0.mk (Q_HO265 hb10_)
       clear Q_HO265
       clear Q_BK266
       have GW266 := Aside0.mk (Q_GW266 hb11_)
       clear Q_GW266
       have GE266 := Aside0.mk (Q_GE266 hb11_)
       clear Q_GE266
       have NB244_266 := Aside0.mk (Q_NB244_266 hb11_)
       clear Q_NB244_266
       have NB266_244 := Aside0.mk (Q_NB266_244 hb11_)
       clear Q_NB266_244
       clear Q_BK267
       have GW267 := Aside0.mk (Q_GW267 hb12_)
       clear Q_GW267
       have GE267 := Aside0.mk (Q_GE267 hb12_)
       clear Q_GE267
       have NB244_267 := Aside0.mk (Q_NB244_267 hb12_)
       clear Q_NB244_267
       have NB267_244 := Aside0.mk (Q_NB267_244 hb12_)
       clear Q_NB267_244
       clear Q_BK268
       have GW268 := Aside0.mk (Q_GW268 hb13_)
       clear Q_GW268
       have GE268 := Aside0.mk (Q_GE268 hb13_)
       clear Q_GE268
       have NB244_268 := Aside0.mk (Q_NB244_268 hb13_)
       clear Q_NB244_268
       have NB268_244 := Aside0.mk (Q_NB268_244 hb13_)
       clear Q_NB268_244
       clear Q_BK269
       have GW269 := Aside0.mk (Q_GW269 hb14_)
       clear Q_GW269
       have GE269 := Aside0.mk (Q_GE269 hb14_)
       clear Q_GE269
       have NB244_269 := Aside0.mk (Q_NB244_269 hb14_)
       clear Q_NB244_269
       have NB269_244 := Aside0.mk (Q_NB269_244 hb14_)
       clear Q_NB269_244
       clear Q_BK270
       have GW270 := Aside0.mk (Q_GW270 hb15_)
       clear Q_GW270
       have GE270 := Aside0.mk (Q_GE270 hb15_)
       clear Q_GE270
       have NB244_270 := Aside0.mk (Q_NB244_270 hb15_)
       clear Q_NB244_270
       have NB270_244 := Aside0.mk (Q_NB270_244 hb15_)
       clear Q_NB270_244
       have BK266 := Aside0.mk (Q_BK266_e16 hb16_)
       clear Q_BK266_e16
       have BK267 := Aside0.mk (Q_BK267_e17 hb17_)
       clear Q_BK267_e17
       have BK268 := Aside0.mk (Q_BK268_e18 hb18_)
       clear Q_BK268_e18
       have BK269 := Aside0.mk (Q_BK269_e19 hb19_)
       clear Q_BK269_e19
       have BK270 := Aside0.mk (Q_BK270_e20 hb20_)
       clear Q_BK270_e20
       clear hall hb0_ hb1_ hb2_ hb3_ hb4_ hb5_ hb6_ hb8_ hb9_ hb10_ hb11_ hb12_ hb13_ hb14_ hb15_ hb16_ hb17_ hb18_ hb19_ hb20_
       obtain ⟨PA, pA, eA⟩ := Kd.R_slice HO249.out
       subst eA
       have HCA := Aside0.mk (Kd.R_reads' HO249.out)
       have yA0 := blk_cell BK266.out 0
       have yA1 := blk_cell BK266.out 1
       obtain ⟨PB, pB, eB⟩ := Kd.R_slice HO253.out
       subst eB
       have HCB := Aside0.mk (Kd.R_reads' HO253.out)
       have yB0 := blk_cell BK267.out 0
       have yB1 := blk_cell BK267.out 1
       obtain ⟨PC, pC, eC⟩ := Kd.R_slice HO257.out
       subst eC
       have HCC := Aside0.mk (Kd.R_reads' HO257.out)
       have yC0 := blk_cell BK268.out 0
       have yC1 := blk_cell BK268.out 1
       obtain ⟨PD, pD, eD⟩ := Kd.R_slice HO261.out
       subst eD
       have HCD := Aside0.mk (Kd.R_reads' HO261.out)
       have yD0 := blk_cell BK269.out 0
       have yD1 := blk_cell BK269.out 1
       obtain ⟨PE, pE, eE⟩ := Kd.R_slice HO265.out
       subst eE
       have HCE := Aside0.mk (Kd.R_reads' HO265.out)
       have yE0 := blk_cell BK270.out 0
       have yE1 := blk_cell BK270.out 1
       clear BK266 HO249 BK267 HO253 BK268 HO257 BK269 HO261 BK270 HO265
       go_wp2_with fail
       go_region_held3 (fun W => W.cell? ⟨gb266, 0, none⟩ = some (.string t246) ∧ W.cell? ⟨gb266, 1, none⟩ = some (.slice PA t247.length pA) ∧ W.cell? ⟨gb267, 0, none⟩ = some (.string t250) ∧ W.cell? ⟨gb267, 1, none⟩ = some (.slice PB t251.length pB) ∧ W.cell? ⟨gb268, 0, none⟩ = some (.string t254) ∧ W.cell? ⟨gb268, 1, none⟩ = some (.slice PC t255.length pC) ∧ W.cell? ⟨gb269, 0, none⟩ = some (.string t258) ∧ W.cell? ⟨gb269, 1, none⟩ = some (.slice PD t259.length pD) ∧ W.cell? ⟨gb270, 0, none⟩ = some (.string t262) ∧ W.cell? ⟨gb270, 1, none⟩ = some (.slice PE t263.length pE))
         (first
           | (go_split_ands; exact ⟨(hb.cell (World.block_lt_of_cell? _ _ (by assumption))).trans (by assumption), (hb.cell (World.block_lt_of_cell? _ _ (by assumption))).trans (by assumption), (hb.cell (World.block_lt_of_cell? _ _ (by assumption))).trans (by assumption), (hb.cell (World.block_lt_of_cell? _ _ (by assumption))).trans (by assumption), (hb.cell (World.block_lt_of_cell? _ _ (by assumption))).trans (by assumption), (hb.cell (World.block_lt_of_cell? _ _ (by assumption))).trans (by assumption), (hb.cell (World.block_lt_of_cell? _ _ (by assumption))).trans (by assumption), (hb.cell (World.block_lt_of_cell? _ _ (by assumption))).trans (by assumption), (hb.cell (World.block_lt_of_cell? _ _ (by assumption))).trans (by assumption), (hb.cell (World.block_lt_of_cell? _ _ (by assumption))).trans (by assumption)⟩)
           | go_keep)
         ((first
           | (go_at_call 54; (with_reducible refine (fold_Lower.calls k t246 _ _ t247 t271 t272 _ (Kd.C_below HCA.out.2.2 (below_drew1 (Below.refl _ _))) HCA.out.2.1 A10.out).mono ?_); rintro e w_1 ⟨z0, rfl, ho0, hb⟩; obtain ⟨QA, qA, eqA⟩ := Kd.R_slice ho0; subst eqA; have HDA := Aside0.mk (Kd.R_reads' ho0); have HX1 := Aside0.mk (below_step (below_drew1 (Below.refl _ _)) hb); clear ho0)
           | (go_at_call 42; (with_reducible refine (mark_Same.calls k t271 _ _ t272 t246 _ _ t247 true _ HDA.out.2.2 HDA.out.2.1 (Kd.C_below HCA.out.2.2 HX1.out) HCA.out.2.1 A11.out).mono ?_); rintro e w_2 ⟨rfl, hb⟩; have HX2 := Aside0.mk (below_step HX1.out hb))
           | (go_at_call 55; (with_reducible refine (fold_Ends.calls k t250 _ _ t251 t276 t277 _ (Kd.C_below HCB.out.2.2 HX2.out) HCB.out.2.1 A13.out).mono ?_); rintro e w_3 ⟨z2, rfl, ho2, hb⟩; obtain ⟨QB, qB, eqB⟩ := Kd.R_slice ho2; subst eqB; have HDB := Aside0.mk (Kd.R_reads' ho2); have HX3 := Aside0.mk (below_step HX2.out hb); clear ho2)
           | (go_at_call 42; (with_reducible refine (mark_Same.calls k t276 _ _ t277 t250 _ _ t251 true _ HDB.out.2.2 HDB.out.2.1 (Kd.C_below HCB.out.2.2 HX3.out) HCB.out.2.1 A14.out).mono ?_); rintro e w_4 ⟨rfl, hb⟩; have HX4 := Aside0.mk (below_step HX3.out hb))
           | (go_at_call 57; (with_reducible refine (fold_Trim.calls k t254 _ _ t255 t281 t282 _ (Kd.C_below HCC.out.2.2 HX4.out) HCC.out.2.1 A16.out).mono ?_); rintro e w_5 ⟨z4, rfl, ho4, hb⟩; obtain ⟨QC, qC, eqC⟩ := Kd.R_slice ho4; subst eqC; have HDC := Aside0.mk (Kd.R_reads' ho4); have HX5 := Aside0.mk (below_step HX4.out hb); clear ho4)
           | (go_at_call 42; (with_reducible refine (mark_Same.calls k t281 _ _ t282 t254 _ _ t255 true _ HDC.out.2.2 HDC.out.2.1 (Kd.C_below HCC.out.2.2 HX5.out) HCC.out.2.1 A17.out).mono ?_); rintro e w_6 ⟨rfl, hb⟩; have HX6 := Aside0.mk (below_step HX5.out hb))
           | (go_at_call 58; (with_reducible refine (fold_Without.calls k t258 _ _ t259 a1 t286 t287 _ (Kd.C_below HCD.out.2.2 HX6.out) HCD.out.2.1 A19.out).mono ?_); rintro e w_7 ⟨z6, rfl, ho6, hb⟩; obtain ⟨QD, qD, eqD⟩ := Kd.R_slice ho6; subst eqD; have HDD := Aside0.mk (Kd.R_reads' ho6); have HX7 := Aside0.mk (below_step HX6.out hb); clear ho6)
           | (go_at_call 42; (with_reducible refine (mark_Same.calls k t286 _ _ t287 t258 _ _ t259 true _ HDD.out.2.2 HDD.out.2.1 (Kd.C_below HCD.out.2.2 HX7.out) HCD.out.2.1 A20.out).mono ?_); rintro e w_8 ⟨rfl, hb⟩; have HX8 := Aside0.mk (below_step HX7.out hb))
           | (go_at_call 25; (with_reducible refine (fold_Lines.calls k t262 _ _ t263 t291 t292 _ (Kd.C_below HCE.out.2.2 HX8.out) HCE.out.2.1 A22.out).mono ?_); rintro e w_9 ⟨z8, rfl, ho8, hb⟩; obtain ⟨QE, qE, eqE⟩ := Kd.R_slice ho8; subst eqE; have HDE := Aside0.mk (Kd.R_reads' ho8); have HX9 := Aside0.mk (below_step HX8.out hb); clear ho8)
           | (go_at_call 42; (with_reducible refine (mark_Same.calls k t291 _ _ t292 t262 _ _ t263 true _ HDE.out.2.2 HDE.out.2.1 (Kd.C_below HCE.out.2.2 HX9.out) HCE.out.2.1 A23.out).mono ?_); rintro e w_10 ⟨rfl, hb⟩; have HX10 := Aside0.mk (below_step HX9.out hb))
           | (go_at_call 61; (with_reducible refine (fold_IsLower.calls t246 t296 _ A25.out).mono ?_); rintro e w_11 ⟨rfl, hb⟩; have HX11 := Aside0.mk (below_step HX10.out hb))))
       go_wp2_with fail
       go_ret
       exact ⟨rfl, below_step HB.out HX11.out⟩
      ·
       replace c24 := Bool.eq_false_iff.mpr c24
       subst c24
       have H1 : (none) = some r := by rw [if_neg (show ¬ (false = true) by decide)] at H; exact H
       clear H
       have H := H1
       clear H1
       exact absurd H (by simp)
     ·
      replace c21 := Bool.eq_false_iff.mpr c21
      subst c21
      have H1 : (none) = some r := by rw [if_neg (show ¬ (false = true) by decide)] at H; exact H
      clear H
      have H := H1
      clear H1
      exact absurd H (by simp)
    ·
     replace c18 := Bool.eq_false_iff.mpr c18
     subst c18
     have H1 : (none) = some r := by rw [if_neg (show ¬ (false = true) by decide)] at H; exact H
     clear H
     have H := H1
     clear H1
     exact absurd H (by simp)
   ·
    replace c15 := Bool.eq_false_iff.mpr c15
    subst c15
    have H1 : (none) = some r := by rw [if_neg (show ¬ (false = true) by decide)] at H; exact H
    clear H
    have H := H1
    clear H1
    exact absurd H (by simp)
  ·
   replace c12 := Bool.eq_false_iff.mpr c12
   subst c12
   have H1 : (none) = some r := by rw [if_neg (show ¬ (false = true) by decide)] at H; exact H
   clear H
   have H := H1
   clear H1
   exact absurd H (by simp)
 ·
  replace c4 := Bool.eq_false_iff.mpr c4
  subst c4
  have H1 : (none) = some r := by rw [if_neg (show ¬ (false = true) by decide)] at H; exact H
  clear H
  have H := H1
  clear H1
  exact absurd H (by simp)

end Go.Proofs.Ytljmmhihdcnbaaa.G
