-- Written for this claim by hybrid.py's copy of the print program (a program of this session); not trusted: Lean checks it.
import Derived.Test.YtljmmhihdcnbaaaG0
import Derived.Test.YtljmmhihdcnbaaaG13
import Derived.Test.YtljmmhihdcnbaaaG15
import Derived.Test.YtljmmhihdcnbaaaG29
import Derived.Test.YtljmmhihdcnbaaaG35
import Derived.Test.YtljmmhihdcnbaaaG82
import Derived.Test.YtljmmhihdcnbaaaGM
import Derived.Test.YtljmmhihdcnbaaaG112
import Derived.Test.YtljmmhihdcnbaaaG115
import Derived.Test.YtljmmhihdcnbaaaG116
import Derived.Test.YtljmmhihdcnbaaaG118
import Derived.Test.YtljmmhihdcnbaaaG119
namespace Go.Proofs.Ytljmmhihdcnbaaa.G
open Go.RowKit Go.Proofs.YtljmmhihdcnbaaaW.PrintWords Go.Proofs.YtljmmhihdcnbaaaW.PrintLast Go.Proofs.YtljmmhihdcnbaaaW.PrintMore
attribute [local go_sem] max2_int min2_int max_two min_two max_three min_three max_four min_four   -- for this text's walks alone
set_option linter.unusedVariables false
set_option linter.unusedSimpArgs false

/-! ### glazierlaw04_SeekTells: function 19 -/
mutual
def glazierlaw04_SeekTells.l0 : Nat → ByteArray → Int → ByteArray → List (S29) → Bool → Int → ByteArray → List (S85) → Option (Bool)
 | 0, _, _, _, _, _, _, _, _ => none
 | k + 1, x1, x2, x3, x9, x10, x11, x1305000, x1305001 => if x11 < (x1.size : Int) then (glazierlaw04_SeekTells.j1 k x1 x2 x3 x9 x10 x11 x10 x1305000 x1305001) else (glazierlaw04_SeekTells.j1 k x1 x2 x3 x9 x10 x11 false x1305000 x1305001)
def glazierlaw04_SeekTells.j1 : Nat → ByteArray → Int → ByteArray → List (S29) → Bool → Int → Bool → ByteArray → List (S85) → Option (Bool)
 | 0, _, _, _, _, _, _, _, _, _ => none
 | k + 1, x1, x2, x3, x9, x10, x11, x31, x1305000, x1305001 => if x31 = true then (if 0 ≤ x11 then (if x11 < (x9.length : Int) then ((glazierref01_Low.f ((rd_T29 x9 x11).f0)).bind fun t1310 => (if x11 < (x1.size : Int) then ((glazierref01_Low.f (bt x1 x11)).bind fun t1311 => (glazierlaw04_SeekTells.l0 k x1 x2 x3 x9 (t1310 == t1311) (wrap64 (x11 + 1)) x1305000 x1305001)) else (none))) else (none)) else (none)) else (glazierlaw04_SeekTells.l1 k x1 x2 x3 x9 x10 0 x1305000 x1305001)
def glazierlaw04_SeekTells.j3 : Nat → ByteArray → Int → ByteArray → List (S29) → Bool → Int → ByteArray → List (S85) → Option (Bool)
 | 0, _, _, _, _, _, _, _, _ => none
 | k + 1, x1, x2, x3, x9, x10, x12, x1305000, x1305001 => (glazierref01_Fields.f k x9).bind fun t1314 => ((seek_Fields.f k x1305000 x1305001).bind fun t1317 => (if (t1314.length : Int) = (t1317.length : Int) then (glazierlaw04_SeekTells.l2 k x1 x2 x3 x9 x10 x12 t1314 t1317 0 x1305000 x1305001) else (none)))
def glazierlaw04_SeekTells.l2 : Nat → ByteArray → Int → ByteArray → List (S29) → Bool → Int → List (List (S29)) → List (S24) → Int → ByteArray → List (S85) → Option (Bool)
 | 0, _, _, _, _, _, _, _, _, _, _, _ => none
 | k + 1, x1, x2, x3, x9, x10, x12, x13, x14, x15, x1305000, x1305001 => if x15 < (x13.length : Int) then (if 0 ≤ x15 then (if x15 < (x14.length : Int) then ((glazierref01_Is.f k ((rd_T24 x14 x15).f0) ((rd_T24 x14 x15).f1) (rd_L10 x13 x15)).bind fun t1322 => (if t1322 = true then (glazierlaw04_SeekTells.l2 k x1 x2 x3 x9 x10 x12 x13 x14 (wrap64 (x15 + 1)) x1305000 x1305001) else (none))) else (none)) else (none)) else ((seek_IndexM.f x1305000 x1305001 x1 x2).bind fun t1323 => ((glazierref01_Index.f k x9 x1 x2).bind fun t1324 => (if t1323 = t1324 then ((seek_Begins.f k x1305000 x1305001 x1).bind fun t1325 => (if (t1325 == x10) = true then ((seek_Span.f k x1305000 x1305001 x3).bind fun t1326 => (some (t1326 == x12))) else (none))) else (none))))
def glazierlaw04_SeekTells.l1 : Nat → ByteArray → Int → ByteArray → List (S29) → Bool → Int → ByteArray → List (S85) → Option (Bool)
 | 0, _, _, _, _, _, _, _, _ => none
 | k + 1, x1, x2, x3, x9, x10, x12, x1305000, x1305001 => if x12 < (x9.length : Int) then (if 0 ≤ x12 then ((glazierref01_In.f k ((rd_T29 x9 x12).f0) x3).bind fun t1313 => (if t1313 = true then (glazierlaw04_SeekTells.l1 k x1 x2 x3 x9 x10 (wrap64 (x12 + 1)) x1305000 x1305001) else (glazierlaw04_SeekTells.j3 k x1 x2 x3 x9 x10 x12 x1305000 x1305001))) else (none)) else (glazierlaw04_SeekTells.j3 k x1 x2 x3 x9 x10 x12 x1305000 x1305001)
end
def glazierlaw04_SeekTells.f (k : Nat) (a0_0 : ByteArray) (l0_1 : List (S85)) (a1 : ByteArray) (a2 : Int) (a3 : ByteArray) : Option (Bool) := (glazierlaw04_alive.f k).bind fun t1305 => (if t1305 = true then ((glazierref01_Of.f k a0_0 l0_1).bind fun t1306 => (glazierlaw04_SeekTells.l0 k a1 a2 a3 t1306 (decide ((a1.size : Int) ≤ (t1306.length : Int))) 0 a0_0 l0_1)) else (none))
theorem glazierlaw04_SeekTells.mono_l : ∀ k, (∀ y0 y1 y2 y3 y4 y5 y6 y7, LeO (glazierlaw04_SeekTells.l0 k y0 y1 y2 y3 y4 y5 y6 y7) (glazierlaw04_SeekTells.l0 (k + 1) y0 y1 y2 y3 y4 y5 y6 y7)) ∧ (∀ y0 y1 y2 y3 y4 y5 y6 y7 y8, LeO (glazierlaw04_SeekTells.j1 k y0 y1 y2 y3 y4 y5 y6 y7 y8) (glazierlaw04_SeekTells.j1 (k + 1) y0 y1 y2 y3 y4 y5 y6 y7 y8)) ∧ (∀ y0 y1 y2 y3 y4 y5 y6 y7, LeO (glazierlaw04_SeekTells.j3 k y0 y1 y2 y3 y4 y5 y6 y7) (glazierlaw04_SeekTells.j3 (k + 1) y0 y1 y2 y3 y4 y5 y6 y7)) ∧ (∀ y0 y1 y2 y3 y4 y5 y6 y7 y8 y9 y10, LeO (glazierlaw04_SeekTells.l2 k y0 y1 y2 y3 y4 y5 y6 y7 y8 y9 y10) (glazierlaw04_SeekTells.l2 (k + 1) y0 y1 y2 y3 y4 y5 y6 y7 y8 y9 y10)) ∧ (∀ y0 y1 y2 y3 y4 y5 y6 y7, LeO (glazierlaw04_SeekTells.l1 k y0 y1 y2 y3 y4 y5 y6 y7) (glazierlaw04_SeekTells.l1 (k + 1) y0 y1 y2 y3 y4 y5 y6 y7))
 | 0 => ⟨fun _ _ _ _ _ _ _ _ r h => by simp [glazierlaw04_SeekTells.l0] at h, fun _ _ _ _ _ _ _ _ _ r h => by simp [glazierlaw04_SeekTells.j1] at h, fun _ _ _ _ _ _ _ _ r h => by simp [glazierlaw04_SeekTells.j3] at h, fun _ _ _ _ _ _ _ _ _ _ _ r h => by simp [glazierlaw04_SeekTells.l2] at h, fun _ _ _ _ _ _ _ _ r h => by simp [glazierlaw04_SeekTells.l1] at h⟩
 | k + 1 => by
  obtain ⟨ih0, ih1, ih2, ih3, ih4⟩ := glazierlaw04_SeekTells.mono_l k
  refine ⟨?_, ?_, ?_, ?_, ?_⟩
  ·
   intro y0 y1 y2 y3 y4 y5 y6 y7
   unfold glazierlaw04_SeekTells.l0
   repeat' first
   | (with_reducible exact ih0 _ _ _ _ _ _ _ _)
   | (with_reducible exact ih1 _ _ _ _ _ _ _ _ _)
   | (with_reducible exact ih2 _ _ _ _ _ _ _ _)
   | (with_reducible exact ih3 _ _ _ _ _ _ _ _ _ _ _)
   | (with_reducible exact ih4 _ _ _ _ _ _ _ _)
   | (with_reducible exact glazierlaw04_alive.mono _)
   | (with_reducible exact glazierref01_Fields.mono _ _)
   | (with_reducible exact glazierref01_In.mono _ _ _)
   | (with_reducible exact glazierref01_Index.mono _ _ _ _)
   | (with_reducible exact glazierref01_Is.mono _ _ _ _)
   | (with_reducible exact glazierref01_Of.mono _ _ _)
   | (with_reducible exact seek_Begins.mono _ _ _ _)
   | (with_reducible exact seek_Fields.mono _ _ _)
   | (with_reducible exact seek_Span.mono _ _ _ _)
   | (with_reducible exact LeO.refl _)
   | (with_reducible exact LeO.none _)
   | (with_reducible refine LeO.ite ?_ ?_)
   | (with_reducible refine LeO.bind ?_ (fun _ => ?_))
   | exact ih0 _ _ _ _ _ _ _ _
   | exact ih1 _ _ _ _ _ _ _ _ _
   | exact ih2 _ _ _ _ _ _ _ _
   | exact ih3 _ _ _ _ _ _ _ _ _ _ _
   | exact ih4 _ _ _ _ _ _ _ _
   | exact glazierlaw04_alive.mono _
   | exact glazierref01_Fields.mono _ _
   | exact glazierref01_In.mono _ _ _
   | exact glazierref01_Index.mono _ _ _ _
   | exact glazierref01_Is.mono _ _ _ _
   | exact glazierref01_Of.mono _ _ _
   | exact seek_Begins.mono _ _ _ _
   | exact seek_Fields.mono _ _ _
   | exact seek_Span.mono _ _ _ _
   | exact LeO.none _
   | refine LeO.ite ?_ ?_
   | refine LeO.bind ?_ (fun _ => ?_)
  ·
   intro y0 y1 y2 y3 y4 y5 y6 y7 y8
   unfold glazierlaw04_SeekTells.j1
   repeat' first
   | (with_reducible exact ih0 _ _ _ _ _ _ _ _)
   | (with_reducible exact ih1 _ _ _ _ _ _ _ _ _)
   | (with_reducible exact ih2 _ _ _ _ _ _ _ _)
   | (with_reducible exact ih3 _ _ _ _ _ _ _ _ _ _ _)
   | (with_reducible exact ih4 _ _ _ _ _ _ _ _)
   | (with_reducible exact glazierlaw04_alive.mono _)
   | (with_reducible exact glazierref01_Fields.mono _ _)
   | (with_reducible exact glazierref01_In.mono _ _ _)
   | (with_reducible exact glazierref01_Index.mono _ _ _ _)
   | (with_reducible exact glazierref01_Is.mono _ _ _ _)
   | (with_reducible exact glazierref01_Of.mono _ _ _)
   | (with_reducible exact seek_Begins.mono _ _ _ _)
   | (with_reducible exact seek_Fields.mono _ _ _)
   | (with_reducible exact seek_Span.mono _ _ _ _)
   | (with_reducible exact LeO.refl _)
   | (with_reducible exact LeO.none _)
   | (with_reducible refine LeO.ite ?_ ?_)
   | (with_reducible refine LeO.bind ?_ (fun _ => ?_))
   | exact ih0 _ _ _ _ _ _ _ _
   | exact ih1 _ _ _ _ _ _ _ _ _
   | exact ih2 _ _ _ _ _ _ _ _
   | exact ih3 _ _ _ _ _ _ _ _ _ _ _
   | exact ih4 _ _ _ _ _ _ _ _
   | exact glazierlaw04_alive.mono _
   | exact glazierref01_Fields.mono _ _
   | exact glazierref01_In.mono _ _ _
   | exact glazierref01_Index.mono _ _ _ _
   | exact glazierref01_Is.mono _ _ _ _
   | exact glazierref01_Of.mono _ _ _
   | exact seek_Begins.mono _ _ _ _
   | exact seek_Fields.mono _ _ _
   | exact seek_Span.mono _ _ _ _
   | exact LeO.none _
   | refine LeO.ite ?_ ?_
   | refine LeO.bind ?_ (fun _ => ?_)
  ·
   intro y0 y1 y2 y3 y4 y5 y6 y7
   unfold glazierlaw04_SeekTells.j3
   repeat' first
   | (with_reducible exact ih0 _ _ _ _ _ _ _ _)
   | (with_reducible exact ih1 _ _ _ _ _ _ _ _ _)
   | (with_reducible exact ih2 _ _ _ _ _ _ _ _)
   | (with_reducible exact ih3 _ _ _ _ _ _ _ _ _ _ _)
   | (with_reducible exact ih4 _ _ _ _ _ _ _ _)
   | (with_reducible exact glazierlaw04_alive.mono _)
   | (with_reducible exact glazierref01_Fields.mono _ _)
   | (with_reducible exact glazierref01_In.mono _ _ _)
   | (with_reducible exact glazierref01_Index.mono _ _ _ _)
   | (with_reducible exact glazierref01_Is.mono _ _ _ _)
   | (with_reducible exact glazierref01_Of.mono _ _ _)
   | (with_reducible exact seek_Begins.mono _ _ _ _)
   | (with_reducible exact seek_Fields.mono _ _ _)
   | (with_reducible exact seek_Span.mono _ _ _ _)
   | (with_reducible exact LeO.refl _)
   | (with_reducible exact LeO.none _)
   | (with_reducible refine LeO.ite ?_ ?_)
   | (with_reducible refine LeO.bind ?_ (fun _ => ?_))
   | exact ih0 _ _ _ _ _ _ _ _
   | exact ih1 _ _ _ _ _ _ _ _ _
   | exact ih2 _ _ _ _ _ _ _ _
   | exact ih3 _ _ _ _ _ _ _ _ _ _ _
   | exact ih4 _ _ _ _ _ _ _ _
   | exact glazierlaw04_alive.mono _
   | exact glazierref01_Fields.mono _ _
   | exact glazierref01_In.mono _ _ _
   | exact glazierref01_Index.mono _ _ _ _
   | exact glazierref01_Is.mono _ _ _ _
   | exact glazierref01_Of.mono _ _ _
   | exact seek_Begins.mono _ _ _ _
   | exact seek_Fields.mono _ _ _
   | exact seek_Span.mono _ _ _ _
   | exact LeO.none _
   | refine LeO.ite ?_ ?_
   | refine LeO.bind ?_ (fun _ => ?_)
  ·
   intro y0 y1 y2 y3 y4 y5 y6 y7 y8 y9 y10
   unfold glazierlaw04_SeekTells.l2
   repeat' first
   | (with_reducible exact ih0 _ _ _ _ _ _ _ _)
   | (with_reducible exact ih1 _ _ _ _ _ _ _ _ _)
   | (with_reducible exact ih2 _ _ _ _ _ _ _ _)
   | (with_reducible exact ih3 _ _ _ _ _ _ _ _ _ _ _)
   | (with_reducible exact ih4 _ _ _ _ _ _ _ _)
   | (with_reducible exact glazierlaw04_alive.mono _)
   | (with_reducible exact glazierref01_Fields.mono _ _)
   | (with_reducible exact glazierref01_In.mono _ _ _)
   | (with_reducible exact glazierref01_Index.mono _ _ _ _)
   | (with_reducible exact glazierref01_Is.mono _ _ _ _)
   | (with_reducible exact glazierref01_Of.mono _ _ _)
   | (with_reducible exact seek_Begins.mono _ _ _ _)
   | (with_reducible exact seek_Fields.mono _ _ _)
   | (with_reducible exact seek_Span.mono _ _ _ _)
   | (with_reducible exact LeO.refl _)
   | (with_reducible exact LeO.none _)
   | (with_reducible refine LeO.ite ?_ ?_)
   | (with_reducible refine LeO.bind ?_ (fun _ => ?_))
   | exact ih0 _ _ _ _ _ _ _ _
   | exact ih1 _ _ _ _ _ _ _ _ _
   | exact ih2 _ _ _ _ _ _ _ _
   | exact ih3 _ _ _ _ _ _ _ _ _ _ _
   | exact ih4 _ _ _ _ _ _ _ _
   | exact glazierlaw04_alive.mono _
   | exact glazierref01_Fields.mono _ _
   | exact glazierref01_In.mono _ _ _
   | exact glazierref01_Index.mono _ _ _ _
   | exact glazierref01_Is.mono _ _ _ _
   | exact glazierref01_Of.mono _ _ _
   | exact seek_Begins.mono _ _ _ _
   | exact seek_Fields.mono _ _ _
   | exact seek_Span.mono _ _ _ _
   | exact LeO.none _
   | refine LeO.ite ?_ ?_
   | refine LeO.bind ?_ (fun _ => ?_)
  ·
   intro y0 y1 y2 y3 y4 y5 y6 y7
   unfold glazierlaw04_SeekTells.l1
   repeat' first
   | (with_reducible exact ih0 _ _ _ _ _ _ _ _)
   | (with_reducible exact ih1 _ _ _ _ _ _ _ _ _)
   | (with_reducible exact ih2 _ _ _ _ _ _ _ _)
   | (with_reducible exact ih3 _ _ _ _ _ _ _ _ _ _ _)
   | (with_reducible exact ih4 _ _ _ _ _ _ _ _)
   | (with_reducible exact glazierlaw04_alive.mono _)
   | (with_reducible exact glazierref01_Fields.mono _ _)
   | (with_reducible exact glazierref01_In.mono _ _ _)
   | (with_reducible exact glazierref01_Index.mono _ _ _ _)
   | (with_reducible exact glazierref01_Is.mono _ _ _ _)
   | (with_reducible exact glazierref01_Of.mono _ _ _)
   | (with_reducible exact seek_Begins.mono _ _ _ _)
   | (with_reducible exact seek_Fields.mono _ _ _)
   | (with_reducible exact seek_Span.mono _ _ _ _)
   | (with_reducible exact LeO.refl _)
   | (with_reducible exact LeO.none _)
   | (with_reducible refine LeO.ite ?_ ?_)
   | (with_reducible refine LeO.bind ?_ (fun _ => ?_))
   | exact ih0 _ _ _ _ _ _ _ _
   | exact ih1 _ _ _ _ _ _ _ _ _
   | exact ih2 _ _ _ _ _ _ _ _
   | exact ih3 _ _ _ _ _ _ _ _ _ _ _
   | exact ih4 _ _ _ _ _ _ _ _
   | exact glazierlaw04_alive.mono _
   | exact glazierref01_Fields.mono _ _
   | exact glazierref01_In.mono _ _ _
   | exact glazierref01_Index.mono _ _ _ _
   | exact glazierref01_Is.mono _ _ _ _
   | exact glazierref01_Of.mono _ _ _
   | exact seek_Begins.mono _ _ _ _
   | exact seek_Fields.mono _ _ _
   | exact seek_Span.mono _ _ _ _
   | exact LeO.none _
   | refine LeO.ite ?_ ?_
   | refine LeO.bind ?_ (fun _ => ?_)
theorem glazierlaw04_SeekTells.mono : ∀ a0 a1 a2 a3 a4 k, LeO (glazierlaw04_SeekTells.f k a0 a1 a2 a3 a4) (glazierlaw04_SeekTells.f (k + 1) a0 a1 a2 a3 a4) := by
 intro a0 a1 a2 a3 a4 k
 obtain ⟨ih0, ih1, ih2, ih3, ih4⟩ := glazierlaw04_SeekTells.mono_l k
 unfold glazierlaw04_SeekTells.f
 repeat' first
   | (with_reducible exact ih0 _ _ _ _ _ _ _ _)
   | (with_reducible exact ih1 _ _ _ _ _ _ _ _ _)
   | (with_reducible exact ih2 _ _ _ _ _ _ _ _)
   | (with_reducible exact ih3 _ _ _ _ _ _ _ _ _ _ _)
   | (with_reducible exact ih4 _ _ _ _ _ _ _ _)
   | (with_reducible exact glazierlaw04_alive.mono _)
   | (with_reducible exact glazierref01_Fields.mono _ _)
   | (with_reducible exact glazierref01_In.mono _ _ _)
   | (with_reducible exact glazierref01_Index.mono _ _ _ _)
   | (with_reducible exact glazierref01_Is.mono _ _ _ _)
   | (with_reducible exact glazierref01_Of.mono _ _ _)
   | (with_reducible exact seek_Begins.mono _ _ _ _)
   | (with_reducible exact seek_Fields.mono _ _ _)
   | (with_reducible exact seek_Span.mono _ _ _ _)
   | (with_reducible exact LeO.refl _)
   | (with_reducible exact LeO.none _)
   | (with_reducible refine LeO.ite ?_ ?_)
   | (with_reducible refine LeO.bind ?_ (fun _ => ?_))
   | exact ih0 _ _ _ _ _ _ _ _
   | exact ih1 _ _ _ _ _ _ _ _ _
   | exact ih2 _ _ _ _ _ _ _ _
   | exact ih3 _ _ _ _ _ _ _ _ _ _ _
   | exact ih4 _ _ _ _ _ _ _ _
   | exact glazierlaw04_alive.mono _
   | exact glazierref01_Fields.mono _ _
   | exact glazierref01_In.mono _ _ _
   | exact glazierref01_Index.mono _ _ _ _
   | exact glazierref01_Is.mono _ _ _ _
   | exact glazierref01_Of.mono _ _ _
   | exact seek_Begins.mono _ _ _ _
   | exact seek_Fields.mono _ _ _
   | exact seek_Span.mono _ _ _ _
   | exact LeO.none _
   | refine LeO.ite ?_ ?_
   | refine LeO.bind ?_ (fun _ => ?_)
def glazierlaw04_SeekTells.T8 : Bool × List (List Nat × List Nat) := (true, [([], []), ([], []), ([0, 1], [0, 1]), ([2], [2]), ([3], [3]), ([4], [4]), ([], []), ([], []), ([6, 7], [6, 7]), ([8, 5], [8]), ([5, 9], [5, 9]), ([10, 9, 0, 1, 2, 3, 4, 5, 6, 7, 8, 9, 10], [10])])
def glazierlaw04_SeekTells.B8 : List Nat := [0, 0, 3, 7, 15, 31, 0, 0, 192, 511, 1023, 2047]
theorem glazierlaw04_SeekTells.tab8 : rtab .any (opsOf Try.f19 8) = glazierlaw04_SeekTells.T8 := by kernel_rfl
theorem glazierlaw04_SeekTells.bits8 : waitsOk glazierlaw04_SeekTells.T8.2 glazierlaw04_SeekTells.B8 = true := by kernel_rfl
def glazierlaw04_SeekTells.T19 : Bool × List (List Nat × List Nat) := (true, [([], []), ([], []), ([0, 1], [0, 1]), ([2], [2]), ([], []), ([], []), ([4, 5], [4, 5]), ([6], [6]), ([3, 7], [3, 7]), ([8], [8])])
def glazierlaw04_SeekTells.B19 : List Nat := [0, 0, 3, 7, 0, 0, 48, 112, 255, 511]
theorem glazierlaw04_SeekTells.tab19 : rtab .any (opsOf Try.f19 19) = glazierlaw04_SeekTells.T19 := by kernel_rfl
theorem glazierlaw04_SeekTells.bits19 : waitsOk glazierlaw04_SeekTells.T19.2 glazierlaw04_SeekTells.B19 = true := by kernel_rfl
set_option maxHeartbeats 8000000 in
set_option maxRecDepth 100000 in
theorem glazierlaw04_SeekTells.calls (k : Nat) (a0_0 : ByteArray) (A0_1 : Option Addr) (c0_1 : Nat) (l0_1 : List (S85)) (a1 : ByteArray) (a2 : Int) (a3 : ByteArray) (r : Bool) (w : World) (hr0_1 : Kd.C k85 w A0_1 l0_1.length l0_1) (hc0_1 : l0_1.length ≤ c0_1) (hm0 : ∃ m : Int, w.cell? ⟨0, 0, none⟩ = some (.int .i64 m)) (h : glazierlaw04_SeekTells.f k a0_0 l0_1 a1 a2 a3 = some r) :
  Calls Try.prog 19 #[.agg #[.string a0_0, .slice A0_1 l0_1.length c0_1], .string a1, .int .i64 a2, .string a3] w fun e w' => e = .returned (.bool r) ∧ Below w.heap.size w w' := by
 have hu24 := Try.underlying24
 have HR0_1 := Aside0.mk hr0_1
 have HC0_1 := Aside0.mk hc0_1
 have HM := Aside0.mk hm0
 clear hr0_1 hc0_1 hm0
 have HB := Aside0.mk (Below.refl w.heap.size w)
 have H : ((glazierlaw04_alive.f k).bind fun t1305 => (if t1305 = true then ((glazierref01_Of.f k a0_0 l0_1).bind fun t1306 => (glazierlaw04_SeekTells.l0 k a1 a2 a3 t1306 (decide ((a1.size : Int) ≤ (t1306.length : Int))) 0 a0_0 l0_1)) else (none))) = some r := h
 clear h
 replace H := Option.bind_eq_some_iff.mp H
 obtain ⟨t1305, A50, H⟩ := H
 replace H : (if t1305 = true then ((glazierref01_Of.f k a0_0 l0_1).bind fun t1306 => (glazierlaw04_SeekTells.l0 k a1 a2 a3 t1306 (decide ((a1.size : Int) ≤ (t1306.length : Int))) 0 a0_0 l0_1)) else (none)) = some r := H
 have A5 := Aside0.mk A50
 clear A50
 by_cases c6 : t1305 = true
 ·
  subst c6
  have H1 : ((glazierref01_Of.f k a0_0 l0_1).bind fun t1306 => (glazierlaw04_SeekTells.l0 k a1 a2 a3 t1306 (decide ((a1.size : Int) ≤ (t1306.length : Int))) 0 a0_0 l0_1)) = some r := by rw [if_pos rfl] at H; exact H
  clear H
  have H := H1
  clear H1
  replace H := Option.bind_eq_some_iff.mp H
  obtain ⟨t1306, A70, H⟩ := H
  replace H : (glazierlaw04_SeekTells.l0 k a1 a2 a3 t1306 (decide ((a1.size : Int) ≤ (t1306.length : Int))) 0 a0_0 l0_1) = some r := H
  have A7 := Aside0.mk A70
  clear A70
  have H' := Aside0.mk H
  clear H
  go_enter Try.func19, Try.ntmps19
  go_wp2_with (first | ((with_reducible refine gate_dst (N := 4) rfl ?_); refine box_event ?hg (N := 4) ?hd (cs := #[.string a0_0, .slice A0_1 l0_1.length c0_1]) (t := 24) ?hr ?_; (case hd => rfl); (case hg => rfl); (case hr => first | (go_simp; done) | (go_simp; rfl)); intro gb1304 hg w8 hbox hb; have n0_ := Aside0.mk (below_step (by repeat (first | (with_reducible first | exact HB.out | apply below_alloc | apply pw_below_drewN | apply below_drew1) | exact HB.out)) hb); have n1_ := Aside0.mk (hbox); have n2_ := Aside0.mk ((by rw [hg]; exact (below_size (by repeat (first | (with_reducible first | exact HB.out | apply below_alloc | apply pw_below_drewN | apply below_drew1) | exact HB.out))) : w.heap.size ≤ gb1304)); have n3_ := Aside0.mk ((by rw [hg]; exact (below_size (by repeat (first | (with_reducible first | exact HB.out | apply below_alloc | apply pw_below_drewN | apply below_drew1) | exact HB.out))) : w.heap.size ≤ gb1304)); clear HB; have HB := n0_; have BK1304 := n1_; have GW1304 := n2_; have GE1304 := n3_; clear n0_ n1_ n2_ n3_; clear hb hbox hg) | ((with_reducible refine gate_callee (f := 75) rfl ?_); refine goesL_ (some 16) rfl rfl Try.func75 (by kernel_rfl) rfl #[] rfl (by (try simp only [List.map_toArray, List.map_cons, List.map_nil]); first | done | rfl | (simp only [List.length_drop, List.length_take]; rfl)) ?_; (with_reducible refine (glazierlaw04_alive.calls k  true _ A5.out).mono ?_); rintro e w9 ⟨rfl, hb⟩; refine ⟨_, rfl, ?_⟩; have n0_ := Aside0.mk (blk_below (g := gb1304) (o := .cells #[.string a0_0, .slice A0_1 l0_1.length c0_1] 24 (0, 0)) (by (with_reducible repeat (first | refine blk_drewN ?_ _ | refine blk_drew ?_ | refine blk_alloc ?_ _)); exact BK1304.out) hb); have n1_ := Aside0.mk (below_step (by repeat (first | (with_reducible first | exact HB.out | apply below_alloc | apply pw_below_drewN | apply below_drew1 | refine below_set ?_ GE1304.out) | exact HB.out)) hb); clear BK1304; clear HB; have BK1304 := n0_; have HB := n1_; clear n0_ n1_; (try clear hb); (try clear hb2); (try clear hk); (try clear hi); have hcz10_0 : w9.cell? ⟨gb1304, 0, none⟩ = some (.string a0_0) := (blk_cell BK1304.out 0).trans rfl; have hcz10_1 : w9.cell? ⟨gb1304, 1, none⟩ = some (.slice A0_1 l0_1.length c0_1) := (blk_cell BK1304.out 1).trans rfl; have hfz10_0 := blk_frozen BK1304.out 0; have hfz10_1 := blk_frozen BK1304.out 1) | ((with_reducible refine gate_callee (f := 23) rfl ?_); refine goesL_ (some 19) rfl rfl Try.func23 (by kernel_rfl) rfl #[.agg #[.string a0_0, .slice A0_1 l0_1.length c0_1]] rfl (by (try simp only [List.map_toArray, List.map_cons, List.map_nil]); first | done | rfl | (simp only [List.length_drop, List.length_take]; rfl)) ?_; (with_reducible refine (glazierref01_Of.calls k a0_0 _ _ l0_1 t1306 _ ?side1 ?side2 A7.out).mono ?_); (case side1 => repeat (first | exact (Kd.C_below HR0_1.out HB.out) | (with_reducible refine Kd.C_alloc ?_ _) | (with_reducible refine Kd.C_drewN ?_ _) | (with_reducible refine Kd.C_drew ?_))); (case side2 => exact HC0_1.out); rintro e w11 ⟨v1307, rfl, ho0, hb⟩; refine ⟨_, rfl, ?_⟩; have n0_ := Aside0.mk (Kd.R_lower ho0 (below_size (by repeat (first | (with_reducible first | exact HB.out | apply below_alloc | apply pw_below_drewN | apply below_drew1 | refine below_set ?_ GE1304.out) | exact HB.out)))); have n1_ := Aside0.mk (blk_below (g := gb1304) (o := .cells #[.string a0_0, .slice A0_1 l0_1.length c0_1] 24 (0, 0)) (by (with_reducible repeat (first | refine blk_drewN ?_ _ | refine blk_drew ?_ | refine blk_alloc ?_ _)); exact BK1304.out) hb); have n2_ := Aside0.mk (below_step (by repeat (first | (with_reducible first | exact HB.out | apply below_alloc | apply pw_below_drewN | apply below_drew1 | refine below_set ?_ GE1304.out) | exact HB.out)) hb); clear BK1304; clear HB; have HO1308 := n0_; have BK1304 := n1_; have HB := n2_; clear n0_ n1_ n2_; (try clear hb); (try clear hb2); (try clear hk); (try clear hi); (try clear ho0); obtain ⟨Ao12, co12, eo12⟩ := Kd.R_slice HO1308.out; subst eo12))
  go_loopg [10, 11] k (fun kq v10 v11 w' => ∃ (x10_1 : Bool) (x11_1 : Int), v10 = .bool x10_1 ∧ v11 = .int .i64 x11_1 ∧ Aside0 (glazierlaw04_SeekTells.l0 kq a1 a2 a3 t1306 x10_1 x11_1 a0_0 l0_1 = some r) ∧ Aside0 (kq ≤ k) ∧ Aside0 (Kd.R k29 29 w' w.heap.size (fun _ => True) (.slice Ao12 t1306.length co12) t1306) ∧ Aside0 (w'.heap[gb1304]? = some (.cells #[.string a0_0, (.slice A0_1 l0_1.length c0_1)] 24 (0, 0))) ∧ Aside0 (Below w.heap.size w w'))
  case atStart => exact ⟨(decide ((a1.size : Int) ≤ (t1306.length : Int))), (0), (by first | rfl | (simp; done) | (simp [*]; done)), (by first | rfl | (simp; done) | (simp [*]; done)), H', ⟨Nat.le_refl _⟩, ⟨by (with_reducible repeat (first | apply Kd.R_alloc | apply Kd.R_drewN | apply Kd.R_drew)); exact HO1308.out⟩, ⟨by (with_reducible repeat (first | refine blk_drewN ?_ _ | refine blk_drew ?_ | refine blk_alloc ?_ _)); exact BK1304.out⟩, ⟨by repeat (first | (with_reducible first | exact HB.out | apply below_alloc | apply pw_below_drewN | apply below_drew1 | refine below_set ?_ GE1304.out) | exact HB.out)⟩⟩
  case round =>
   clear H'
   try clear c1
   try clear c2
   try clear p2
   try clear c6
   try clear c7
   try clear hcz10_0
   try clear hcz10_1
   try clear hfz10_0
   try clear hfz10_1
   obtain ⟨x10_1, x11_1, rfl, rfl, HA, HK1, HO_9, BK1304, HB⟩ := hrel
   cases gk with
   | zero => exact absurd HA.out (by simp [glazierlaw04_SeekTells.l0])
   | succ k1 =>
    have H := HA.out
    clear HA
    simp only [glazierlaw04_SeekTells.l0] at H
    have HC13 := Aside0.mk H
    clear H
    go_upto_region 6 with (fail)
    go_cut [31] (fun v31 wc => ∃ (kq : Nat) (x31_12 : Bool), v31 = .bool x31_12 ∧ Aside0 (glazierlaw04_SeekTells.j1 kq a1 a2 a3 t1306 x10_1 x11_1 x31_12 a0_0 l0_1 = some r) ∧ Aside0 (kq ≤ k1) ∧ Aside0 (Kd.R k29 29 wc w.heap.size (fun _ => True) (.slice Ao12 t1306.length co12) t1306) ∧ Aside0 (wc.heap[gb1304]? = some (.cells #[.string a0_0, (.slice A0_1 l0_1.length c0_1)] 24 (0, 0))) ∧ Aside0 (Below w.heap.size w wc))
    case first =>
     have H := HC13.out
     clear HC13
     by_cases c14 : x11_1 < (a1.size : Int)
     ·
      rw [if_pos c14] at H
      have c14b0 : decide (x11_1 < (a1.size : Int)) = true := decide_eq_true c14
      clear c14
      (first | rw [c14b0] | (simp only [i64_w, i32_w]; rw [c14b0]) | skip)
      have H' := Aside0.mk H
      clear H
      go_wp2
      go_meet
      case rel => exact ⟨_, (x10_1), (by first | rfl | (simp; done) | (simp [*]; done)), H', ⟨by have := HK1.out; first | omega | exact Nat.le_refl _⟩, ⟨by (with_reducible repeat (first | apply Kd.R_alloc | apply Kd.R_drewN | apply Kd.R_drew)); exact HO_9.out⟩, ⟨by (with_reducible repeat (first | refine blk_drewN ?_ _ | refine blk_drew ?_ | refine blk_alloc ?_ _)); exact BK1304.out⟩, ⟨by repeat (first | (with_reducible first | exact HB.out | apply below_alloc | apply pw_below_drewN | apply below_drew1 | refine below_set ?_ GE1304.out) | exact HB.out)⟩⟩
     ·
      rw [if_neg c14] at H
      have c14b0 : decide (x11_1 < (a1.size : Int)) = false := decide_eq_false c14
      clear c14
      (first | rw [c14b0] | (simp only [i64_w, i32_w]; rw [c14b0]) | skip)
      have H' := Aside0.mk H
      clear H
      go_wp2
      go_meet
      case rel => exact ⟨_, (false), (by first | rfl | (simp; done) | (simp [*]; done)), H', ⟨by have := HK1.out; first | omega | exact Nat.le_refl _⟩, ⟨by (with_reducible repeat (first | apply Kd.R_alloc | apply Kd.R_drewN | apply Kd.R_drew)); exact HO_9.out⟩, ⟨by (with_reducible repeat (first | refine blk_drewN ?_ _ | refine blk_drew ?_ | refine blk_alloc ?_ _)); exact BK1304.out⟩, ⟨by repeat (first | (with_reducible first | exact HB.out | apply below_alloc | apply pw_below_drewN | apply below_drew1 | refine below_set ?_ GE1304.out) | exact HB.out)⟩⟩
    case rest =>
     clear HC13
     try clear c1
     try clear c2
     try clear p2
     try clear c6
     try clear c7
     try clear c14
     try clear c14b0
     try clear hcz10_0
     try clear hcz10_1
     try clear hfz10_0
     try clear hfz10_1
     try clear p2
     obtain ⟨kq, x31_12, rfl, HA, HJ12, HO_9, BK1304, HB⟩ := hcut
     cases kq with
     | zero => exact absurd HA.out (by simp [glazierlaw04_SeekTells.j1])
     | succ kj12 =>
      have H := HA.out
      clear HA
      simp only [glazierlaw04_SeekTells.j1] at H
      by_cases c15 : x31_12 = true
      ·
       subst c15
       have H1 : (if 0 ≤ x11_1 then (if x11_1 < (t1306.length : Int) then ((glazierref01_Low.f ((rd_T29 t1306 x11_1).f0)).bind fun t1310 => (if x11_1 < (a1.size : Int) then ((glazierref01_Low.f (bt a1 x11_1)).bind fun t1311 => (glazierlaw04_SeekTells.l0 kj12 a1 a2 a3 t1306 (t1310 == t1311) (wrap64 (x11_1 + 1)) a0_0 l0_1)) else (none))) else (none)) else (none)) = some r := by rw [if_pos rfl] at H; exact H
       clear H
       have H := H1
       clear H1
       by_cases c16 : 0 ≤ x11_1
       ·
        rw [if_pos c16] at H
        have c16b0 : decide (0 ≤ x11_1) = true := decide_eq_true c16
        clear c16
        by_cases c17 : x11_1 < (t1306.length : Int)
        ·
         rw [if_pos c17] at H
         have c17b0 : decide (x11_1 < (t1306.length : Int)) = true := decide_eq_true c17
         clear c17
         replace H := Option.bind_eq_some_iff.mp H
         obtain ⟨t1310, A180, H⟩ := H
         replace H : (if x11_1 < (a1.size : Int) then ((glazierref01_Low.f (bt a1 x11_1)).bind fun t1311 => (glazierlaw04_SeekTells.l0 kj12 a1 a2 a3 t1306 (t1310 == t1311) (wrap64 (x11_1 + 1)) a0_0 l0_1)) else (none)) = some r := H
         have A18 := Aside0.mk A180
         clear A180
         by_cases c19 : x11_1 < (a1.size : Int)
         ·
          rw [if_pos c19] at H
          have c19b0 : decide (x11_1 < (a1.size : Int)) = true := decide_eq_true c19
          clear c19
          replace H := Option.bind_eq_some_iff.mp H
          obtain ⟨t1311, A210, H⟩ := H
          replace H : (glazierlaw04_SeekTells.l0 kj12 a1 a2 a3 t1306 (t1310 == t1311) (wrap64 (x11_1 + 1)) a0_0 l0_1) = some r := H
          have A21 := Aside0.mk A210
          clear A210
          have H' := Aside0.mk H
          clear H
          try go_wp2
          have n0_ := Aside0.mk (Kd.R_drew HO_9.out)
          have n1_ := Aside0.mk (blk_drew BK1304.out)
          have n2_ := Aside0.mk (below_drew1 HB.out)
          clear HO_9
          clear BK1304
          clear HB
          have HO_9 := n0_
          have BK1304 := n1_
          have HB := n2_
          clear n0_ n1_ n2_
          have p1309 : 0 ≤ (x11_1 : Int) := of_decide_eq_true (by first | (with_reducible assumption) | assumption)
          have q1309 : x11_1 < (t1306.length : Int) := of_decide_eq_true (by first | (with_reducible assumption) | assumption)
          obtain ⟨ad1309, e1309, hx1309_0, hx1309_1⟩ := at_T29 (Kd.R_reads' HO_9.out).2.2 x11_1 p1309 q1309
          cases e1309
          replace p1309 := eq_true p1309
          replace q1309 := eq_true q1309
          have p20 : 0 ≤ (x11_1 : Int) := of_decide_eq_true (by first | (with_reducible assumption) | assumption)
          have q20 : x11_1 < (a1.size : Int) := of_decide_eq_true (by first | (with_reducible assumption) | assumption)
          have hx20 := bt_at a1 x11_1
          replace p20 := eq_true p20
          replace q20 := eq_true q20
          refine start_ (n := 12) (S := fun w' => w'.cell? (ad1309.add ((x11_1).toNat * 2)) = some (.int .u8 ((rd_T29 t1306 x11_1).f0)) ∧ w'.cell? ⟨(ad1309.add ((x11_1).toNat * 2)).block, (ad1309.add ((x11_1).toNat * 2)).off + 1, none⟩ = some (.int .i64 ((rd_T29 t1306 x11_1).f1))) (ds := []) #[false, false, false, false, false, false, false, false, false, false, false, false] (by kernel_rfl) rfl rfl ⟨hx1309_0, hx1309_1⟩ (fun hHeld => ?_); refine with_tabW glazierlaw04_SeekTells.tab8 glazierlaw04_SeekTells.bits8 (fun HT_ HW_ => ?_)
          generalize wc.drew = w22 at HO_9 BK1304 HB hx1309_0 hx1309_1 hHeld ⊢
          refine pure_ (i := 0) (N := some 34) (v := ?_) (a' := ?_) #[true, false, false, false, false, false, false, false, false, false, false, false] rfl rfl (any_of HT_.out (by kernel_rfl)) (fun _ _ _ h => h) (Or.inl ⟨by rfl, ?_⟩) ?_ ?_
          rotate_left
          ·
           intro w'
           go_simp
           with_reducible rfl
          rotate_left
          ·
           simp only [Act.put, List.setIfInBounds_toArray, List.set_cons_zero, List.set_cons_succ, i64_w, i32_w]
           rfl
          refine pure_ (i := 1) (N := some 35) (v := ?_) (a' := ?_) #[true, true, false, false, false, false, false, false, false, false, false, false] rfl rfl (any_of HT_.out (by kernel_rfl)) (fun _ _ _ h => h) (Or.inl ⟨by rfl, ?_⟩) ?_ ?_
          rotate_left
          ·
           intro w'
           go_simp
           with_reducible rfl
          rotate_left
          ·
           simp only [Act.put, List.setIfInBounds_toArray, List.set_cons_zero, List.set_cons_succ, i64_w, i32_w]
           rfl
          refine pure_ (i := 2) (N := some 36) (v := ?_) (a' := ?_) #[true, true, true, false, false, false, false, false, false, false, false, false] rfl rfl (any_of HT_.out (by kernel_rfl)) (fun _ _ _ h => h) (Or.inl ⟨by rfl, ?_⟩) ?_ ?_
          rotate_left
          ·
           intro w'
           go_simp
           with_reducible rfl
          rotate_left
          ·
           simp only [Act.put, List.setIfInBounds_toArray, List.set_cons_zero, List.set_cons_succ, i64_w, i32_w]
           rfl
          refine pure_ (i := 3) (N := some 37) (v := ?_) (a' := ?_) #[true, true, true, true, false, false, false, false, false, false, false, false] rfl rfl (any_of HT_.out (by kernel_rfl)) (fun _ _ _ h => h) (Or.inl ⟨by rfl, ?_⟩) ?_ ?_
          rotate_left
          ·
           intro w'
           go_simp
           with_reducible rfl
          rotate_left
          ·
           simp only [Act.put, List.setIfInBounds_toArray, List.set_cons_zero, List.set_cons_succ, i64_w, i32_w]
           rfl
          refine pure_ (i := 6) (N := some 40) (v := ?_) (a' := ?_) #[true, true, true, true, false, false, true, false, false, false, false, false] rfl rfl (any_of HT_.out (by kernel_rfl)) (fun _ _ _ h => h) (Or.inl ⟨by rfl, ?_⟩) ?_ ?_
          rotate_left
          ·
           intro w'
           go_simp
           with_reducible rfl
          rotate_left
          ·
           simp only [Act.put, List.setIfInBounds_toArray, List.set_cons_zero, List.set_cons_succ, i64_w, i32_w]
           rfl
          refine pure_ (i := 7) (N := some 41) (v := ?_) (a' := ?_) #[true, true, true, true, false, false, true, true, false, false, false, false] rfl rfl (any_of HT_.out (by kernel_rfl)) (fun _ _ _ h => h) (Or.inl ⟨by rfl, ?_⟩) ?_ ?_
          rotate_left
          ·
           intro w'
           go_simp
           with_reducible rfl
          rotate_left
          ·
           simp only [Act.put, List.setIfInBounds_toArray, List.set_cons_zero, List.set_cons_succ, i64_w, i32_w]
           rfl
          refine take_ (i := 4) (N := some 38) (v := ?_) (a' := ?_) #[true, true, true, true, true, false, true, true, false, false, false, false] rfl rfl (take_ofW HT_.out HW_.out (by kernel_rfl)) (fun _ _ _ h => h) (Or.inl ⟨by rfl, ?_⟩) hHeld ?_ ?_
          rotate_left
          ·
           rintro w' ⟨s0, s1⟩
           go_simp
           with_reducible rfl
          rotate_left
          ·
           simp only [Act.put, List.setIfInBounds_toArray, List.set_cons_zero, List.set_cons_succ, i64_w, i32_w]
           rfl
          refine take_ (i := 8) (N := some 42) (v := ?_) (a' := ?_) #[true, true, true, true, true, false, true, true, true, false, false, false] rfl rfl (take_ofW HT_.out HW_.out (by kernel_rfl)) (fun _ _ _ h => h) (Or.inl ⟨by rfl, ?_⟩) hHeld ?_ ?_
          rotate_left
          ·
           rintro w' ⟨s0, s1⟩
           go_simp
           with_reducible rfl
          rotate_left
          ·
           simp only [Act.put, List.setIfInBounds_toArray, List.set_cons_zero, List.set_cons_succ, i64_w, i32_w]
           rfl
          refine one_ (i := 5) (N := some 39) #[true, true, true, true, true, true, true, true, true, false, false, false] rfl rfl (one_of HT_.out (by kernel_rfl)) (by decide) (fun K hK => ?_)
          refine goes_ Try.func53 (by kernel_rfl) rfl #[.int .u8 ((rd_T29 t1306 x11_1).f0)] (by rfl) rfl rfl (by (try simp only [List.map_toArray, List.map_cons, List.map_nil]); first | done | rfl | (simp only [List.length_drop, List.length_take]; rfl)) ?_
          with_reducible refine (glazierref01_Low.calls ((rd_T29 t1306 x11_1).f0) t1310 _ A18.out).mono ?_
          rintro e w' ⟨rfl, ⟨nd, rfl⟩⟩
          refine ⟨_, rfl, ?_⟩
          refine hK.out _ _ ⟨hHeld.1, hHeld.2⟩ (fun hHeld => ?_)
          clear hK K
          refine norm_ (a' := ?_) ?_ ?_
          rotate_left
          ·
           show Act.put _ (some 39) _ = _
           simp only [Act.put, List.setIfInBounds_toArray, List.set_cons_zero, List.set_cons_succ, i64_w, i32_w]
           rfl
          refine one_ (i := 9) (N := some 43) #[true, true, true, true, true, true, true, true, true, true, false, false] rfl rfl (one_of HT_.out (by kernel_rfl)) (by decide) (fun K hK => ?_)
          refine goes_ Try.func53 (by kernel_rfl) rfl #[.int .u8 (bt a1 x11_1)] (by rfl) rfl rfl (by (try simp only [List.map_toArray, List.map_cons, List.map_nil]); first | done | rfl | (simp only [List.length_drop, List.length_take]; rfl)) ?_
          with_reducible refine (glazierref01_Low.calls (bt a1 x11_1) t1311 _ A21.out).mono ?_
          rintro e w' ⟨rfl, ⟨nd, rfl⟩⟩
          refine ⟨_, rfl, ?_⟩
          refine hK.out _ _ ⟨hHeld.1, hHeld.2⟩ (fun hHeld => ?_)
          clear hK K
          refine norm_ (a' := ?_) ?_ ?_
          rotate_left
          ·
           show Act.put _ (some 43) _ = _
           simp only [Act.put, List.setIfInBounds_toArray, List.set_cons_zero, List.set_cons_succ, i64_w, i32_w]
           rfl
          refine pure_ (i := 10) (N := some 44) (v := ?_) (a' := ?_) #[true, true, true, true, true, true, true, true, true, true, true, false] rfl rfl (any_of HT_.out (by kernel_rfl)) (fun _ _ _ h => h) (Or.inl ⟨by rfl, ?_⟩) ?_ ?_
          rotate_left
          ·
           intro w'
           go_simp
           with_reducible rfl
          rotate_left
          ·
           simp only [Act.put, List.setIfInBounds_toArray, List.set_cons_zero, List.set_cons_succ, i64_w, i32_w]
           rfl
          refine pure_ (i := 11) (N := some 10) (v := ?_) (a' := ?_) #[true, true, true, true, true, true, true, true, true, true, true, true] rfl rfl (any_of HT_.out (by kernel_rfl)) (fun _ _ _ h => h) (Or.inl ⟨by rfl, ?_⟩) ?_ ?_
          rotate_left
          ·
           intro w'
           go_simp
           with_reducible rfl
          rotate_left
          ·
           simp only [Act.put, List.setIfInBounds_toArray, List.set_cons_zero, List.set_cons_succ, i64_w, i32_w]
           rfl
          refine done_ (done_of HT_.out (by kernel_rfl)) ?_
          try go_wp2
          go_roundg kj12
          case measure => have := HK1.out; have := HJ12.out; omega
          case rel => exact ⟨((t1310 == t1311)), (wrap64 (x11_1 + 1)), (by first | rfl | (simp; done) | (simp [*]; done)), (by first | rfl | (simp; done) | (simp [*]; done)), H', ⟨by have := HK1.out; have := HJ12.out; omega⟩, ⟨by (with_reducible repeat (first | apply Kd.R_alloc | apply Kd.R_drewN | apply Kd.R_drew)); exact HO_9.out⟩, ⟨by (with_reducible repeat (first | refine blk_drewN ?_ _ | refine blk_drew ?_ | refine blk_alloc ?_ _)); exact BK1304.out⟩, ⟨by repeat (first | (with_reducible first | exact HB.out | apply below_alloc | apply pw_below_drewN | apply below_drew1 | refine below_set ?_ GE1304.out) | exact HB.out)⟩⟩
         ·
          rw [if_neg c19] at H
          exact absurd H (by simp)
        ·
         rw [if_neg c17] at H
         exact absurd H (by simp)
       ·
        rw [if_neg c16] at H
        exact absurd H (by simp)
      ·
       replace c15 := Bool.eq_false_iff.mpr c15
       subst c15
       have H1 : (glazierlaw04_SeekTells.l1 kj12 a1 a2 a3 t1306 x10_1 0 a0_0 l0_1) = some r := by rw [if_neg (show ¬ (false = true) by decide)] at H; exact H
       clear H
       have H := H1
       clear H1
       have HC23 := Aside0.mk H
       clear H
       go_upto_block 2 with (fail)
       go_cut [12] (fun v12 wc => ∃ (kq : Nat) (x12_22 : Int), v12 = .int .i64 x12_22 ∧ Aside0 (glazierlaw04_SeekTells.j3 kq a1 a2 a3 t1306 x10_1 x12_22 a0_0 l0_1 = some r) ∧ Aside0 (kq ≤ kj12) ∧ Aside0 (Kd.R k29 29 wc w.heap.size (fun _ => True) (.slice Ao12 t1306.length co12) t1306) ∧ Aside0 (wc.heap[gb1304]? = some (.cells #[.string a0_0, (.slice A0_1 l0_1.length c0_1)] 24 (0, 0))) ∧ Aside0 (Below w.heap.size w wc))
       case first =>
        have H := HC23.out
        clear HC23
        have H' := Aside0.mk H
        clear H
        go_wp2
        go_loopg [12] kj12 (fun kq v12 w' => ∃ (x12_3 : Int), v12 = .int .i64 x12_3 ∧ Aside0 (glazierlaw04_SeekTells.l1 kq a1 a2 a3 t1306 x10_1 x12_3 a0_0 l0_1 = some r) ∧ Aside0 (kq ≤ kj12) ∧ Aside0 (Kd.R k29 29 w' w.heap.size (fun _ => True) (.slice Ao12 t1306.length co12) t1306) ∧ Aside0 (w'.heap[gb1304]? = some (.cells #[.string a0_0, (.slice A0_1 l0_1.length c0_1)] 24 (0, 0))) ∧ Aside0 (Below w.heap.size w w'))
        case atStart => exact ⟨(0), (by first | rfl | (simp; done) | (simp [*]; done)), H', ⟨Nat.le_refl _⟩, ⟨by (with_reducible repeat (first | apply Kd.R_alloc | apply Kd.R_drewN | apply Kd.R_drew)); exact HO_9.out⟩, ⟨by (with_reducible repeat (first | refine blk_drewN ?_ _ | refine blk_drew ?_ | refine blk_alloc ?_ _)); exact BK1304.out⟩, ⟨by repeat (first | (with_reducible first | exact HB.out | apply below_alloc | apply pw_below_drewN | apply below_drew1 | refine below_set ?_ GE1304.out) | exact HB.out)⟩⟩
        case round =>
         clear H'
         try clear c1
         try clear p1
         try clear q1
         try clear hx1
         try clear c2
         try clear p2
         try clear q2
         try clear hx2
         try clear c5
         try clear c6
         try clear p6
         try clear c7
         try clear p13
         try clear q13
         try clear hx13
         try clear c14
         try clear c14b0
         try clear c15
         try clear c16
         try clear c16b0
         try clear c17
         try clear c17b0
         try clear c19
         try clear c19b0
         try clear p20
         try clear q20
         try clear hx20
         try clear c23
         try clear hcz10_0
         try clear hcz10_1
         try clear hfz10_0
         try clear hfz10_1
         try clear hx1309_0
         try clear hx1309_1
         try clear p1309
         try clear p2
         try clear p20
         try clear q1309
         try clear q20
         obtain ⟨x12_3, rfl, HA, HK3, HO_9, BK1304, HB⟩ := hrel
         cases gk with
         | zero => exact absurd HA.out (by simp [glazierlaw04_SeekTells.l1])
         | succ k3 =>
          have H := HA.out
          clear HA
          simp only [glazierlaw04_SeekTells.l1] at H
          by_cases c24 : x12_3 < (t1306.length : Int)
          ·
           rw [if_pos c24] at H
           have c24b0 : decide (x12_3 < (t1306.length : Int)) = true := decide_eq_true c24
           clear c24
           (first | rw [c24b0] | (simp only [i64_w, i32_w]; rw [c24b0]) | skip)
           by_cases c25 : 0 ≤ x12_3
           ·
            rw [if_pos c25] at H
            have c25b0 : decide (0 ≤ x12_3) = true := decide_eq_true c25
            clear c25
            replace H := Option.bind_eq_some_iff.mp H
            obtain ⟨t1313, A260, H⟩ := H
            replace H : (if t1313 = true then (glazierlaw04_SeekTells.l1 k3 a1 a2 a3 t1306 x10_1 (wrap64 (x12_3 + 1)) a0_0 l0_1) else (glazierlaw04_SeekTells.j3 k3 a1 a2 a3 t1306 x10_1 x12_3 a0_0 l0_1)) = some r := H
            have A26 := Aside0.mk A260
            clear A260
            by_cases c27 : t1313 = true
            ·
             subst c27
             have H1 : (glazierlaw04_SeekTells.l1 k3 a1 a2 a3 t1306 x10_1 (wrap64 (x12_3 + 1)) a0_0 l0_1) = some r := by rw [if_pos rfl] at H; exact H
             clear H
             have H := H1
             clear H1
             have H' := Aside0.mk H
             clear H
             have p1312 : 0 ≤ (x12_3 : Int) := of_decide_eq_true (by first | (with_reducible assumption) | assumption)
             have q1312 : x12_3 < (t1306.length : Int) := of_decide_eq_true (by first | (with_reducible assumption) | assumption)
             obtain ⟨ad1312, e1312, hx1312_0, hx1312_1⟩ := at_T29 (Kd.R_reads' HO_9.out).2.2 x12_3 p1312 q1312
             cases e1312
             replace p1312 := eq_true p1312
             replace q1312 := eq_true q1312
             go_wp2_with (first | (go_at_call 79; (with_reducible refine (glazierref01_In.calls k3 ((rd_T29 t1306 x12_3).f0) a3 true _ A26.out).mono ?_); rintro e w' ⟨rfl, ⟨nd, rfl⟩⟩))
             go_roundg k3
             case measure => have := HK1.out; have := HJ12.out; have := HK3.out; omega
             case rel => exact ⟨(wrap64 (x12_3 + 1)), (by first | rfl | (simp; done) | (simp [*]; done)), H', ⟨by have := HK1.out; have := HJ12.out; have := HK3.out; omega⟩, ⟨by (with_reducible repeat (first | apply Kd.R_alloc | apply Kd.R_drewN | apply Kd.R_drew)); exact HO_9.out⟩, ⟨by (with_reducible repeat (first | refine blk_drewN ?_ _ | refine blk_drew ?_ | refine blk_alloc ?_ _)); exact BK1304.out⟩, ⟨by repeat (first | (with_reducible first | exact HB.out | apply below_alloc | apply pw_below_drewN | apply below_drew1 | refine below_set ?_ GE1304.out) | exact HB.out)⟩⟩
            ·
             replace c27 := Bool.eq_false_iff.mpr c27
             subst c27
             have H1 : (glazierlaw04_SeekTells.j3 k3 a1 a2 a3 t1306 x10_1 x12_3 a0_0 l0_1) = some r := by rw [if_neg (show ¬ (false = true) by decide)] at H; exact H
             clear H
             have H := H1
             clear H1
             have H' := Aside0.mk H
             clear H
             have p1312 : 0 ≤ (x12_3 : Int) := of_decide_eq_true (by first | (with_reducible assumption) | assumption)
             have q1312 : x12_3 < (t1306.length : Int) := of_decide_eq_true (by first | (with_reducible assumption) | assumption)
             obtain ⟨ad1312, e1312, hx1312_0, hx1312_1⟩ := at_T29 (Kd.R_reads' HO_9.out).2.2 x12_3 p1312 q1312
             cases e1312
             replace p1312 := eq_true p1312
             replace q1312 := eq_true q1312
             go_wp2_with (first | (go_at_call 79; (with_reducible refine (glazierref01_In.calls k3 ((rd_T29 t1306 x12_3).f0) a3 false _ A26.out).mono ?_); rintro e w' ⟨rfl, ⟨nd, rfl⟩⟩))
             go_meet
             case rel => exact ⟨_, (x12_3), (by first | rfl | (simp; done) | (simp [*]; done)), H', ⟨by have := HK1.out; have := HJ12.out; have := HK3.out; first | omega | exact Nat.le_refl _⟩, ⟨by (with_reducible repeat (first | apply Kd.R_alloc | apply Kd.R_drewN | apply Kd.R_drew)); exact HO_9.out⟩, ⟨by (with_reducible repeat (first | refine blk_drewN ?_ _ | refine blk_drew ?_ | refine blk_alloc ?_ _)); exact BK1304.out⟩, ⟨by repeat (first | (with_reducible first | exact HB.out | apply below_alloc | apply pw_below_drewN | apply below_drew1 | refine below_set ?_ GE1304.out) | exact HB.out)⟩⟩
           ·
            rw [if_neg c25] at H
            exact absurd H (by simp)
          ·
           rw [if_neg c24] at H
           have c24b0 : decide (x12_3 < (t1306.length : Int)) = false := decide_eq_false c24
           clear c24
           (first | rw [c24b0] | (simp only [i64_w, i32_w]; rw [c24b0]) | skip)
           have H' := Aside0.mk H
           clear H
           go_wp2
           go_meet
           case rel => exact ⟨_, (x12_3), (by first | rfl | (simp; done) | (simp [*]; done)), H', ⟨by have := HK1.out; have := HJ12.out; have := HK3.out; first | omega | exact Nat.le_refl _⟩, ⟨by (with_reducible repeat (first | apply Kd.R_alloc | apply Kd.R_drewN | apply Kd.R_drew)); exact HO_9.out⟩, ⟨by (with_reducible repeat (first | refine blk_drewN ?_ _ | refine blk_drew ?_ | refine blk_alloc ?_ _)); exact BK1304.out⟩, ⟨by repeat (first | (with_reducible first | exact HB.out | apply below_alloc | apply pw_below_drewN | apply below_drew1 | refine below_set ?_ GE1304.out) | exact HB.out)⟩⟩
       case rest =>
        clear HC23
        try clear c1
        try clear p1
        try clear q1
        try clear hx1
        try clear c2
        try clear p2
        try clear q2
        try clear hx2
        try clear c5
        try clear c6
        try clear p6
        try clear c7
        try clear p13
        try clear q13
        try clear hx13
        try clear c14
        try clear c14b0
        try clear c15
        try clear c16
        try clear c16b0
        try clear c17
        try clear c17b0
        try clear c19
        try clear c19b0
        try clear p20
        try clear q20
        try clear hx20
        try clear c23
        try clear c24
        try clear c24b0
        try clear c25
        try clear c25b0
        try clear c27
        try clear hcz10_0
        try clear hcz10_1
        try clear hfz10_0
        try clear hfz10_1
        try clear hx1309_0
        try clear hx1309_1
        try clear hx1312_0
        try clear hx1312_1
        try clear p1
        try clear p13
        try clear p1309
        try clear p1312
        try clear p2
        try clear p20
        try clear p6
        try clear q1
        try clear q13
        try clear q1309
        try clear q1312
        try clear q2
        try clear q20
        obtain ⟨kq, x12_22, rfl, HA, HJ22, HO_9, BK1304, HB⟩ := hcut
        cases kq with
        | zero => exact absurd HA.out (by simp [glazierlaw04_SeekTells.j3])
        | succ kj22 =>
         have H := HA.out
         clear HA
         simp only [glazierlaw04_SeekTells.j3] at H
         replace H := Option.bind_eq_some_iff.mp H
         obtain ⟨t1314, A280, H⟩ := H
         replace H : ((seek_Fields.f kj22 a0_0 l0_1).bind fun t1317 => (if (t1314.length : Int) = (t1317.length : Int) then (glazierlaw04_SeekTells.l2 kj22 a1 a2 a3 t1306 x10_1 x12_22 t1314 t1317 0 a0_0 l0_1) else (none))) = some r := H
         have A28 := Aside0.mk A280
         clear A280
         replace H := Option.bind_eq_some_iff.mp H
         obtain ⟨t1317, A290, H⟩ := H
         replace H : (if (t1314.length : Int) = (t1317.length : Int) then (glazierlaw04_SeekTells.l2 kj22 a1 a2 a3 t1306 x10_1 x12_22 t1314 t1317 0 a0_0 l0_1) else (none)) = some r := H
         have A29 := Aside0.mk A290
         clear A290
         by_cases c30 : (t1314.length : Int) = (t1317.length : Int)
         ·
          rw [if_pos c30] at H
          have c30b0 : ((t1314.length : Int) == (t1317.length : Int)) = true := beq_iff_eq.mpr c30
          have c30b1 : ((t1314.length : Int) != (t1317.length : Int)) = false := bne_eq_false_iff_eq.mpr c30
          have c30b2 : (t1314.length == t1317.length) = true := by first | simpa using c30 | (simp at c30 ⊢; omega)
          clear c30
          have H' := Aside0.mk H
          clear H
          go_wp2_with (first | ((with_reducible refine gate_callee (f := 80) rfl ?_); refine goesL_ (some 61) rfl rfl Try.func80 (by kernel_rfl) rfl #[.slice Ao12 t1306.length co12] rfl (by (try simp only [List.map_toArray, List.map_cons, List.map_nil]); first | done | rfl | (simp only [List.length_drop, List.length_take]; rfl)) ?_; (with_reducible refine (glazierref01_Fields.calls kj22 _ _ t1306 t1314 _ ?side1 ?side2 A28.out).mono ?_); (case side1 => repeat (first | exact (Kd.R_reads' HO_9.out).2.2 | (with_reducible refine Kd.C_alloc ?_ _) | (with_reducible refine Kd.C_drewN ?_ _) | (with_reducible refine Kd.C_drew ?_))); (case side2 => exact (Kd.R_reads' HO_9.out).2.1); rintro e w31 ⟨v1315, rfl, ho0, hb⟩; refine ⟨_, rfl, ?_⟩; have n0_ := Aside0.mk (Kd.R_below (by (with_reducible repeat (first | apply Kd.R_alloc | apply Kd.R_drewN | apply Kd.R_drew)); exact HO_9.out) hb); have n1_ := Aside0.mk (Kd.N_lower (Kd.N_mono (ok' := fun k_ => some k_ ≠ (.slice Ao12 t1306.length co12 : Value).ownBlock ∧ k_ ≠ gb1304) (Kd.S_N (Kd.S_bound ho0)) (fun k_ hk_ => ⟨(Kd.fresh' (Kd.R_lt (by (with_reducible repeat (first | apply Kd.R_alloc | apply Kd.R_drewN | apply Kd.R_drew)); exact HO_9.out)) k_ hk_.2.1), (Kd.freshB (g := gb1304) (o := .cells #[.string a0_0, .slice A0_1 l0_1.length c0_1] 24 (0, 0)) (by (with_reducible repeat (first | refine blk_drewN ?_ _ | refine blk_drew ?_ | refine blk_alloc ?_ _)); exact BK1304.out) k_ hk_.2.1)⟩)) (below_size (by repeat (first | (with_reducible first | exact HB.out | apply below_alloc | apply pw_below_drewN | apply below_drew1 | refine below_set ?_ GE1304.out) | exact HB.out)))); have n2_ := Aside0.mk (blk_below (g := gb1304) (o := .cells #[.string a0_0, .slice A0_1 l0_1.length c0_1] 24 (0, 0)) (by (with_reducible repeat (first | refine blk_drewN ?_ _ | refine blk_drew ?_ | refine blk_alloc ?_ _)); exact BK1304.out) hb); have n3_ := Aside0.mk (below_step (by repeat (first | (with_reducible first | exact HB.out | apply below_alloc | apply pw_below_drewN | apply below_drew1 | refine below_set ?_ GE1304.out) | exact HB.out)) hb); clear HO_9; clear BK1304; clear HB; have HO_9 := n0_; have HO1316 := n1_; have BK1304 := n2_; have HB := n3_; clear n0_ n1_ n2_ n3_; (try clear hb); (try clear hb2); (try clear hk); (try clear hi); (try clear ho0); have hcz32_0 : w31.cell? ⟨gb1304, 0, none⟩ = some (.string a0_0) := (blk_cell BK1304.out 0).trans rfl; have hcz32_1 : w31.cell? ⟨gb1304, 1, none⟩ = some (.slice A0_1 l0_1.length c0_1) := (blk_cell BK1304.out 1).trans rfl; have hfz32_0 := blk_frozen BK1304.out 0; have hfz32_1 := blk_frozen BK1304.out 1) | ((with_reducible refine gate_callee (f := 65) rfl ?_); refine goesL_ (some 63) rfl rfl Try.func65 (by kernel_rfl) rfl #[.agg #[.string a0_0, .slice A0_1 l0_1.length c0_1]] rfl (by (try simp only [List.map_toArray, List.map_cons, List.map_nil]); first | done | rfl | (simp only [List.length_drop, List.length_take]; rfl)) ?_; (with_reducible refine (seek_Fields.calls kj22 a0_0 _ _ l0_1 t1317 _ ?side1 ?side2 A29.out).mono ?_); (case side1 => repeat (first | exact (Kd.C_below HR0_1.out HB.out) | (with_reducible refine Kd.C_alloc ?_ _) | (with_reducible refine Kd.C_drewN ?_ _) | (with_reducible refine Kd.C_drew ?_))); (case side2 => exact HC0_1.out); rintro e w33 ⟨v1318, rfl, ho0, hb⟩; refine ⟨_, rfl, ?_⟩; have n0_ := Aside0.mk (Kd.R_below (by (with_reducible repeat (first | apply Kd.R_alloc | apply Kd.R_drewN | apply Kd.R_drew)); exact HO_9.out) hb); have n1_ := Aside0.mk (Kd.N_elder' (by (with_reducible repeat (first | apply Kd.N_alloc | apply Kd.N_drewN | apply Kd.N_drew)); exact HO1316.out) (Kd.N_base ho0) hb); have n2_ := Aside0.mk (Kd.N_lower (Kd.N_mono (ok' := fun k_ => some k_ ≠ (.slice Ao12 t1306.length co12 : Value).ownBlock ∧ some k_ ≠ (v1315 : Value).ownBlock ∧ k_ ≠ gb1304) ho0 (fun k_ hk_ => ⟨(Kd.fresh' (Kd.R_lt (by (with_reducible repeat (first | apply Kd.R_alloc | apply Kd.R_drewN | apply Kd.R_drew)); exact HO_9.out)) k_ hk_), (Kd.fresh' (Kd.N_lt (by (with_reducible repeat (first | apply Kd.N_alloc | apply Kd.N_drewN | apply Kd.N_drew)); exact HO1316.out)) k_ hk_), (Kd.freshB (g := gb1304) (o := .cells #[.string a0_0, .slice A0_1 l0_1.length c0_1] 24 (0, 0)) (by (with_reducible repeat (first | refine blk_drewN ?_ _ | refine blk_drew ?_ | refine blk_alloc ?_ _)); exact BK1304.out) k_ hk_)⟩)) (below_size (by repeat (first | (with_reducible first | exact HB.out | apply below_alloc | apply pw_below_drewN | apply below_drew1 | refine below_set ?_ GE1304.out) | exact HB.out)))); have n3_ := Aside0.mk (blk_below (g := gb1304) (o := .cells #[.string a0_0, .slice A0_1 l0_1.length c0_1] 24 (0, 0)) (by (with_reducible repeat (first | refine blk_drewN ?_ _ | refine blk_drew ?_ | refine blk_alloc ?_ _)); exact BK1304.out) hb); have n4_ := Aside0.mk (below_step (by repeat (first | (with_reducible first | exact HB.out | apply below_alloc | apply pw_below_drewN | apply below_drew1 | refine below_set ?_ GE1304.out) | exact HB.out)) hb); clear HO_9; clear HO1316; clear BK1304; clear HB; have HO_9 := n0_; have HO1316 := n1_; have HO1319 := n2_; have BK1304 := n3_; have HB := n4_; clear n0_ n1_ n2_ n3_ n4_; (try clear hb); (try clear hb2); (try clear hk); (try clear hi); (try clear ho0); obtain ⟨Ao34, co34, eo34⟩ := Kd.N_slice HO1316.out; subst eo34; obtain ⟨Ao35, co35, eo35⟩ := Kd.N_slice HO1319.out; subst eo35))
          go_loopg [15] kj22 (fun kq v15 w' => ∃ (x15_4 : Int), v15 = .int .i64 x15_4 ∧ Aside0 (glazierlaw04_SeekTells.l2 kq a1 a2 a3 t1306 x10_1 x12_22 t1314 t1317 x15_4 a0_0 l0_1 = some r) ∧ Aside0 (kq ≤ kj22) ∧ Aside0 (Kd.R k29 29 w' w.heap.size (fun _ => True) (.slice Ao12 t1306.length co12) t1306) ∧ Aside0 (Kd.N (Kd.slice 29 k29) 26 w' w.heap.size (fun k_ => some k_ ≠ ((.slice Ao12 t1306.length co12) : Value).ownBlock ∧ some k_ ≠ ((.slice Ao35 t1317.length co35) : Value).ownBlock ∧ k_ ≠ gb1304) (.slice Ao34 t1314.length co34) t1314) ∧ Aside0 (Kd.N k24 24 w' w.heap.size (fun k_ => some k_ ≠ ((.slice Ao12 t1306.length co12) : Value).ownBlock ∧ some k_ ≠ ((.slice Ao34 t1314.length co34) : Value).ownBlock ∧ k_ ≠ gb1304) (.slice Ao35 t1317.length co35) t1317) ∧ Aside0 (w'.heap[gb1304]? = some (.cells #[.string a0_0, (.slice A0_1 l0_1.length c0_1)] 24 (0, 0))) ∧ Aside0 (Below w.heap.size w w'))
          case atStart => exact ⟨(0), (by first | rfl | (simp; done) | (simp [*]; done)), H', ⟨Nat.le_refl _⟩, ⟨by (with_reducible repeat (first | apply Kd.R_alloc | apply Kd.R_drewN | apply Kd.R_drew)); exact HO_9.out⟩, ⟨by (with_reducible repeat (first | apply Kd.N_alloc | apply Kd.N_drewN | apply Kd.N_drew)); exact Kd.N_mono HO1316.out (fun _ hk => ⟨hk.1.1, ⟨hk.2, hk.1.2⟩⟩)⟩, ⟨by (with_reducible repeat (first | apply Kd.N_alloc | apply Kd.N_drewN | apply Kd.N_drew)); exact HO1319.out⟩, ⟨by (with_reducible repeat (first | refine blk_drewN ?_ _ | refine blk_drew ?_ | refine blk_alloc ?_ _)); exact BK1304.out⟩, ⟨by repeat (first | (with_reducible first | exact HB.out | apply below_alloc | apply pw_below_drewN | apply below_drew1 | refine below_set ?_ GE1304.out) | exact HB.out)⟩⟩
          case round =>
           clear H'
           try clear c1
           try clear p1
           try clear q1
           try clear hx1
           try clear c2
           try clear p2
           try clear q2
           try clear hx2
           try clear c3
           try clear c5
           try clear c6
           try clear p6
           try clear c7
           try clear c8
           try clear p13
           try clear q13
           try clear hx13
           try clear c14
           try clear c14b0
           try clear c15
           try clear c16
           try clear c16b0
           try clear c17
           try clear c17b0
           try clear c19
           try clear c19b0
           try clear p20
           try clear q20
           try clear hx20
           try clear c23
           try clear c24
           try clear c24b0
           try clear c25
           try clear c25b0
           try clear c27
           try clear c30
           try clear c30b0
           try clear c30b1
           try clear c30b2
           try clear hcz10_0
           try clear hcz10_1
           try clear hcz32_0
           try clear hcz32_1
           try clear hfz10_0
           try clear hfz10_1
           try clear hfz32_0
           try clear hfz32_1
           try clear hx1309_0
           try clear hx1309_1
           try clear hx1312_0
           try clear hx1312_1
           try clear p1
           try clear p13
           try clear p1309
           try clear p1312
           try clear p2
           try clear p20
           try clear p6
           try clear q1
           try clear q13
           try clear q1309
           try clear q1312
           try clear q2
           try clear q20
           obtain ⟨x15_4, rfl, HA, HK4, HO_9, HO_13, HO_14, BK1304, HB⟩ := hrel
           cases gk with
           | zero => exact absurd HA.out (by simp [glazierlaw04_SeekTells.l2])
           | succ k4 =>
            have H := HA.out
            clear HA
            simp only [glazierlaw04_SeekTells.l2] at H
            by_cases c36 : x15_4 < (t1314.length : Int)
            ·
             rw [if_pos c36] at H
             have c36b0 : decide (x15_4 < (t1314.length : Int)) = true := decide_eq_true c36
             clear c36
             by_cases c37 : 0 ≤ x15_4
             ·
              rw [if_pos c37] at H
              have c37b0 : decide (0 ≤ x15_4) = true := decide_eq_true c37
              clear c37
              by_cases c38 : x15_4 < (t1317.length : Int)
              ·
               rw [if_pos c38] at H
               have c38b0 : decide (x15_4 < (t1317.length : Int)) = true := decide_eq_true c38
               clear c38
               replace H := Option.bind_eq_some_iff.mp H
               obtain ⟨t1322, A390, H⟩ := H
               replace H : (if t1322 = true then (glazierlaw04_SeekTells.l2 k4 a1 a2 a3 t1306 x10_1 x12_22 t1314 t1317 (wrap64 (x15_4 + 1)) a0_0 l0_1) else (none)) = some r := H
               have A39 := Aside0.mk A390
               clear A390
               by_cases c40 : t1322 = true
               ·
                subst c40
                have H1 : (glazierlaw04_SeekTells.l2 k4 a1 a2 a3 t1306 x10_1 x12_22 t1314 t1317 (wrap64 (x15_4 + 1)) a0_0 l0_1) = some r := by rw [if_pos rfl] at H; exact H
                clear H
                have H := H1
                clear H1
                have H' := Aside0.mk H
                clear H
                try go_wp2
                have n0_ := Aside0.mk (Kd.R_drew HO_9.out)
                have n1_ := Aside0.mk (Kd.N_drew HO_13.out)
                have n2_ := Aside0.mk (Kd.N_drew HO_14.out)
                have n3_ := Aside0.mk (blk_drew BK1304.out)
                have n4_ := Aside0.mk (below_drew1 HB.out)
                clear HO_9
                clear HO_13
                clear HO_14
                clear BK1304
                clear HB
                have HO_9 := n0_
                have HO_13 := n1_
                have HO_14 := n2_
                have BK1304 := n3_
                have HB := n4_
                clear n0_ n1_ n2_ n3_ n4_
                have p1320 : 0 ≤ (x15_4 : Int) := of_decide_eq_true (by first | (with_reducible assumption) | assumption)
                have q1320 : x15_4 < (t1317.length : Int) := of_decide_eq_true (by first | (with_reducible assumption) | assumption)
                obtain ⟨ad1320, A1320_1, c1320_1, e1320, hx1320_0, hx1320_1, hl1320_1, hi1320_1⟩ := at_T24 (Kd.N_reads' HO_14.out).2.2 x15_4 p1320 q1320
                cases e1320
                obtain ⟨ce1320, hce1320, hMe1320, hcc1320⟩ := Kd.N_get HO_14.out z24 x15_4 p1320 (by first | exact q1320 | exact of_decide_eq_true (by first | (with_reducible assumption) | assumption) | (have e_ := (Kd.N_reads' HO_14.out).1; omega))
                obtain ⟨ua1320_1, uc1320_1, rfl, ul1320_1, ge1320_1⟩ := k24_openF hMe1320
                have hv1320_1 := hcc1320 1 _ rfl
                rw [add_field _ _ 1 (by omega)] at hv1320_1
                replace hv1320_1 := Option.some.inj (hv1320_1.symm.trans hx1320_1)
                injection hv1320_1 with hva_ hvn_ hvc_
                rw [hva_] at ge1320_1
                rw [hvc_] at ul1320_1
                have HL1320_1 := Aside0.mk (show Kd.V k85 85 _ w.heap.size _ _ ((rd_T24 t1317 x15_4).f1) from Kd.V_mk ul1320_1 ge1320_1)
                clear hva_ hvn_ hvc_ ge1320_1 ul1320_1
                clear hcc1320 hce1320
                have HR1320_1 := Aside0.mk hi1320_1
                have HC1320_1 := Aside0.mk hl1320_1
                clear hi1320_1 hl1320_1
                replace p1320 := eq_true p1320
                replace q1320 := eq_true q1320
                have p1321 : 0 ≤ (x15_4 : Int) := of_decide_eq_true (by first | (with_reducible assumption) | assumption)
                have q1321 : x15_4 < (t1314.length : Int) := of_decide_eq_true (by first | (with_reducible assumption) | assumption)
                obtain ⟨ad1321, A1321_0, c1321_0, e1321, hx1321_0, hl1321_0, hi1321_0⟩ := at_L10 (Kd.N_reads' HO_13.out).2.2 x15_4 p1321 q1321
                cases e1321
                obtain ⟨ce1321, hce1321, hMe1321, hcc1321⟩ := Kd.N_get HO_13.out [] x15_4 p1321 (by first | exact q1321 | exact of_decide_eq_true (by first | (with_reducible assumption) | assumption) | (have e_ := (Kd.N_reads' HO_13.out).1; omega))
                obtain ⟨ua1321_0, uc1321_0, rfl, ul1321_0, ge1321_0⟩ := Kd.FK_slice_open hMe1321
                have hv1321_0 := hcc1321 0 _ rfl
                rw [Nat.add_zero, show ((Kd.slice 29 k29)).sz = 1 from rfl, Nat.mul_one] at hv1321_0
                replace hv1321_0 := Option.some.inj (hv1321_0.symm.trans hx1321_0)
                injection hv1321_0 with hva_ hvn_ hvc_
                rw [hva_] at ge1321_0
                rw [hvc_] at ul1321_0
                have HL1321_0 := Aside0.mk (show Kd.V k29 29 _ w.heap.size _ _ (rd_L10 t1314 x15_4) from Kd.V_mk ul1321_0 ge1321_0)
                clear hva_ hvn_ hvc_ ge1321_0 ul1321_0
                clear hcc1321 hce1321
                have HR1321_0 := Aside0.mk hi1321_0
                have HC1321_0 := Aside0.mk hl1321_0
                clear hi1321_0 hl1321_0
                replace p1321 := eq_true p1321
                replace q1321 := eq_true q1321
                refine start_ (n := 10) (S := fun w' => w'.cell? (ad1320.add ((x15_4).toNat * 2)) = some (.string ((rd_T24 t1317 x15_4).f0)) ∧ w'.cell? ⟨(ad1320.add ((x15_4).toNat * 2)).block, (ad1320.add ((x15_4).toNat * 2)).off + 1, none⟩ = some (.slice A1320_1 ((rd_T24 t1317 x15_4).f1).length c1320_1) ∧ w'.cell? (ad1321.add (x15_4).toNat) = some (.slice A1321_0 (rd_L10 t1314 x15_4).length c1321_0)) (ds := []) #[false, false, false, false, false, false, false, false, false, false] (by kernel_rfl) rfl rfl ⟨hx1320_0, hx1320_1, hx1321_0⟩ (fun hHeld => ?_); refine with_tabW glazierlaw04_SeekTells.tab19 glazierlaw04_SeekTells.bits19 (fun HT_ HW_ => ?_)
                generalize wr.drew = w41 at HO_9 HO_13 HO_14 BK1304 HB HL1320_1 HL1321_0 HR1320_1 HR1321_0 hx1320_0 hx1320_1 hx1321_0 hHeld ⊢
                refine pure_ (i := 0) (N := some 75) (v := ?_) (a' := ?_) #[true, false, false, false, false, false, false, false, false, false] rfl rfl (any_of HT_.out (by kernel_rfl)) (fun _ _ _ h => h) (Or.inl ⟨by rfl, ?_⟩) ?_ ?_
                rotate_left
                ·
                 intro w'
                 go_simp
                 with_reducible rfl
                rotate_left
                ·
                 simp only [Act.put, List.setIfInBounds_toArray, List.set_cons_zero, List.set_cons_succ, i64_w, i32_w]
                 rfl
                refine pure_ (i := 1) (N := some 76) (v := ?_) (a' := ?_) #[true, true, false, false, false, false, false, false, false, false] rfl rfl (any_of HT_.out (by kernel_rfl)) (fun _ _ _ h => h) (Or.inl ⟨by rfl, ?_⟩) ?_ ?_
                rotate_left
                ·
                 intro w'
                 go_simp
                 with_reducible rfl
                rotate_left
                ·
                 simp only [Act.put, List.setIfInBounds_toArray, List.set_cons_zero, List.set_cons_succ, i64_w, i32_w]
                 rfl
                refine pure_ (i := 2) (N := some 77) (v := ?_) (a' := ?_) #[true, true, true, false, false, false, false, false, false, false] rfl rfl (any_of HT_.out (by kernel_rfl)) (fun _ _ _ h => h) (Or.inl ⟨by rfl, ?_⟩) ?_ ?_
                rotate_left
                ·
                 intro w'
                 go_simp
                 with_reducible rfl
                rotate_left
                ·
                 simp only [Act.put, List.setIfInBounds_toArray, List.set_cons_zero, List.set_cons_succ, i64_w, i32_w]
                 rfl
                refine pure_ (i := 4) (N := some 79) (v := ?_) (a' := ?_) #[true, true, true, false, true, false, false, false, false, false] rfl rfl (any_of HT_.out (by kernel_rfl)) (fun _ _ _ h => h) (Or.inl ⟨by rfl, ?_⟩) ?_ ?_
                rotate_left
                ·
                 intro w'
                 go_simp
                 with_reducible rfl
                rotate_left
                ·
                 simp only [Act.put, List.setIfInBounds_toArray, List.set_cons_zero, List.set_cons_succ, i64_w, i32_w]
                 rfl
                refine pure_ (i := 5) (N := some 80) (v := ?_) (a' := ?_) #[true, true, true, false, true, true, false, false, false, false] rfl rfl (any_of HT_.out (by kernel_rfl)) (fun _ _ _ h => h) (Or.inl ⟨by rfl, ?_⟩) ?_ ?_
                rotate_left
                ·
                 intro w'
                 go_simp
                 with_reducible rfl
                rotate_left
                ·
                 simp only [Act.put, List.setIfInBounds_toArray, List.set_cons_zero, List.set_cons_succ, i64_w, i32_w]
                 rfl
                refine pure_ (i := 6) (N := some 81) (v := ?_) (a' := ?_) #[true, true, true, false, true, true, true, false, false, false] rfl rfl (any_of HT_.out (by kernel_rfl)) (fun _ _ _ h => h) (Or.inl ⟨by rfl, ?_⟩) ?_ ?_
                rotate_left
                ·
                 intro w'
                 go_simp
                 with_reducible rfl
                rotate_left
                ·
                 simp only [Act.put, List.setIfInBounds_toArray, List.set_cons_zero, List.set_cons_succ, i64_w, i32_w]
                 rfl
                refine take_ (i := 3) (N := some 78) (v := ?_) (a' := ?_) #[true, true, true, true, true, true, true, false, false, false] rfl rfl (take_ofW HT_.out HW_.out (by kernel_rfl)) (fun _ _ _ h => h) (Or.inl ⟨by rfl, ?_⟩) hHeld ?_ ?_
                rotate_left
                ·
                 rintro w' ⟨s0, s1, s2⟩
                 go_simp
                 with_reducible rfl
                rotate_left
                ·
                 simp only [Act.put, List.setIfInBounds_toArray, List.set_cons_zero, List.set_cons_succ, i64_w, i32_w]
                 rfl
                refine take_ (i := 7) (N := some 82) (v := ?_) (a' := ?_) #[true, true, true, true, true, true, true, true, false, false] rfl rfl (take_ofW HT_.out HW_.out (by kernel_rfl)) (fun _ _ _ h => h) (Or.inl ⟨by rfl, ?_⟩) hHeld ?_ ?_
                rotate_left
                ·
                 rintro w' ⟨s0, s1, s2⟩
                 go_simp
                 with_reducible rfl
                rotate_left
                ·
                 simp only [Act.put, List.setIfInBounds_toArray, List.set_cons_zero, List.set_cons_succ, i64_w, i32_w]
                 rfl
                refine one_ (i := 8) (N := some 83) #[true, true, true, true, true, true, true, true, true, false] rfl rfl (one_of HT_.out (by kernel_rfl)) (by decide) (fun K hK => ?_)
                refine goes_ Try.func24 (by kernel_rfl) rfl #[.agg #[.string ((rd_T24 t1317 x15_4).f0), .slice A1320_1 ((rd_T24 t1317 x15_4).f1).length c1320_1], .slice A1321_0 (rd_L10 t1314 x15_4).length c1321_0] (by rfl) rfl rfl (by (try simp only [List.map_toArray, List.map_cons, List.map_nil]); first | done | rfl | (simp only [List.length_drop, List.length_take]; rfl)) ?_
                with_reducible refine (glazierref01_Is.calls k4 ((rd_T24 t1317 x15_4).f0) _ _ ((rd_T24 t1317 x15_4).f1) _ _ (rd_L10 t1314 x15_4) true _ ?side1 ?side2 ?side3 ?side4 A39.out).mono ?_
                (case side1 => repeat (first | exact (by repeat (first | (with_reducible exact HR1320_1.out) | (with_reducible refine Kd.C_alloc ?_ _) | (with_reducible refine Kd.C_drewN ?_ _) | (with_reducible refine Kd.C_drew ?_) | exact HR1320_1.out)) | (with_reducible refine Kd.C_alloc ?_ _) | (with_reducible refine Kd.C_drewN ?_ _) | (with_reducible refine Kd.C_drew ?_)))
                (case side2 => exact HC1320_1.out)
                (case side3 => repeat (first | exact (by repeat (first | (with_reducible exact HR1321_0.out) | (with_reducible refine Kd.C_alloc ?_ _) | (with_reducible refine Kd.C_drewN ?_ _) | (with_reducible refine Kd.C_drew ?_) | exact HR1321_0.out)) | (with_reducible refine Kd.C_alloc ?_ _) | (with_reducible refine Kd.C_drewN ?_ _) | (with_reducible refine Kd.C_drew ?_)))
                (case side4 => exact HC1321_0.out)
                rintro e w42 ⟨rfl, hb⟩
                have HS0_ := (hb.cell (World.block_lt_of_cell? _ _ (hHeld.1))).trans (hHeld.1)
                have HS1_ := (hb.cell (World.block_lt_of_cell? _ _ (hHeld.2.1))).trans (hHeld.2.1)
                have HS2_ := (hb.cell (World.block_lt_of_cell? _ _ (hHeld.2.2))).trans (hHeld.2.2)
                refine ⟨_, rfl, ?_⟩
                have n0_ := Aside0.mk (Kd.R_below (by (with_reducible repeat (first | apply Kd.R_alloc | apply Kd.R_drewN | apply Kd.R_drew)); exact HO_9.out) hb)
                have n1_ := Aside0.mk (Kd.N_below (by (with_reducible repeat (first | apply Kd.N_alloc | apply Kd.N_drewN | apply Kd.N_drew)); exact HO_13.out) hb)
                have n2_ := Aside0.mk (Kd.N_below (by (with_reducible repeat (first | apply Kd.N_alloc | apply Kd.N_drewN | apply Kd.N_drew)); exact HO_14.out) hb)
                have n3_ := Aside0.mk (Kd.V_below (by (with_reducible repeat (first | apply Kd.V_alloc | apply Kd.V_drewN | apply Kd.V_drew)); exact HL1320_1.out) hb)
                have n4_ := Aside0.mk (Kd.V_below (by (with_reducible repeat (first | apply Kd.V_alloc | apply Kd.V_drewN | apply Kd.V_drew)); exact HL1321_0.out) hb)
                have n5_ := Aside0.mk (blk_below (g := gb1304) (o := .cells #[.string a0_0, .slice A0_1 l0_1.length c0_1] 24 (0, 0)) (by (with_reducible repeat (first | refine blk_drewN ?_ _ | refine blk_drew ?_ | refine blk_alloc ?_ _)); exact BK1304.out) hb)
                have n6_ := Aside0.mk (Kd.C_below (by repeat (first | (with_reducible exact HR1320_1.out) | (with_reducible refine Kd.C_alloc ?_ _) | (with_reducible refine Kd.C_drewN ?_ _) | (with_reducible refine Kd.C_drew ?_) | exact HR1320_1.out)) hb)
                have n7_ := Aside0.mk (Kd.C_below (by repeat (first | (with_reducible exact HR1321_0.out) | (with_reducible refine Kd.C_alloc ?_ _) | (with_reducible refine Kd.C_drewN ?_ _) | (with_reducible refine Kd.C_drew ?_) | exact HR1321_0.out)) hb)
                have n8_ := Aside0.mk (below_step (by repeat (first | (with_reducible first | exact HB.out | apply below_alloc | apply pw_below_drewN | apply below_drew1 | refine below_set ?_ GE1304.out) | exact HB.out)) hb)
                clear HO_9
                clear HO_13
                clear HO_14
                clear HL1320_1
                clear HL1321_0
                clear BK1304
                clear HR1320_1
                clear HR1321_0
                clear HB
                have HO_9 := n0_
                have HO_13 := n1_
                have HO_14 := n2_
                have HL1320_1 := n3_
                have HL1321_0 := n4_
                have BK1304 := n5_
                have HR1320_1 := n6_
                have HR1321_0 := n7_
                have HB := n8_
                clear n0_ n1_ n2_ n3_ n4_ n5_ n6_ n7_ n8_
                (try clear hb)
                (try clear hb2)
                (try clear hk)
                (try clear hi)
                refine hK.out _ _ ⟨HS0_, HS1_, HS2_⟩ (fun hHeld => ?_)
                clear hK K
                refine norm_ (a' := ?_) ?_ ?_
                rotate_left
                ·
                 show Act.put _ (some 83) _ = _
                 simp only [Act.put, List.setIfInBounds_toArray, List.set_cons_zero, List.set_cons_succ, i64_w, i32_w]
                 rfl
                refine pure_ (i := 9) (N := some 84) (v := ?_) (a' := ?_) #[true, true, true, true, true, true, true, true, true, true] rfl rfl (any_of HT_.out (by kernel_rfl)) (fun _ _ _ h => h) (Or.inl ⟨by rfl, ?_⟩) ?_ ?_
                rotate_left
                ·
                 intro w'
                 go_simp
                 with_reducible rfl
                rotate_left
                ·
                 simp only [Act.put, List.setIfInBounds_toArray, List.set_cons_zero, List.set_cons_succ, i64_w, i32_w]
                 rfl
                refine done_ (done_of HT_.out (by kernel_rfl)) ?_
                try go_wp2
                go_roundg k4
                case measure => have := HK1.out; have := HJ12.out; have := HJ22.out; have := HK4.out; omega
                case rel => exact ⟨(wrap64 (x15_4 + 1)), (by first | rfl | (simp; done) | (simp [*]; done)), H', ⟨by have := HK1.out; have := HJ12.out; have := HJ22.out; have := HK4.out; omega⟩, ⟨by (with_reducible repeat (first | apply Kd.R_alloc | apply Kd.R_drewN | apply Kd.R_drew)); exact HO_9.out⟩, ⟨by (with_reducible repeat (first | apply Kd.N_alloc | apply Kd.N_drewN | apply Kd.N_drew)); exact HO_13.out⟩, ⟨by (with_reducible repeat (first | apply Kd.N_alloc | apply Kd.N_drewN | apply Kd.N_drew)); exact HO_14.out⟩, ⟨by (with_reducible repeat (first | refine blk_drewN ?_ _ | refine blk_drew ?_ | refine blk_alloc ?_ _)); exact BK1304.out⟩, ⟨by repeat (first | (with_reducible first | exact HB.out | apply below_alloc | apply pw_below_drewN | apply below_drew1 | refine below_set ?_ GE1304.out) | exact HB.out)⟩⟩
               ·
                replace c40 := Bool.eq_false_iff.mpr c40
                subst c40
                have H1 : (none) = some r := by rw [if_neg (show ¬ (false = true) by decide)] at H; exact H
                clear H
                have H := H1
                clear H1
                exact absurd H (by simp)
              ·
               rw [if_neg c38] at H
               exact absurd H (by simp)
             ·
              rw [if_neg c37] at H
              exact absurd H (by simp)
            ·
             rw [if_neg c36] at H
             have c36b0 : decide (x15_4 < (t1314.length : Int)) = false := decide_eq_false c36
             clear c36
             replace H := Option.bind_eq_some_iff.mp H
             obtain ⟨t1323, A430, H⟩ := H
             replace H : ((glazierref01_Index.f k4 t1306 a1 a2).bind fun t1324 => (if t1323 = t1324 then ((seek_Begins.f k4 a0_0 l0_1 a1).bind fun t1325 => (if (t1325 == x10_1) = true then ((seek_Span.f k4 a0_0 l0_1 a3).bind fun t1326 => (some (t1326 == x12_22))) else (none))) else (none))) = some r := H
             have A43 := Aside0.mk A430
             clear A430
             replace H := Option.bind_eq_some_iff.mp H
             obtain ⟨t1324, A440, H⟩ := H
             replace H : (if t1323 = t1324 then ((seek_Begins.f k4 a0_0 l0_1 a1).bind fun t1325 => (if (t1325 == x10_1) = true then ((seek_Span.f k4 a0_0 l0_1 a3).bind fun t1326 => (some (t1326 == x12_22))) else (none))) else (none)) = some r := H
             have A44 := Aside0.mk A440
             clear A440
             by_cases c45 : t1323 = t1324
             ·
              rw [if_pos c45] at H
              have c45b0 : (t1323 == t1324) = true := beq_iff_eq.mpr c45
              have c45b1 : (t1323 != t1324) = false := bne_eq_false_iff_eq.mpr c45
              clear c45
              replace H := Option.bind_eq_some_iff.mp H
              obtain ⟨t1325, A460, H⟩ := H
              replace H : (if (t1325 == x10_1) = true then ((seek_Span.f k4 a0_0 l0_1 a3).bind fun t1326 => (some (t1326 == x12_22))) else (none)) = some r := H
              have A46 := Aside0.mk A460
              clear A460
              by_cases c47 : (t1325 == x10_1) = true
              ·
               rw [if_pos c47] at H
               have c47b0 : (t1325 == x10_1) = true := c47
               (try (have c47b1 : decide (t1325 = x10_1) = true := by simpa using c47))
               (try (have c47b2 : (t1325 == x10_1) = true := by simpa using c47))
               clear c47
               replace H := Option.bind_eq_some_iff.mp H
               obtain ⟨t1326, A480, H⟩ := H
               replace H : (some (t1326 == x12_22)) = some r := H
               have A48 := Aside0.mk A480
               clear A480
               obtain rfl := Option.some.inj H
               have hcz49_0 : wr.cell? ⟨gb1304, 0, none⟩ = some (.string a0_0) := (blk_cell BK1304.out 0).trans rfl
               have hcz49_1 : wr.cell? ⟨gb1304, 1, none⟩ = some (.slice A0_1 l0_1.length c0_1) := (blk_cell BK1304.out 1).trans rfl
               have hfz49_0 := blk_frozen BK1304.out 0
               have hfz49_1 := blk_frozen BK1304.out 1
               go_wp2_with (first | ((with_reducible refine gate_callee (f := 77) rfl ?_); refine goesL_ (some 88) rfl rfl Try.func77 (by kernel_rfl) rfl #[.agg #[.string a0_0, .slice A0_1 l0_1.length c0_1], .string a1, .int .i64 a2] rfl (by (try simp only [List.map_toArray, List.map_cons, List.map_nil]); first | done | rfl | (simp only [List.length_drop, List.length_take]; rfl)) ?_; (with_reducible refine (seek_IndexM.calls a0_0 _ _ l0_1 a1 a2 t1323 _ ?side1 ?side2 (elderM HM.out (by repeat (first | (with_reducible first | exact HB.out | apply below_alloc | apply pw_below_drewN | apply below_drew1 | refine below_set ?_ GE1304.out) | exact HB.out))) A43.out).mono ?_); (case side1 => repeat (first | exact (Kd.C_below HR0_1.out HB.out) | (with_reducible refine Kd.C_alloc ?_ _) | (with_reducible refine Kd.C_drewN ?_ _) | (with_reducible refine Kd.C_drew ?_))); (case side2 => exact HC0_1.out); rintro e w50 ⟨rfl, hb⟩; refine ⟨_, rfl, ?_⟩; have n0_ := Aside0.mk (Kd.R_below (by (with_reducible repeat (first | apply Kd.R_alloc | apply Kd.R_drewN | apply Kd.R_drew)); exact HO_9.out) hb); have n1_ := Aside0.mk (Kd.N_below (by (with_reducible repeat (first | apply Kd.N_alloc | apply Kd.N_drewN | apply Kd.N_drew)); exact HO_13.out) hb); have n2_ := Aside0.mk (Kd.N_below (by (with_reducible repeat (first | apply Kd.N_alloc | apply Kd.N_drewN | apply Kd.N_drew)); exact HO_14.out) hb); have n3_ := Aside0.mk (blk_below (g := gb1304) (o := .cells #[.string a0_0, .slice A0_1 l0_1.length c0_1] 24 (0, 0)) (by (with_reducible repeat (first | refine blk_drewN ?_ _ | refine blk_drew ?_ | refine blk_alloc ?_ _)); exact BK1304.out) hb); have n4_ := Aside0.mk (below_step (by repeat (first | (with_reducible first | exact HB.out | apply below_alloc | apply pw_below_drewN | apply below_drew1 | refine below_set ?_ GE1304.out) | exact HB.out)) hb); clear HO_9; clear HO_13; clear HO_14; clear BK1304; clear HB; have HO_9 := n0_; have HO_13 := n1_; have HO_14 := n2_; have BK1304 := n3_; have HB := n4_; clear n0_ n1_ n2_ n3_ n4_; (try clear hb); (try clear hb2); (try clear hk); (try clear hi)) | ((with_reducible refine gate_callee (f := 81) rfl ?_); refine goesL_ (some 92) rfl rfl Try.func81 (by kernel_rfl) rfl #[.slice Ao12 t1306.length co12, .string a1, .int .i64 a2] rfl (by (try simp only [List.map_toArray, List.map_cons, List.map_nil]); first | done | rfl | (simp only [List.length_drop, List.length_take]; rfl)) ?_; (with_reducible refine (glazierref01_Index.calls k4 _ _ t1306 a1 a2 t1324 _ ?side1 ?side2 A44.out).mono ?_); (case side1 => repeat (first | exact (Kd.R_reads' HO_9.out).2.2 | (with_reducible refine Kd.C_alloc ?_ _) | (with_reducible refine Kd.C_drewN ?_ _) | (with_reducible refine Kd.C_drew ?_))); (case side2 => exact (Kd.R_reads' HO_9.out).2.1); rintro e w51 ⟨rfl, hb⟩; refine ⟨_, rfl, ?_⟩; have n0_ := Aside0.mk (Kd.R_below (by (with_reducible repeat (first | apply Kd.R_alloc | apply Kd.R_drewN | apply Kd.R_drew)); exact HO_9.out) hb); have n1_ := Aside0.mk (Kd.N_below (by (with_reducible repeat (first | apply Kd.N_alloc | apply Kd.N_drewN | apply Kd.N_drew)); exact HO_13.out) hb); have n2_ := Aside0.mk (Kd.N_below (by (with_reducible repeat (first | apply Kd.N_alloc | apply Kd.N_drewN | apply Kd.N_drew)); exact HO_14.out) hb); have n3_ := Aside0.mk (blk_below (g := gb1304) (o := .cells #[.string a0_0, .slice A0_1 l0_1.length c0_1] 24 (0, 0)) (by (with_reducible repeat (first | refine blk_drewN ?_ _ | refine blk_drew ?_ | refine blk_alloc ?_ _)); exact BK1304.out) hb); have n4_ := Aside0.mk (below_step (by repeat (first | (with_reducible first | exact HB.out | apply below_alloc | apply pw_below_drewN | apply below_drew1 | refine below_set ?_ GE1304.out) | exact HB.out)) hb); clear HO_9; clear HO_13; clear HO_14; clear BK1304; clear HB; have HO_9 := n0_; have HO_13 := n1_; have HO_14 := n2_; have BK1304 := n3_; have HB := n4_; clear n0_ n1_ n2_ n3_ n4_; (try clear hb); (try clear hb2); (try clear hk); (try clear hi); have hcz52_0 : w51.cell? ⟨gb1304, 0, none⟩ = some (.string a0_0) := (blk_cell BK1304.out 0).trans rfl; have hcz52_1 : w51.cell? ⟨gb1304, 1, none⟩ = some (.slice A0_1 l0_1.length c0_1) := (blk_cell BK1304.out 1).trans rfl; have hfz52_0 := blk_frozen BK1304.out 0; have hfz52_1 := blk_frozen BK1304.out 1) | (go_at_call 82; (with_reducible refine (seek_Begins.calls k4 a0_0 _ _ l0_1 a1 t1325 _ ?side1 ?side2 A46.out).mono ?_); (case side1 => repeat (first | exact (Kd.C_below HR0_1.out HB.out) | (with_reducible refine Kd.C_alloc ?_ _) | (with_reducible refine Kd.C_drewN ?_ _) | (with_reducible refine Kd.C_drew ?_))); (case side2 => exact HC0_1.out); rintro e w53 ⟨rfl, hb⟩; have n0_ := Aside0.mk (Kd.R_below (by (with_reducible repeat (first | apply Kd.R_alloc | apply Kd.R_drewN | apply Kd.R_drew)); exact HO_9.out) hb); have n1_ := Aside0.mk (Kd.N_below (by (with_reducible repeat (first | apply Kd.N_alloc | apply Kd.N_drewN | apply Kd.N_drew)); exact HO_13.out) hb); have n2_ := Aside0.mk (Kd.N_below (by (with_reducible repeat (first | apply Kd.N_alloc | apply Kd.N_drewN | apply Kd.N_drew)); exact HO_14.out) hb); have n3_ := Aside0.mk (blk_below (g := gb1304) (o := .cells #[.string a0_0, .slice A0_1 l0_1.length c0_1] 24 (0, 0)) (by (with_reducible repeat (first | refine blk_drewN ?_ _ | refine blk_drew ?_ | refine blk_alloc ?_ _)); exact BK1304.out) hb); have n4_ := Aside0.mk (below_step (by repeat (first | (with_reducible first | exact HB.out | apply below_alloc | apply pw_below_drewN | apply below_drew1 | refine below_set ?_ GE1304.out) | exact HB.out)) hb); clear HO_9; clear HO_13; clear HO_14; clear BK1304; clear HB; have HO_9 := n0_; have HO_13 := n1_; have HO_14 := n2_; have BK1304 := n3_; have HB := n4_; clear n0_ n1_ n2_ n3_ n4_; (try clear hb); (try clear hb2); (try clear hk); (try clear hi); have hcz54_0 : w53.cell? ⟨gb1304, 0, none⟩ = some (.string a0_0) := (blk_cell BK1304.out 0).trans rfl; have hcz54_1 : w53.cell? ⟨gb1304, 1, none⟩ = some (.slice A0_1 l0_1.length c0_1) := (blk_cell BK1304.out 1).trans rfl; have hfz54_0 := blk_frozen BK1304.out 0; have hfz54_1 := blk_frozen BK1304.out 1) | (go_at_call 83; (with_reducible refine (seek_Span.calls k4 a0_0 _ _ l0_1 a3 t1326 _ ?side1 ?side2 A48.out).mono ?_); (case side1 => repeat (first | exact (Kd.C_below HR0_1.out HB.out) | (with_reducible refine Kd.C_alloc ?_ _) | (with_reducible refine Kd.C_drewN ?_ _) | (with_reducible refine Kd.C_drew ?_))); (case side2 => exact HC0_1.out); rintro e w55 ⟨rfl, hb⟩; have n0_ := Aside0.mk (Kd.R_below (by (with_reducible repeat (first | apply Kd.R_alloc | apply Kd.R_drewN | apply Kd.R_drew)); exact HO_9.out) hb); have n1_ := Aside0.mk (Kd.N_below (by (with_reducible repeat (first | apply Kd.N_alloc | apply Kd.N_drewN | apply Kd.N_drew)); exact HO_13.out) hb); have n2_ := Aside0.mk (Kd.N_below (by (with_reducible repeat (first | apply Kd.N_alloc | apply Kd.N_drewN | apply Kd.N_drew)); exact HO_14.out) hb); have n3_ := Aside0.mk (blk_below (g := gb1304) (o := .cells #[.string a0_0, .slice A0_1 l0_1.length c0_1] 24 (0, 0)) (by (with_reducible repeat (first | refine blk_drewN ?_ _ | refine blk_drew ?_ | refine blk_alloc ?_ _)); exact BK1304.out) hb); have n4_ := Aside0.mk (below_step (by repeat (first | (with_reducible first | exact HB.out | apply below_alloc | apply pw_below_drewN | apply below_drew1 | refine below_set ?_ GE1304.out) | exact HB.out)) hb); clear HO_9; clear HO_13; clear HO_14; clear BK1304; clear HB; have HO_9 := n0_; have HO_13 := n1_; have HO_14 := n2_; have BK1304 := n3_; have HB := n4_; clear n0_ n1_ n2_ n3_ n4_; (try clear hb); (try clear hb2); (try clear hk); (try clear hi)))
               go_ret
               exact ⟨by first | rfl | (simp [errW_none, errW_some] <;> rfl) | (simp [*, errW_none, errW_some] <;> rfl), by repeat (first | (with_reducible first | exact HB.out | apply below_alloc | apply pw_below_drewN | apply below_drew1 | refine below_set ?_ GE1304.out) | exact HB.out)⟩
              ·
               rw [if_neg c47] at H
               exact absurd H (by simp)
             ·
              rw [if_neg c45] at H
              exact absurd H (by simp)
         ·
          rw [if_neg c30] at H
          exact absurd H (by simp)
 ·
  replace c6 := Bool.eq_false_iff.mpr c6
  subst c6
  have H1 : (none) = some r := by rw [if_neg (show ¬ (false = true) by decide)] at H; exact H
  clear H
  have H := H1
  clear H1
  exact absurd H (by simp)

end Go.Proofs.Ytljmmhihdcnbaaa.G
