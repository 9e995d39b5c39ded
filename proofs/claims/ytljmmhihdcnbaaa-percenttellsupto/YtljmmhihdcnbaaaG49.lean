-- Written for this claim by hybrid.py's copy of the print program (a program of this session); not trusted: Lean checks it.
import Derived.Test.YtljmmhihdcnbaaaG0
import Derived.Test.YtljmmhihdcnbaaaG13
import Derived.Test.YtljmmhihdcnbaaaG15
import Derived.Test.YtljmmhihdcnbaaaG39
import Derived.Test.YtljmmhihdcnbaaaG40
import Derived.Test.YtljmmhihdcnbaaaG41
import Derived.Test.YtljmmhihdcnbaaaG42
import Derived.Test.YtljmmhihdcnbaaaG43
import Derived.Test.YtljmmhihdcnbaaaG44
import Derived.Test.YtljmmhihdcnbaaaG45
import Derived.Test.YtljmmhihdcnbaaaG46
import Derived.Test.YtljmmhihdcnbaaaG48
namespace Go.Proofs.Ytljmmhihdcnbaaa.G
open Go.RowKit Go.Proofs.YtljmmhihdcnbaaaW.PrintWords Go.Proofs.YtljmmhihdcnbaaaW.PrintLast Go.Proofs.YtljmmhihdcnbaaaW.PrintMore
attribute [local go_sem] max2_int min2_int max_two min_two max_three min_three max_four min_four   -- for this text's walks alone
set_option linter.unusedVariables false
set_option linter.unusedSimpArgs false

/-! ### glazierlaw05_PercentTells: function 5 -/
mutual
def glazierlaw05_PercentTells.l0 : Nat → Int → List (S29) → ByteArray → List (S29) → Int → ByteArray → List (S85) → Option (Bool)
 | 0, _, _, _, _, _, _, _ => none
 | k + 1, x1, x5, x6, x7, x9, x506000, x506001 => if x9 < (x5.length : Int) then (if 0 ≤ x9 then ((glazierlaw05_plain.f k ((rd_T29 x5 x9).f0)).bind fun t511 => (if t511 = true then (if x7.length < 8796093022208 then (glazierlaw05_PercentTells.l0 k x1 x5 x6 (x7 ++ [(⟨(rd_T29 x5 x9).f0, (rd_T29 x5 x9).f1⟩ : S29)]) (wrap64 (x9 + 1)) x506000 x506001) else (none)) else (if 0 ≤ ((Int.tdiv ((rd_T29 x5 x9).f0) 16) % 256) then (if ((Int.tdiv ((rd_T29 x5 x9).f0) 16) % 256) ≤ ((((Int.tdiv ((rd_T29 x5 x9).f0) 16) % 256) + 1) % 256) then (if ((((Int.tdiv ((rd_T29 x5 x9).f0) 16) % 256) + 1) % 256) ≤ (x6.size : Int) then (if 1 + (x6.extract (((Int.tdiv ((rd_T29 x5 x9).f0) 16) % 256) : Int).toNat (((((Int.tdiv ((rd_T29 x5 x9).f0) 16) % 256) + 1) % 256) : Int).toNat).size ≤ 9223372036854775807 then (if 0 ≤ (Int.tmod ((rd_T29 x5 x9).f0) 16) then (if (Int.tmod ((rd_T29 x5 x9).f0) 16) ≤ (((Int.tmod ((rd_T29 x5 x9).f0) 16) + 1) % 256) then (if (((Int.tmod ((rd_T29 x5 x9).f0) 16) + 1) % 256) ≤ (x6.size : Int) then (if ((⟨#[37]⟩ : ByteArray) ++ (x6.extract (((Int.tdiv ((rd_T29 x5 x9).f0) 16) % 256) : Int).toNat (((((Int.tdiv ((rd_T29 x5 x9).f0) 16) % 256) + 1) % 256) : Int).toNat)).size + (x6.extract ((Int.tmod ((rd_T29 x5 x9).f0) 16) : Int).toNat ((((Int.tmod ((rd_T29 x5 x9).f0) 16) + 1) % 256) : Int).toNat).size ≤ 9223372036854775807 then ((glazierref01_All.f k (((⟨#[37]⟩ : ByteArray) ++ (x6.extract (((Int.tdiv ((rd_T29 x5 x9).f0) 16) % 256) : Int).toNat (((((Int.tdiv ((rd_T29 x5 x9).f0) 16) % 256) + 1) % 256) : Int).toNat)) ++ (x6.extract ((Int.tmod ((rd_T29 x5 x9).f0) 16) : Int).toNat ((((Int.tmod ((rd_T29 x5 x9).f0) 16) + 1) % 256) : Int).toNat)) ((rd_T29 x5 x9).f1)).bind fun t521 => (if x7.length + t521.length < 8796093022208 then (glazierlaw05_PercentTells.l0 k x1 x5 x6 (x7 ++ t521) (wrap64 (x9 + 1)) x506000 x506001) else (none))) else (none)) else (none)) else (none)) else (none)) else (none)) else (none)) else (none)) else (none)))) else (none)) else (glazierlaw05_PercentTells.l1 k x1 x5 x7 ([] : List (S29)) 0 x506000 x506001)
def glazierlaw05_PercentTells.l1 : Nat → Int → List (S29) → List (S29) → List (S29) → Int → ByteArray → List (S85) → Option (Bool)
 | 0, _, _, _, _, _, _, _ => none
 | k + 1, x1, x5, x7, x8, x10, x506000, x506001 => if x10 < (x5.length : Int) then (if 0 ≤ x10 then (if ((rd_T29 x5 x10).f0) = 37 then (if (wrap64 (x10 + 2)) < (x5.length : Int) then (if 0 ≤ (wrap64 (x10 + 1)) then (if (wrap64 (x10 + 1)) < (x5.length : Int) then ((glazierlaw05_hex.f k ((rd_T29 x5 (wrap64 (x10 + 1))).f0)).bind fun t529 => (if t529 ≥ 0 then (if 0 ≤ (wrap64 (x10 + 2)) then ((glazierlaw05_hex.f k ((rd_T29 x5 (wrap64 (x10 + 2))).f0)).bind fun t531 => (glazierlaw05_PercentTells.j2 k x1 x5 x7 x8 x10 (decide (t531 ≥ 0)) x506000 x506001)) else (none)) else (glazierlaw05_PercentTells.j2 k x1 x5 x7 x8 x10 false x506000 x506001))) else (none)) else (none)) else (glazierlaw05_PercentTells.j2 k x1 x5 x7 x8 x10 false x506000 x506001)) else (glazierlaw05_PercentTells.j2 k x1 x5 x7 x8 x10 false x506000 x506001)) else (none)) else ((percent_Encode.f k x506000 x506001).bind fun bt548 => ((glazierref01_Is.f k bt548.1 bt548.2 x7).bind fun t552 => (if t552 = true then ((percent_Decode.f k x506000 x506001).bind fun bt553 => ((glazierref01_Is.f k bt553.1 bt553.2 x8).bind fun t557 => (if t557 = true then ((percent_Plain.f k x1).bind fun t558 => ((glazierlaw05_plain.f k x1).bind fun t559 => (if (t558 == t559) = true then ((percent_Hex.f x1).bind fun t560 => ((glazierlaw05_hex.f k x1).bind fun t561 => (some (t560 == t561)))) else (none)))) else (none)))) else (none))))
def glazierlaw05_PercentTells.j2 : Nat → Int → List (S29) → List (S29) → List (S29) → Int → Bool → ByteArray → List (S85) → Option (Bool)
 | 0, _, _, _, _, _, _, _, _ => none
 | k + 1, x1, x5, x7, x8, x10, x112, x506000, x506001 => if x112 = true then (if 0 ≤ (wrap64 (x10 + 1)) then (if (wrap64 (x10 + 1)) < (x5.length : Int) then ((glazierlaw05_hex.f k ((rd_T29 x5 (wrap64 (x10 + 1))).f0)).bind fun t533 => (if 0 ≤ (wrap64 (x10 + 2)) then (if (wrap64 (x10 + 2)) < (x5.length : Int) then ((glazierlaw05_hex.f k ((rd_T29 x5 (wrap64 (x10 + 2))).f0)).bind fun t535 => (if 0 ≤ x10 then (if x10 ≤ (wrap64 (x10 + 3)) then (if (wrap64 (x10 + 3)) ≤ (x5.length : Int) then ((glazierref01_Worst.f k ((x5.take ((wrap64 (x10 + 3)) : Int).toNat).drop (x10 : Int).toNat)).bind fun t540 => (if x8.length < 8796093022208 then (glazierlaw05_PercentTells.l1 k x1 x5 x7 (x8 ++ [(⟨(wrap64 ((wrap64 (16 * t533)) + t535)) % 256, t540⟩ : S29)]) (wrap64 ((wrap64 (x10 + 2)) + 1)) x506000 x506001) else (none))) else (none)) else (none)) else (none))) else (none)) else (none))) else (none)) else (none)) else (if 0 ≤ x10 then (if x10 < (x5.length : Int) then (if x8.length < 8796093022208 then (glazierlaw05_PercentTells.l1 k x1 x5 x7 (x8 ++ [(⟨(rd_T29 x5 x10).f0, (rd_T29 x5 x10).f1⟩ : S29)]) (wrap64 (x10 + 1)) x506000 x506001) else (none)) else (none)) else (none))
end
def glazierlaw05_PercentTells.f (k : Nat) (a0_0 : ByteArray) (l0_1 : List (S85)) (a1 : Int) : Option (Bool) := (glazierlaw05_alive.f k).bind fun t506 => (if t506 = true then ((glazierref01_Of.f k a0_0 l0_1).bind fun t507 => (glazierlaw05_PercentTells.l0 k a1 t507 (⟨#[48, 49, 50, 51, 52, 53, 54, 55, 56, 57, 65, 66, 67, 68, 69, 70]⟩ : ByteArray) ([] : List (S29)) 0 a0_0 l0_1)) else (none))
theorem glazierlaw05_PercentTells.mono_l : ∀ k, (∀ y0 y1 y2 y3 y4 y5 y6, LeO (glazierlaw05_PercentTells.l0 k y0 y1 y2 y3 y4 y5 y6) (glazierlaw05_PercentTells.l0 (k + 1) y0 y1 y2 y3 y4 y5 y6)) ∧ (∀ y0 y1 y2 y3 y4 y5 y6, LeO (glazierlaw05_PercentTells.l1 k y0 y1 y2 y3 y4 y5 y6) (glazierlaw05_PercentTells.l1 (k + 1) y0 y1 y2 y3 y4 y5 y6)) ∧ (∀ y0 y1 y2 y3 y4 y5 y6 y7, LeO (glazierlaw05_PercentTells.j2 k y0 y1 y2 y3 y4 y5 y6 y7) (glazierlaw05_PercentTells.j2 (k + 1) y0 y1 y2 y3 y4 y5 y6 y7))
 | 0 => ⟨fun _ _ _ _ _ _ _ r h => by simp [glazierlaw05_PercentTells.l0] at h, fun _ _ _ _ _ _ _ r h => by simp [glazierlaw05_PercentTells.l1] at h, fun _ _ _ _ _ _ _ _ r h => by simp [glazierlaw05_PercentTells.j2] at h⟩
 | k + 1 => by
  obtain ⟨ih0, ih1, ih2⟩ := glazierlaw05_PercentTells.mono_l k
  refine ⟨?_, ?_, ?_⟩
  ·
   intro y0 y1 y2 y3 y4 y5 y6
   unfold glazierlaw05_PercentTells.l0
   repeat' first
   | (with_reducible exact ih0 _ _ _ _ _ _ _)
   | (with_reducible exact ih1 _ _ _ _ _ _ _)
   | (with_reducible exact ih2 _ _ _ _ _ _ _ _)
   | (with_reducible exact glazierlaw05_alive.mono _)
   | (with_reducible exact glazierlaw05_hex.mono _ _)
   | (with_reducible exact glazierlaw05_plain.mono _ _)
   | (with_reducible exact glazierref01_All.mono _ _ _)
   | (with_reducible exact glazierref01_Is.mono _ _ _ _)
   | (with_reducible exact glazierref01_Of.mono _ _ _)
   | (with_reducible exact glazierref01_Worst.mono _ _)
   | (with_reducible exact percent_Decode.mono _ _ _)
   | (with_reducible exact percent_Encode.mono _ _ _)
   | (with_reducible exact percent_Plain.mono _ _)
   | (with_reducible exact LeO.refl _)
   | (with_reducible exact LeO.none _)
   | (with_reducible refine LeO.ite ?_ ?_)
   | (with_reducible refine LeO.bind ?_ (fun _ => ?_))
   | exact ih0 _ _ _ _ _ _ _
   | exact ih1 _ _ _ _ _ _ _
   | exact ih2 _ _ _ _ _ _ _ _
   | exact glazierlaw05_alive.mono _
   | exact glazierlaw05_hex.mono _ _
   | exact glazierlaw05_plain.mono _ _
   | exact glazierref01_All.mono _ _ _
   | exact glazierref01_Is.mono _ _ _ _
   | exact glazierref01_Of.mono _ _ _
   | exact glazierref01_Worst.mono _ _
   | exact percent_Decode.mono _ _ _
   | exact percent_Encode.mono _ _ _
   | exact percent_Plain.mono _ _
   | exact LeO.none _
   | refine LeO.ite ?_ ?_
   | refine LeO.bind ?_ (fun _ => ?_)
  ·
   intro y0 y1 y2 y3 y4 y5 y6
   unfold glazierlaw05_PercentTells.l1
   repeat' first
   | (with_reducible exact ih0 _ _ _ _ _ _ _)
   | (with_reducible exact ih1 _ _ _ _ _ _ _)
   | (with_reducible exact ih2 _ _ _ _ _ _ _ _)
   | (with_reducible exact glazierlaw05_alive.mono _)
   | (with_reducible exact glazierlaw05_hex.mono _ _)
   | (with_reducible exact glazierlaw05_plain.mono _ _)
   | (with_reducible exact glazierref01_All.mono _ _ _)
   | (with_reducible exact glazierref01_Is.mono _ _ _ _)
   | (with_reducible exact glazierref01_Of.mono _ _ _)
   | (with_reducible exact glazierref01_Worst.mono _ _)
   | (with_reducible exact percent_Decode.mono _ _ _)
   | (with_reducible exact percent_Encode.mono _ _ _)
   | (with_reducible exact percent_Plain.mono _ _)
   | (with_reducible exact LeO.refl _)
   | (with_reducible exact LeO.none _)
   | (with_reducible refine LeO.ite ?_ ?_)
   | (with_reducible refine LeO.bind ?_ (fun _ => ?_))
   | exact ih0 _ _ _ _ _ _ _
   | exact ih1 _ _ _ _ _ _ _
   | exact ih2 _ _ _ _ _ _ _ _
   | exact glazierlaw05_alive.mono _
   | exact glazierlaw05_hex.mono _ _
   | exact glazierlaw05_plain.mono _ _
   | exact glazierref01_All.mono _ _ _
   | exact glazierref01_Is.mono _ _ _ _
   | exact glazierref01_Of.mono _ _ _
   | exact glazierref01_Worst.mono _ _
   | exact percent_Decode.mono _ _ _
   | exact percent_Encode.mono _ _ _
   | exact percent_Plain.mono _ _
   | exact LeO.none _
   | refine LeO.ite ?_ ?_
   | refine LeO.bind ?_ (fun _ => ?_)
  ·
   intro y0 y1 y2 y3 y4 y5 y6 y7
   unfold glazierlaw05_PercentTells.j2
   repeat' first
   | (with_reducible exact ih0 _ _ _ _ _ _ _)
   | (with_reducible exact ih1 _ _ _ _ _ _ _)
   | (with_reducible exact ih2 _ _ _ _ _ _ _ _)
   | (with_reducible exact glazierlaw05_alive.mono _)
   | (with_reducible exact glazierlaw05_hex.mono _ _)
   | (with_reducible exact glazierlaw05_plain.mono _ _)
   | (with_reducible exact glazierref01_All.mono _ _ _)
   | (with_reducible exact glazierref01_Is.mono _ _ _ _)
   | (with_reducible exact glazierref01_Of.mono _ _ _)
   | (with_reducible exact glazierref01_Worst.mono _ _)
   | (with_reducible exact percent_Decode.mono _ _ _)
   | (with_reducible exact percent_Encode.mono _ _ _)
   | (with_reducible exact percent_Plain.mono _ _)
   | (with_reducible exact LeO.refl _)
   | (with_reducible exact LeO.none _)
   | (with_reducible refine LeO.ite ?_ ?_)
   | (with_reducible refine LeO.bind ?_ (fun _ => ?_))
   | exact ih0 _ _ _ _ _ _ _
   | exact ih1 _ _ _ _ _ _ _
   | exact ih2 _ _ _ _ _ _ _ _
   | exact glazierlaw05_alive.mono _
   | exact glazierlaw05_hex.mono _ _
   | exact glazierlaw05_plain.mono _ _
   | exact glazierref01_All.mono _ _ _
   | exact glazierref01_Is.mono _ _ _ _
   | exact glazierref01_Of.mono _ _ _
   | exact glazierref01_Worst.mono _ _
   | exact percent_Decode.mono _ _ _
   | exact percent_Encode.mono _ _ _
   | exact percent_Plain.mono _ _
   | exact LeO.none _
   | refine LeO.ite ?_ ?_
   | refine LeO.bind ?_ (fun _ => ?_)
theorem glazierlaw05_PercentTells.mono : ∀ a0 a1 a2 k, LeO (glazierlaw05_PercentTells.f k a0 a1 a2) (glazierlaw05_PercentTells.f (k + 1) a0 a1 a2) := by
 intro a0 a1 a2 k
 obtain ⟨ih0, ih1, ih2⟩ := glazierlaw05_PercentTells.mono_l k
 unfold glazierlaw05_PercentTells.f
 repeat' first
   | (with_reducible exact ih0 _ _ _ _ _ _ _)
   | (with_reducible exact ih1 _ _ _ _ _ _ _)
   | (with_reducible exact ih2 _ _ _ _ _ _ _ _)
   | (with_reducible exact glazierlaw05_alive.mono _)
   | (with_reducible exact glazierlaw05_hex.mono _ _)
   | (with_reducible exact glazierlaw05_plain.mono _ _)
   | (with_reducible exact glazierref01_All.mono _ _ _)
   | (with_reducible exact glazierref01_Is.mono _ _ _ _)
   | (with_reducible exact glazierref01_Of.mono _ _ _)
   | (with_reducible exact glazierref01_Worst.mono _ _)
   | (with_reducible exact percent_Decode.mono _ _ _)
   | (with_reducible exact percent_Encode.mono _ _ _)
   | (with_reducible exact percent_Plain.mono _ _)
   | (with_reducible exact LeO.refl _)
   | (with_reducible exact LeO.none _)
   | (with_reducible refine LeO.ite ?_ ?_)
   | (with_reducible refine LeO.bind ?_ (fun _ => ?_))
   | exact ih0 _ _ _ _ _ _ _
   | exact ih1 _ _ _ _ _ _ _
   | exact ih2 _ _ _ _ _ _ _ _
   | exact glazierlaw05_alive.mono _
   | exact glazierlaw05_hex.mono _ _
   | exact glazierlaw05_plain.mono _ _
   | exact glazierref01_All.mono _ _ _
   | exact glazierref01_Is.mono _ _ _ _
   | exact glazierref01_Of.mono _ _ _
   | exact glazierref01_Worst.mono _ _
   | exact percent_Decode.mono _ _ _
   | exact percent_Encode.mono _ _ _
   | exact percent_Plain.mono _ _
   | exact LeO.none _
   | refine LeO.ite ?_ ?_
   | refine LeO.bind ?_ (fun _ => ?_)
def glazierlaw05_PercentTells.T11 : Bool × List (List Nat × List Nat) := (true, [([], []), ([], []), ([], []), ([], []), ([2, 3], [2, 3]), ([4], [4]), ([5], [5]), ([6], [6]), ([], []), ([], []), ([8, 9], [8, 9]), ([10], [10]), ([11], [11]), ([12], [12]), ([13], [13]), ([1, 7, 14], [1, 7, 14]), ([15], [15]), ([], []), ([], []), ([], []), ([18, 19], [18, 19]), ([20], [20]), ([21], [21]), ([22], [22]), ([], []), ([], []), ([24, 25], [24, 25]), ([26], [26]), ([27], [27]), ([28], [28]), ([29], [29]), ([17, 23, 30], [17, 23, 30]), ([16, 31], [16, 31]), ([], []), ([], []), ([33, 34], [33, 34]), ([35], [35]), ([36], [36]), ([32, 37], [32, 37]), ([0, 38, 38], [0, 38]), ([39, 39, 0, 1, 2, 3, 4, 5, 6, 7, 8, 9, 10, 11, 12, 13, 14, 15, 16, 17, 18, 19, 20, 21, 22, 23, 24, 25, 26, 27, 28, 29, 30, 31, 32, 33, 34, 35, 36, 37, 38, 39], [0, 39])])
def glazierlaw05_PercentTells.B11 : List Nat := [0, 0, 0, 0, 12, 28, 60, 124, 0, 0, 768, 1792, 3840, 7936, 16128, 32766, 65534, 0, 0, 0, 786432, 1835008, 3932160, 8126464, 0, 0, 50331648, 117440512, 251658240, 520093696, 1056964608, 2147352576, 4294967294, 0, 0, 25769803776, 60129542144, 128849018880, 274877906942, 549755813887, 1099511627775]
theorem glazierlaw05_PercentTells.tab11 : rtab .any (opsOf Try.f5 11) = glazierlaw05_PercentTells.T11 := by kernel_rfl
theorem glazierlaw05_PercentTells.bits11 : waitsOk glazierlaw05_PercentTells.T11.2 glazierlaw05_PercentTells.B11 = true := by kernel_rfl
def glazierlaw05_PercentTells.T16 : Bool × List (List Nat × List Nat) := (true, [([], []), ([], []), ([], []), ([2], [2]), ([1, 3], [1, 3]), ([4], [4]), ([5], [5]), ([6], [6]), ([7], [7]), ([], []), ([], []), ([10], [10]), ([9, 11], [9, 11]), ([12], [12]), ([13], [13]), ([14, 7], [14]), ([8, 15], [8, 15]), ([16], [16]), ([], []), ([], []), ([], []), ([20], [20]), ([18, 19, 21], [18, 19, 21]), ([22, 15], [22]), ([17, 23], [17, 23]), ([24], [24]), ([0, 25, 23], [0, 25]), ([26, 26, 0, 1, 2, 3, 4, 5, 6, 7, 8, 9, 10, 11, 12, 13, 14, 15, 16, 17, 18, 19, 20, 21, 22, 23, 24, 25, 26], [0, 26])])
def glazierlaw05_PercentTells.B16 : List Nat := [0, 0, 0, 4, 14, 30, 62, 126, 254, 0, 0, 1024, 3584, 7680, 15872, 32510, 65534, 131070, 0, 0, 0, 1048576, 3932160, 8191742, 16777214, 33554430, 67108863, 134217727]
theorem glazierlaw05_PercentTells.tab16 : rtab .any (opsOf Try.f5 16) = glazierlaw05_PercentTells.T16 := by kernel_rfl
theorem glazierlaw05_PercentTells.bits16 : waitsOk glazierlaw05_PercentTells.T16.2 glazierlaw05_PercentTells.B16 = true := by kernel_rfl
set_option maxHeartbeats 8000000 in
set_option maxRecDepth 100000 in
theorem glazierlaw05_PercentTells.calls (k : Nat) (a0_0 : ByteArray) (A0_1 : Option Addr) (c0_1 : Nat) (l0_1 : List (S85)) (a1 : Int) (r : Bool) (w : World) (hr0_1 : Kd.C k85 w A0_1 l0_1.length l0_1) (hc0_1 : l0_1.length ≤ c0_1) (h : glazierlaw05_PercentTells.f k a0_0 l0_1 a1 = some r) :
  Calls Try.prog 5 #[.agg #[.string a0_0, .slice A0_1 l0_1.length c0_1], .int .u8 a1] w fun e w' => e = .returned (.bool r) ∧ Below w.heap.size w w' := by
 have hu24 := Try.underlying24
 have hu8w : ∀ n : Int, IntKind.u8.wrap n = n % 256 := fun n => IntKind.wrap_u8 n
 have hu29 := Try.underlying29
 have HR0_1 := Aside0.mk hr0_1
 have HC0_1 := Aside0.mk hc0_1
 clear hr0_1 hc0_1
 have HB := Aside0.mk (Below.refl w.heap.size w)
 have H : ((glazierlaw05_alive.f k).bind fun t506 => (if t506 = true then ((glazierref01_Of.f k a0_0 l0_1).bind fun t507 => (glazierlaw05_PercentTells.l0 k a1 t507 (⟨#[48, 49, 50, 51, 52, 53, 54, 55, 56, 57, 65, 66, 67, 68, 69, 70]⟩ : ByteArray) ([] : List (S29)) 0 a0_0 l0_1)) else (none))) = some r := h
 clear h
 replace H := Option.bind_eq_some_iff.mp H
 obtain ⟨t506, A30, H⟩ := H
 replace H : (if t506 = true then ((glazierref01_Of.f k a0_0 l0_1).bind fun t507 => (glazierlaw05_PercentTells.l0 k a1 t507 (⟨#[48, 49, 50, 51, 52, 53, 54, 55, 56, 57, 65, 66, 67, 68, 69, 70]⟩ : ByteArray) ([] : List (S29)) 0 a0_0 l0_1)) else (none)) = some r := H
 have A3 := Aside0.mk A30
 clear A30
 by_cases c4 : t506 = true
 ·
  subst c4
  have H1 : ((glazierref01_Of.f k a0_0 l0_1).bind fun t507 => (glazierlaw05_PercentTells.l0 k a1 t507 (⟨#[48, 49, 50, 51, 52, 53, 54, 55, 56, 57, 65, 66, 67, 68, 69, 70]⟩ : ByteArray) ([] : List (S29)) 0 a0_0 l0_1)) = some r := by rw [if_pos rfl] at H; exact H
  clear H
  have H := H1
  clear H1
  replace H := Option.bind_eq_some_iff.mp H
  obtain ⟨t507, A50, H⟩ := H
  replace H : (glazierlaw05_PercentTells.l0 k a1 t507 (⟨#[48, 49, 50, 51, 52, 53, 54, 55, 56, 57, 65, 66, 67, 68, 69, 70]⟩ : ByteArray) ([] : List (S29)) 0 a0_0 l0_1) = some r := H
  have A5 := Aside0.mk A50
  clear A50
  have H' := Aside0.mk H
  clear H
  go_enter Try.func5, Try.ntmps5
  go_wp2_with (first | ((with_reducible refine gate_dst (N := 2) rfl ?_); refine box_event ?hg (N := 2) ?hd (cs := #[.string a0_0, .slice A0_1 l0_1.length c0_1]) (t := 24) ?hr ?_; (case hd => rfl); (case hg => rfl); (case hr => first | (go_simp; done) | (go_simp; rfl)); intro gb505 hg w6 hbox hb; have n0_ := Aside0.mk (below_step (by repeat (first | (with_reducible first | exact HB.out | apply below_alloc | apply pw_below_drewN | apply below_drew1) | exact HB.out)) hb); have n1_ := Aside0.mk (hbox); have n2_ := Aside0.mk ((by rw [hg]; exact (below_size (by repeat (first | (with_reducible first | exact HB.out | apply below_alloc | apply pw_below_drewN | apply below_drew1) | exact HB.out))) : w.heap.size ≤ gb505)); have n3_ := Aside0.mk ((by rw [hg]; exact (below_size (by repeat (first | (with_reducible first | exact HB.out | apply below_alloc | apply pw_below_drewN | apply below_drew1) | exact HB.out))) : w.heap.size ≤ gb505)); clear HB; have HB := n0_; have BK505 := n1_; have GW505 := n2_; have GE505 := n3_; clear n0_ n1_ n2_ n3_; clear hb hbox hg) | ((with_reducible refine gate_callee (f := 33) rfl ?_); refine goesL_ (some 11) rfl rfl Try.func33 (by kernel_rfl) rfl #[] rfl (by (try simp only [List.map_toArray, List.map_cons, List.map_nil]); first | done | rfl | (simp only [List.length_drop, List.length_take]; rfl)) ?_; (with_reducible refine (glazierlaw05_alive.calls k  true _ A3.out).mono ?_); rintro e w7 ⟨rfl, hb⟩; refine ⟨_, rfl, ?_⟩; have n0_ := Aside0.mk (blk_below (g := gb505) (o := .cells #[.string a0_0, .slice A0_1 l0_1.length c0_1] 24 (0, 0)) (by (with_reducible repeat (first | refine blk_drewN ?_ _ | refine blk_drew ?_ | refine blk_alloc ?_ _)); exact BK505.out) hb); have n1_ := Aside0.mk (below_step (by repeat (first | (with_reducible first | exact HB.out | apply below_alloc | apply pw_below_drewN | apply below_drew1 | refine below_set ?_ GE505.out) | exact HB.out)) hb); clear BK505; clear HB; have BK505 := n0_; have HB := n1_; clear n0_ n1_; (try clear hb); (try clear hb2); (try clear hk); (try clear hi); have hcz8_0 : w7.cell? ⟨gb505, 0, none⟩ = some (.string a0_0) := (blk_cell BK505.out 0).trans rfl; have hcz8_1 : w7.cell? ⟨gb505, 1, none⟩ = some (.slice A0_1 l0_1.length c0_1) := (blk_cell BK505.out 1).trans rfl; have hfz8_0 := blk_frozen BK505.out 0; have hfz8_1 := blk_frozen BK505.out 1) | ((with_reducible refine gate_callee (f := 23) rfl ?_); refine goesL_ (some 14) rfl rfl Try.func23 (by kernel_rfl) rfl #[.agg #[.string a0_0, .slice A0_1 l0_1.length c0_1]] rfl (by (try simp only [List.map_toArray, List.map_cons, List.map_nil]); first | done | rfl | (simp only [List.length_drop, List.length_take]; rfl)) ?_; (with_reducible refine (glazierref01_Of.calls k a0_0 _ _ l0_1 t507 _ ?side1 ?side2 A5.out).mono ?_); (case side1 => repeat (first | exact (Kd.C_below HR0_1.out HB.out) | (with_reducible refine Kd.C_alloc ?_ _) | (with_reducible refine Kd.C_drewN ?_ _) | (with_reducible refine Kd.C_drew ?_))); (case side2 => exact HC0_1.out); rintro e w9 ⟨v508, rfl, ho0, hb⟩; refine ⟨_, rfl, ?_⟩; have n0_ := Aside0.mk (Kd.R_lower ho0 (below_size (by repeat (first | (with_reducible first | exact HB.out | apply below_alloc | apply pw_below_drewN | apply below_drew1 | refine below_set ?_ GE505.out) | exact HB.out)))); have n1_ := Aside0.mk (blk_below (g := gb505) (o := .cells #[.string a0_0, .slice A0_1 l0_1.length c0_1] 24 (0, 0)) (by (with_reducible repeat (first | refine blk_drewN ?_ _ | refine blk_drew ?_ | refine blk_alloc ?_ _)); exact BK505.out) hb); have n2_ := Aside0.mk (below_step (by repeat (first | (with_reducible first | exact HB.out | apply below_alloc | apply pw_below_drewN | apply below_drew1 | refine below_set ?_ GE505.out) | exact HB.out)) hb); clear BK505; clear HB; have HO509 := n0_; have BK505 := n1_; have HB := n2_; clear n0_ n1_ n2_; (try clear hb); (try clear hb2); (try clear hk); (try clear hi); (try clear ho0)))
  go_loopg [7, 9] k (fun kq v7 v9 w' => ∃ (x7_1 : List (S29)) (x9_1 : Int), v9 = .int .i64 x9_1 ∧ Aside0 (glazierlaw05_PercentTells.l0 kq a1 t507 (⟨#[48, 49, 50, 51, 52, 53, 54, 55, 56, 57, 65, 66, 67, 68, 69, 70]⟩ : ByteArray) x7_1 x9_1 a0_0 l0_1 = some r) ∧ Aside0 (kq ≤ k) ∧ Aside0 (Kd.R k29 29 w' w.heap.size (fun k_ => some k_ ≠ (v7 : Value).ownBlock) v508 t507) ∧ Aside0 (Kd.R k29 29 w' w.heap.size (fun k_ => some k_ ≠ (v508 : Value).ownBlock) v7 x7_1) ∧ Aside0 (w'.heap[gb505]? = some (.cells #[.string a0_0, (.slice A0_1 l0_1.length c0_1)] 24 (0, 0))) ∧ Aside0 (Below w.heap.size w w'))
  case atStart => exact ⟨(([] : List (S29))), (0), (by first | rfl | (simp; done) | (simp [*]; done)), H', ⟨Nat.le_refl _⟩, ⟨by (with_reducible repeat (first | apply Kd.R_alloc | apply Kd.R_drewN | apply Kd.R_drew)); exact Kd.R_mono HO509.out (fun _ hk => (by simp [Value.ownBlock]))⟩, ⟨by first | exact Kd.R_nil _ _ _ _ _ | exact Kd.N_nil _ _ _ _ _ | exact Kd.V_nil _ _ _ _ _ | exact Kd.Q_nil _ _ _ _ _ | exact Kd.S_nil _ _ _ _ _⟩, ⟨by (with_reducible repeat (first | refine blk_drewN ?_ _ | refine blk_drew ?_ | refine blk_alloc ?_ _)); exact BK505.out⟩, ⟨by repeat (first | (with_reducible first | exact HB.out | apply below_alloc | apply pw_below_drewN | apply below_drew1 | refine below_set ?_ GE505.out) | exact HB.out)⟩⟩
  case round =>
   clear H'
   try clear c2
   try clear p2
   try clear c3
   try clear c4
   try clear c5
   try clear hcz8_0
   try clear hcz8_1
   try clear hfz8_0
   try clear hfz8_1
   obtain ⟨x7_1, x9_1, rfl, HA, HK1, HO_5, HO_7, BK505, HB⟩ := hrel
   cases gk with
   | zero => exact absurd HA.out (by simp [glazierlaw05_PercentTells.l0])
   | succ k1 =>
    have H := HA.out
    clear HA
    simp only [glazierlaw05_PercentTells.l0] at H
    by_cases c10 : x9_1 < (t507.length : Int)
    ·
     rw [if_pos c10] at H
     have c10b0 : decide (x9_1 < (t507.length : Int)) = true := decide_eq_true c10
     clear c10
     by_cases c11 : 0 ≤ x9_1
     ·
      rw [if_pos c11] at H
      have c11b0 : decide (0 ≤ x9_1) = true := decide_eq_true c11
      clear c11
      replace H := Option.bind_eq_some_iff.mp H
      obtain ⟨t511, A120, H⟩ := H
      replace H : (if t511 = true then (if x7_1.length < 8796093022208 then (glazierlaw05_PercentTells.l0 k1 a1 t507 (⟨#[48, 49, 50, 51, 52, 53, 54, 55, 56, 57, 65, 66, 67, 68, 69, 70]⟩ : ByteArray) (x7_1 ++ [(⟨(rd_T29 t507 x9_1).f0, (rd_T29 t507 x9_1).f1⟩ : S29)]) (wrap64 (x9_1 + 1)) a0_0 l0_1) else (none)) else (if 0 ≤ ((Int.tdiv ((rd_T29 t507 x9_1).f0) 16) % 256) then (if ((Int.tdiv ((rd_T29 t507 x9_1).f0) 16) % 256) ≤ ((((Int.tdiv ((rd_T29 t507 x9_1).f0) 16) % 256) + 1) % 256) then (if ((((Int.tdiv ((rd_T29 t507 x9_1).f0) 16) % 256) + 1) % 256) ≤ ((⟨#[48, 49, 50, 51, 52, 53, 54, 55, 56, 57, 65, 66, 67, 68, 69, 70]⟩ : ByteArray).size : Int) then (if 1 + ((⟨#[48, 49, 50, 51, 52, 53, 54, 55, 56, 57, 65, 66, 67, 68, 69, 70]⟩ : ByteArray).extract (((Int.tdiv ((rd_T29 t507 x9_1).f0) 16) % 256) : Int).toNat (((((Int.tdiv ((rd_T29 t507 x9_1).f0) 16) % 256) + 1) % 256) : Int).toNat).size ≤ 9223372036854775807 then (if 0 ≤ (Int.tmod ((rd_T29 t507 x9_1).f0) 16) then (if (Int.tmod ((rd_T29 t507 x9_1).f0) 16) ≤ (((Int.tmod ((rd_T29 t507 x9_1).f0) 16) + 1) % 256) then (if (((Int.tmod ((rd_T29 t507 x9_1).f0) 16) + 1) % 256) ≤ ((⟨#[48, 49, 50, 51, 52, 53, 54, 55, 56, 57, 65, 66, 67, 68, 69, 70]⟩ : ByteArray).size : Int) then (if ((⟨#[37]⟩ : ByteArray) ++ ((⟨#[48, 49, 50, 51, 52, 53, 54, 55, 56, 57, 65, 66, 67, 68, 69, 70]⟩ : ByteArray).extract (((Int.tdiv ((rd_T29 t507 x9_1).f0) 16) % 256) : Int).toNat (((((Int.tdiv ((rd_T29 t507 x9_1).f0) 16) % 256) + 1) % 256) : Int).toNat)).size + ((⟨#[48, 49, 50, 51, 52, 53, 54, 55, 56, 57, 65, 66, 67, 68, 69, 70]⟩ : ByteArray).extract ((Int.tmod ((rd_T29 t507 x9_1).f0) 16) : Int).toNat ((((Int.tmod ((rd_T29 t507 x9_1).f0) 16) + 1) % 256) : Int).toNat).size ≤ 9223372036854775807 then ((glazierref01_All.f k1 (((⟨#[37]⟩ : ByteArray) ++ ((⟨#[48, 49, 50, 51, 52, 53, 54, 55, 56, 57, 65, 66, 67, 68, 69, 70]⟩ : ByteArray).extract (((Int.tdiv ((rd_T29 t507 x9_1).f0) 16) % 256) : Int).toNat (((((Int.tdiv ((rd_T29 t507 x9_1).f0) 16) % 256) + 1) % 256) : Int).toNat)) ++ ((⟨#[48, 49, 50, 51, 52, 53, 54, 55, 56, 57, 65, 66, 67, 68, 69, 70]⟩ : ByteArray).extract ((Int.tmod ((rd_T29 t507 x9_1).f0) 16) : Int).toNat ((((Int.tmod ((rd_T29 t507 x9_1).f0) 16) + 1) % 256) : Int).toNat)) ((rd_T29 t507 x9_1).f1)).bind fun t521 => (if x7_1.length + t521.length < 8796093022208 then (glazierlaw05_PercentTells.l0 k1 a1 t507 (⟨#[48, 49, 50, 51, 52, 53, 54, 55, 56, 57, 65, 66, 67, 68, 69, 70]⟩ : ByteArray) (x7_1 ++ t521) (wrap64 (x9_1 + 1)) a0_0 l0_1) else (none))) else (none)) else (none)) else (none)) else (none)) else (none)) else (none)) else (none)) else (none))) = some r := H
      have A12 := Aside0.mk A120
      clear A120
      by_cases c13 : t511 = true
      ·
       subst c13
       have H1 : (if x7_1.length < 8796093022208 then (glazierlaw05_PercentTells.l0 k1 a1 t507 (⟨#[48, 49, 50, 51, 52, 53, 54, 55, 56, 57, 65, 66, 67, 68, 69, 70]⟩ : ByteArray) (x7_1 ++ [(⟨(rd_T29 t507 x9_1).f0, (rd_T29 t507 x9_1).f1⟩ : S29)]) (wrap64 (x9_1 + 1)) a0_0 l0_1) else (none)) = some r := by rw [if_pos rfl] at H; exact H
       clear H
       have H := H1
       clear H1
       by_cases c14 : x7_1.length < 8796093022208
       ·
        rw [if_pos c14] at H
        have LMc14 := Aside0.mk c14
        clear c14
        obtain ⟨y513, hy513⟩ : ∃ y_ : List (S29), y_ = (x7_1 ++ [(⟨(rd_T29 t507 x9_1).f0, (rd_T29 t507 x9_1).f1⟩ : S29)]) := ⟨_, rfl⟩
        replace H : (glazierlaw05_PercentTells.l0 k1 a1 t507 (⟨#[48, 49, 50, 51, 52, 53, 54, 55, 56, 57, 65, 66, 67, 68, 69, 70]⟩ : ByteArray) y513 (wrap64 (x9_1 + 1)) a0_0 l0_1) = some r := by first | (rw [hy513]; with_reducible exact H) | (have H2_ := (Option.bind_some _ _).symm.trans H; rw [hy513]; with_reducible exact H2_) | (have H2_ := (Option.bind_some _ _).symm.trans H; with_reducible exact H2_) | with_reducible exact H | (rw [hy513]; exact H) | exact H
        have Ny513 := Aside0.mk hy513
        clear hy513
        have H' := Aside0.mk H
        clear H
        obtain ⟨Ao15, co15, eo15⟩ := Kd.R_slice HO_5.out
        subst eo15
        have p510 : 0 ≤ (x9_1 : Int) := of_decide_eq_true (by first | (with_reducible assumption) | assumption)
        have q510 : x9_1 < (t507.length : Int) := of_decide_eq_true (by first | (with_reducible assumption) | assumption)
        obtain ⟨ad510, e510, hx510_0, hx510_1⟩ := at_T29 (Kd.R_reads' HO_5.out).2.2 x9_1 p510 q510
        cases e510
        replace p510 := eq_true p510
        replace q510 := eq_true q510
        go_wp2_with (first | ((with_reducible refine gate_callee (f := 34) rfl ?_); refine goesL_ (some 26) rfl rfl Try.func34 (by kernel_rfl) rfl #[.int .u8 ((rd_T29 t507 x9_1).f0)] rfl (by (try simp only [List.map_toArray, List.map_cons, List.map_nil]); first | done | rfl | (simp only [List.length_drop, List.length_take]; rfl)) ?_; (with_reducible refine (glazierlaw05_plain.calls k1 ((rd_T29 t507 x9_1).f0) true _ A12.out).mono ?_); rintro e w' ⟨rfl, ⟨nd, rfl⟩⟩; refine ⟨_, rfl, ?_⟩; have p512 : 0 ≤ (x9_1 : Int) := of_decide_eq_true (by first | (with_reducible assumption) | assumption); have q512 : x9_1 < (t507.length : Int) := of_decide_eq_true (by first | (with_reducible assumption) | assumption); obtain ⟨ad512, e512, hx512_0, hx512_1⟩ := at_T29 (Kd.R_reads' HO_5.out).2.2 x9_1 p512 q512; obtain rfl : ad510 = ad512 := (by injection e512); replace p512 := eq_true p512; replace q512 := eq_true q512) | ((with_reducible refine gate_builtin (b := .append) (xs := #[.tmp 27, .tmp 32]) rfl ?_); at_builtin; refine Kd.R_append k29 (w0 := w) w.heap.size rfl (.tmp 27) (.tmp 32) 26 29 (.agg #[(.int .u8 0), (.int .i64 0)]) 16 rfl Try.underlying26 info29 rfl (by decide) (by omega) u7 x7_1 (⟨(rd_T29 t507 x9_1).f0, (rd_T29 t507 x9_1).f1⟩ : S29) [.int .u8 ((rd_T29 t507 x9_1).f0), .int .i64 ((rd_T29 t507 x9_1).f1)] (fun k_ => some k_ ≠ (.slice (some ad510) t507.length co15 : Value).ownBlock) (fun _ => False) rfl rfl ?aP (fun _ hk => hk.elim) ?aF ?aO ?aB ?aS ?aL ?_; (case aP => exact k29_mkM _ _ _ (⟨(rd_T29 t507 x9_1).f0, (rd_T29 t507 x9_1).f1⟩ : S29)); (case aB => exact (by repeat (first | (with_reducible first | exact HB.out | apply below_alloc | apply pw_below_drewN | apply below_drew1 | refine below_set ?_ GE505.out) | exact HB.out))); (case aF => exact (fun k_ hk => Kd.fresh' (Kd.R_lt (by (with_reducible repeat (first | apply Kd.R_alloc | apply Kd.R_drewN | apply Kd.R_drew)); exact HO_5.out)) k_ hk)); (case aO => exact (by (with_reducible repeat (first | apply Kd.R_alloc | apply Kd.R_drewN | apply Kd.R_drew)); exact HO_7.out)); (case aS => exact (below_size (by repeat (first | (with_reducible first | exact HB.out | apply below_alloc | apply pw_below_drewN | apply below_drew1 | refine below_set ?_ GE505.out) | exact HB.out)))); (case aL => have := LMc14.out; omega); intro v514 w16 ho hb hg hat; rw [← Ny513.out] at ho; have n0_ := Aside0.mk (Kd.R_after (ok := (fun _ => True)) (by (with_reducible repeat (first | apply Kd.R_alloc | apply Kd.R_drewN | apply Kd.R_drew)); exact Kd.R_mono HO_5.out (fun _ hk => ⟨trivial, hk⟩)) hg hat); have n1_ := Aside0.mk (blk_grown (g := gb505) (o := .cells #[.string a0_0, .slice A0_1 l0_1.length c0_1] 24 (0, 0)) (by (with_reducible repeat (first | refine blk_drewN ?_ _ | refine blk_drew ?_ | refine blk_alloc ?_ _)); exact BK505.out) hg (Kd.R_ne HO_7.out BK505.out (by decide))); have n2_ := Aside0.mk (hb); have n3_ := Aside0.mk (ho); clear HO_5; clear BK505; clear HB; clear HO_7; have HO_5 := n0_; have BK505 := n1_; have HB := n2_; have HO515 := n3_; clear n0_ n1_ n2_ n3_; clear ho hb hg hat))
        go_roundg k1
        case measure => have := HK1.out; omega
        case rel => exact ⟨(y513), (wrap64 (x9_1 + 1)), (by first | rfl | (simp; done) | (simp [*]; done)), H', ⟨by have := HK1.out; omega⟩, ⟨by (with_reducible repeat (first | apply Kd.R_alloc | apply Kd.R_drewN | apply Kd.R_drew)); exact Kd.R_mono HO_5.out (fun _ hk => hk.2)⟩, ⟨by (with_reducible repeat (first | apply Kd.R_alloc | apply Kd.R_drewN | apply Kd.R_drew)); exact HO515.out⟩, ⟨by (with_reducible repeat (first | refine blk_drewN ?_ _ | refine blk_drew ?_ | refine blk_alloc ?_ _)); exact BK505.out⟩, ⟨by repeat (first | (with_reducible first | exact HB.out | apply below_alloc | apply pw_below_drewN | apply below_drew1 | refine below_set ?_ GE505.out) | exact HB.out)⟩⟩
       ·
        rw [if_neg c14] at H
        exact absurd H (by simp)
      ·
       replace c13 := Bool.eq_false_iff.mpr c13
       subst c13
       have H1 : (if 0 ≤ ((Int.tdiv ((rd_T29 t507 x9_1).f0) 16) % 256) then (if ((Int.tdiv ((rd_T29 t507 x9_1).f0) 16) % 256) ≤ ((((Int.tdiv ((rd_T29 t507 x9_1).f0) 16) % 256) + 1) % 256) then (if ((((Int.tdiv ((rd_T29 t507 x9_1).f0) 16) % 256) + 1) % 256) ≤ ((⟨#[48, 49, 50, 51, 52, 53, 54, 55, 56, 57, 65, 66, 67, 68, 69, 70]⟩ : ByteArray).size : Int) then (if 1 + ((⟨#[48, 49, 50, 51, 52, 53, 54, 55, 56, 57, 65, 66, 67, 68, 69, 70]⟩ : ByteArray).extract (((Int.tdiv ((rd_T29 t507 x9_1).f0) 16) % 256) : Int).toNat (((((Int.tdiv ((rd_T29 t507 x9_1).f0) 16) % 256) + 1) % 256) : Int).toNat).size ≤ 9223372036854775807 then (if 0 ≤ (Int.tmod ((rd_T29 t507 x9_1).f0) 16) then (if (Int.tmod ((rd_T29 t507 x9_1).f0) 16) ≤ (((Int.tmod ((rd_T29 t507 x9_1).f0) 16) + 1) % 256) then (if (((Int.tmod ((rd_T29 t507 x9_1).f0) 16) + 1) % 256) ≤ ((⟨#[48, 49, 50, 51, 52, 53, 54, 55, 56, 57, 65, 66, 67, 68, 69, 70]⟩ : ByteArray).size : Int) then (if ((⟨#[37]⟩ : ByteArray) ++ ((⟨#[48, 49, 50, 51, 52, 53, 54, 55, 56, 57, 65, 66, 67, 68, 69, 70]⟩ : ByteArray).extract (((Int.tdiv ((rd_T29 t507 x9_1).f0) 16) % 256) : Int).toNat (((((Int.tdiv ((rd_T29 t507 x9_1).f0) 16) % 256) + 1) % 256) : Int).toNat)).size + ((⟨#[48, 49, 50, 51, 52, 53, 54, 55, 56, 57, 65, 66, 67, 68, 69, 70]⟩ : ByteArray).extract ((Int.tmod ((rd_T29 t507 x9_1).f0) 16) : Int).toNat ((((Int.tmod ((rd_T29 t507 x9_1).f0) 16) + 1) % 256) : Int).toNat).size ≤ 9223372036854775807 then ((glazierref01_All.f k1 (((⟨#[37]⟩ : ByteArray) ++ ((⟨#[48, 49, 50, 51, 52, 53, 54, 55, 56, 57, 65, 66, 67, 68, 69, 70]⟩ : ByteArray).extract (((Int.tdiv ((rd_T29 t507 x9_1).f0) 16) % 256) : Int).toNat (((((Int.tdiv ((rd_T29 t507 x9_1).f0) 16) % 256) + 1) % 256) : Int).toNat)) ++ ((⟨#[48, 49, 50, 51, 52, 53, 54, 55, 56, 57, 65, 66, 67, 68, 69, 70]⟩ : ByteArray).extract ((Int.tmod ((rd_T29 t507 x9_1).f0) 16) : Int).toNat ((((Int.tmod ((rd_T29 t507 x9_1).f0) 16) + 1) % 256) : Int).toNat)) ((rd_T29 t507 x9_1).f1)).bind fun t521 => (if x7_1.length + t521.length < 8796093022208 then (glazierlaw05_PercentTells.l0 k1 a1 t507 (⟨#[48, 49, 50, 51, 52, 53, 54, 55, 56, 57, 65, 66, 67, 68, 69, 70]⟩ : ByteArray) (x7_1 ++ t521) (wrap64 (x9_1 + 1)) a0_0 l0_1) else (none))) else (none)) else (none)) else (none)) else (none)) else (none)) else (none)) else (none)) else (none)) = some r := by rw [if_neg (show ¬ (false = true) by decide)] at H; exact H
       clear H
       have H := H1
       clear H1
       obtain ⟨ji17, hji17⟩ : ∃ j_ : Int, ((Int.tdiv ((rd_T29 t507 x9_1).f0) 16) % 256) = j_ := ⟨_, rfl⟩
       replace H : (if 0 ≤ (ji17) then (if (ji17) ≤ (((ji17) + 1) % 256) then (if (((ji17) + 1) % 256) ≤ ((⟨#[48, 49, 50, 51, 52, 53, 54, 55, 56, 57, 65, 66, 67, 68, 69, 70]⟩ : ByteArray).size : Int) then (if 1 + ((⟨#[48, 49, 50, 51, 52, 53, 54, 55, 56, 57, 65, 66, 67, 68, 69, 70]⟩ : ByteArray).extract ((ji17) : Int).toNat ((((ji17) + 1) % 256) : Int).toNat).size ≤ 9223372036854775807 then (if 0 ≤ (Int.tmod ((rd_T29 t507 x9_1).f0) 16) then (if (Int.tmod ((rd_T29 t507 x9_1).f0) 16) ≤ (((Int.tmod ((rd_T29 t507 x9_1).f0) 16) + 1) % 256) then (if (((Int.tmod ((rd_T29 t507 x9_1).f0) 16) + 1) % 256) ≤ ((⟨#[48, 49, 50, 51, 52, 53, 54, 55, 56, 57, 65, 66, 67, 68, 69, 70]⟩ : ByteArray).size : Int) then (if ((⟨#[37]⟩ : ByteArray) ++ ((⟨#[48, 49, 50, 51, 52, 53, 54, 55, 56, 57, 65, 66, 67, 68, 69, 70]⟩ : ByteArray).extract ((ji17) : Int).toNat ((((ji17) + 1) % 256) : Int).toNat)).size + ((⟨#[48, 49, 50, 51, 52, 53, 54, 55, 56, 57, 65, 66, 67, 68, 69, 70]⟩ : ByteArray).extract ((Int.tmod ((rd_T29 t507 x9_1).f0) 16) : Int).toNat ((((Int.tmod ((rd_T29 t507 x9_1).f0) 16) + 1) % 256) : Int).toNat).size ≤ 9223372036854775807 then ((glazierref01_All.f k1 (((⟨#[37]⟩ : ByteArray) ++ ((⟨#[48, 49, 50, 51, 52, 53, 54, 55, 56, 57, 65, 66, 67, 68, 69, 70]⟩ : ByteArray).extract ((ji17) : Int).toNat ((((ji17) + 1) % 256) : Int).toNat)) ++ ((⟨#[48, 49, 50, 51, 52, 53, 54, 55, 56, 57, 65, 66, 67, 68, 69, 70]⟩ : ByteArray).extract ((Int.tmod ((rd_T29 t507 x9_1).f0) 16) : Int).toNat ((((Int.tmod ((rd_T29 t507 x9_1).f0) 16) + 1) % 256) : Int).toNat)) ((rd_T29 t507 x9_1).f1)).bind fun t521 => (if x7_1.length + t521.length < 8796093022208 then (glazierlaw05_PercentTells.l0 k1 a1 t507 (⟨#[48, 49, 50, 51, 52, 53, 54, 55, 56, 57, 65, 66, 67, 68, 69, 70]⟩ : ByteArray) (x7_1 ++ t521) (wrap64 (x9_1 + 1)) a0_0 l0_1) else (none))) else (none)) else (none)) else (none)) else (none)) else (none)) else (none)) else (none)) else (none)) = some r := by first | (rw [hji17] at H; exact H) | (simp only [hji17] at H ⊢; exact H)
       (try rw [hji17] at A12)
       by_cases c18 : 0 ≤ (ji17)
       ·
        rw [if_pos c18] at H
        have c18b0 := eq_true c18
        have c18b1 : decide (0 ≤ (ji17)) = true := decide_eq_true c18
        clear c18
        by_cases c19 : (ji17) ≤ (((ji17) + 1) % 256)
        ·
         rw [if_pos c19] at H
         have c19b0 := eq_true c19
         have c19b1 : decide ((ji17) ≤ (((ji17) + 1) % 256)) = true := decide_eq_true c19
         by_cases c20 : (((ji17) + 1) % 256) ≤ ((⟨#[48, 49, 50, 51, 52, 53, 54, 55, 56, 57, 65, 66, 67, 68, 69, 70]⟩ : ByteArray).size : Int)
         ·
          rw [if_pos c20] at H
          have c20b0 := eq_true c20
          have c20b1 : decide ((((ji17) + 1) % 256) ≤ ((⟨#[48, 49, 50, 51, 52, 53, 54, 55, 56, 57, 65, 66, 67, 68, 69, 70]⟩ : ByteArray).size : Int)) = true := decide_eq_true c20
          by_cases c21 : 1 + ((⟨#[48, 49, 50, 51, 52, 53, 54, 55, 56, 57, 65, 66, 67, 68, 69, 70]⟩ : ByteArray).extract ((ji17) : Int).toNat ((((ji17) + 1) % 256) : Int).toNat).size ≤ 9223372036854775807
          ·
           rw [if_pos c21] at H
           have c21b0 := eq_true c21
           have c21b1 : decide (1 + ((⟨#[48, 49, 50, 51, 52, 53, 54, 55, 56, 57, 65, 66, 67, 68, 69, 70]⟩ : ByteArray).extract ((ji17) : Int).toNat ((((ji17) + 1) % 256) : Int).toNat).size ≤ 9223372036854775807) = true := decide_eq_true c21
           try have c21b2 : (9223372036854775807 < 1 + ((⟨#[48, 49, 50, 51, 52, 53, 54, 55, 56, 57, 65, 66, 67, 68, 69, 70]⟩ : ByteArray).extract ((ji17) : Int).toNat ((((ji17) + 1) % 256) : Int).toNat).size) = False := eq_false (Nat.not_lt.2 c21)
           obtain ⟨ji22, hji22⟩ : ∃ j_ : Int, (Int.tmod ((rd_T29 t507 x9_1).f0) 16) = j_ := ⟨_, rfl⟩
           replace H : (if 0 ≤ (ji22) then (if (ji22) ≤ (((ji22) + 1) % 256) then (if (((ji22) + 1) % 256) ≤ ((⟨#[48, 49, 50, 51, 52, 53, 54, 55, 56, 57, 65, 66, 67, 68, 69, 70]⟩ : ByteArray).size : Int) then (if ((⟨#[37]⟩ : ByteArray) ++ ((⟨#[48, 49, 50, 51, 52, 53, 54, 55, 56, 57, 65, 66, 67, 68, 69, 70]⟩ : ByteArray).extract ((ji17) : Int).toNat ((((ji17) + 1) % 256) : Int).toNat)).size + ((⟨#[48, 49, 50, 51, 52, 53, 54, 55, 56, 57, 65, 66, 67, 68, 69, 70]⟩ : ByteArray).extract ((ji22) : Int).toNat ((((ji22) + 1) % 256) : Int).toNat).size ≤ 9223372036854775807 then ((glazierref01_All.f k1 (((⟨#[37]⟩ : ByteArray) ++ ((⟨#[48, 49, 50, 51, 52, 53, 54, 55, 56, 57, 65, 66, 67, 68, 69, 70]⟩ : ByteArray).extract ((ji17) : Int).toNat ((((ji17) + 1) % 256) : Int).toNat)) ++ ((⟨#[48, 49, 50, 51, 52, 53, 54, 55, 56, 57, 65, 66, 67, 68, 69, 70]⟩ : ByteArray).extract ((ji22) : Int).toNat ((((ji22) + 1) % 256) : Int).toNat)) ((rd_T29 t507 x9_1).f1)).bind fun t521 => (if x7_1.length + t521.length < 8796093022208 then (glazierlaw05_PercentTells.l0 k1 a1 t507 (⟨#[48, 49, 50, 51, 52, 53, 54, 55, 56, 57, 65, 66, 67, 68, 69, 70]⟩ : ByteArray) (x7_1 ++ t521) (wrap64 (x9_1 + 1)) a0_0 l0_1) else (none))) else (none)) else (none)) else (none)) else (none)) = some r := by first | (rw [hji22] at H; exact H) | (simp only [hji22] at H ⊢; exact H)
           (try rw [hji22] at A12)
           by_cases c23 : 0 ≤ (ji22)
           ·
            rw [if_pos c23] at H
            have c23b0 := eq_true c23
            have c23b1 : decide (0 ≤ (ji22)) = true := decide_eq_true c23
            clear c23
            by_cases c24 : (ji22) ≤ (((ji22) + 1) % 256)
            ·
             rw [if_pos c24] at H
             have c24b0 := eq_true c24
             have c24b1 : decide ((ji22) ≤ (((ji22) + 1) % 256)) = true := decide_eq_true c24
             by_cases c25 : (((ji22) + 1) % 256) ≤ ((⟨#[48, 49, 50, 51, 52, 53, 54, 55, 56, 57, 65, 66, 67, 68, 69, 70]⟩ : ByteArray).size : Int)
             ·
              rw [if_pos c25] at H
              have c25b0 := eq_true c25
              have c25b1 : decide ((((ji22) + 1) % 256) ≤ ((⟨#[48, 49, 50, 51, 52, 53, 54, 55, 56, 57, 65, 66, 67, 68, 69, 70]⟩ : ByteArray).size : Int)) = true := decide_eq_true c25
              by_cases c26 : ((⟨#[37]⟩ : ByteArray) ++ ((⟨#[48, 49, 50, 51, 52, 53, 54, 55, 56, 57, 65, 66, 67, 68, 69, 70]⟩ : ByteArray).extract ((ji17) : Int).toNat ((((ji17) + 1) % 256) : Int).toNat)).size + ((⟨#[48, 49, 50, 51, 52, 53, 54, 55, 56, 57, 65, 66, 67, 68, 69, 70]⟩ : ByteArray).extract ((ji22) : Int).toNat ((((ji22) + 1) % 256) : Int).toNat).size ≤ 9223372036854775807
              ·
               rw [if_pos c26] at H
               have c26b0 := eq_true c26
               have c26b1 : decide (((⟨#[37]⟩ : ByteArray) ++ ((⟨#[48, 49, 50, 51, 52, 53, 54, 55, 56, 57, 65, 66, 67, 68, 69, 70]⟩ : ByteArray).extract ((ji17) : Int).toNat ((((ji17) + 1) % 256) : Int).toNat)).size + ((⟨#[48, 49, 50, 51, 52, 53, 54, 55, 56, 57, 65, 66, 67, 68, 69, 70]⟩ : ByteArray).extract ((ji22) : Int).toNat ((((ji22) + 1) % 256) : Int).toNat).size ≤ 9223372036854775807) = true := decide_eq_true c26
               try have c26b2 : (9223372036854775807 < ((⟨#[37]⟩ : ByteArray) ++ ((⟨#[48, 49, 50, 51, 52, 53, 54, 55, 56, 57, 65, 66, 67, 68, 69, 70]⟩ : ByteArray).extract ((ji17) : Int).toNat ((((ji17) + 1) % 256) : Int).toNat)).size + ((⟨#[48, 49, 50, 51, 52, 53, 54, 55, 56, 57, 65, 66, 67, 68, 69, 70]⟩ : ByteArray).extract ((ji22) : Int).toNat ((((ji22) + 1) % 256) : Int).toNat).size) = False := eq_false (Nat.not_lt.2 c26)
               replace H := Option.bind_eq_some_iff.mp H
               obtain ⟨t521, A270, H⟩ := H
               replace H : (if x7_1.length + t521.length < 8796093022208 then (glazierlaw05_PercentTells.l0 k1 a1 t507 (⟨#[48, 49, 50, 51, 52, 53, 54, 55, 56, 57, 65, 66, 67, 68, 69, 70]⟩ : ByteArray) (x7_1 ++ t521) (wrap64 (x9_1 + 1)) a0_0 l0_1) else (none)) = some r := H
               have A27 := Aside0.mk A270
               clear A270
               by_cases c28 : x7_1.length + t521.length < 8796093022208
               ·
                rw [if_pos c28] at H
                have LMc28 := Aside0.mk c28
                clear c28
                obtain ⟨y524, hy524⟩ : ∃ y_ : List (S29), y_ = (x7_1 ++ t521) := ⟨_, rfl⟩
                replace H : (glazierlaw05_PercentTells.l0 k1 a1 t507 (⟨#[48, 49, 50, 51, 52, 53, 54, 55, 56, 57, 65, 66, 67, 68, 69, 70]⟩ : ByteArray) y524 (wrap64 (x9_1 + 1)) a0_0 l0_1) = some r := by first | (rw [hy524]; with_reducible exact H) | (have H2_ := (Option.bind_some _ _).symm.trans H; rw [hy524]; with_reducible exact H2_) | (have H2_ := (Option.bind_some _ _).symm.trans H; with_reducible exact H2_) | with_reducible exact H | (rw [hy524]; exact H) | exact H
                have Ny524 := Aside0.mk hy524
                clear hy524
                have H' := Aside0.mk H
                clear H
                obtain ⟨Ao29, co29, eo29⟩ := Kd.R_slice HO_5.out
                subst eo29
                have p510 : 0 ≤ (x9_1 : Int) := of_decide_eq_true (by first | (with_reducible assumption) | assumption)
                have q510 : x9_1 < (t507.length : Int) := of_decide_eq_true (by first | (with_reducible assumption) | assumption)
                obtain ⟨ad510, e510, hx510_0, hx510_1⟩ := at_T29 (Kd.R_reads' HO_5.out).2.2 x9_1 p510 q510
                cases e510
                replace p510 := eq_true p510
                replace q510 := eq_true q510
                try go_wp2_with (first | ((with_reducible refine gate_callee (f := 34) rfl ?_); refine goesL_ (some 26) rfl rfl Try.func34 (by kernel_rfl) rfl #[.int .u8 ((rd_T29 t507 x9_1).f0)] rfl (by (try simp only [List.map_toArray, List.map_cons, List.map_nil]); first | done | rfl | (simp only [List.length_drop, List.length_take]; rfl)) ?_; (with_reducible refine (glazierlaw05_plain.calls k1 ((rd_T29 t507 x9_1).f0) false _ A12.out).mono ?_); rintro e w' ⟨rfl, ⟨nd, rfl⟩⟩; refine ⟨_, rfl, ?_⟩))
                (try (rw [drewN_self wr]; generalize hq_ : World.drewN wr _ = wr; have n0_ : Aside0 (Kd.R k29 29 wr w.heap.size (fun k_ => some k_ ≠ (u7 : Value).ownBlock) (.slice (some ad510) t507.length co29) t507) := ⟨by rw [← hq_]; exact (by (with_reducible repeat (first | apply Kd.R_alloc | apply Kd.R_drewN | apply Kd.R_drew)); exact HO_5.out)⟩; have n1_ : Aside0 (Kd.R k29 29 wr w.heap.size (fun k_ => some k_ ≠ (.slice (some ad510) t507.length co29 : Value).ownBlock) u7 x7_1) := ⟨by rw [← hq_]; exact (by (with_reducible repeat (first | apply Kd.R_alloc | apply Kd.R_drewN | apply Kd.R_drew)); exact HO_7.out)⟩; have n2_ : Aside0 (wr.heap[gb505]? = some (.cells #[.string a0_0, .slice A0_1 l0_1.length c0_1] 24 (0, 0))) := ⟨by rw [← hq_]; exact (by (with_reducible repeat (first | refine blk_drewN ?_ _ | refine blk_drew ?_ | refine blk_alloc ?_ _)); exact BK505.out)⟩; have n3_ : Aside0 (Below w.heap.size w wr) := ⟨by rw [← hq_]; exact (by repeat (first | (with_reducible first | exact HB.out | apply below_alloc | apply pw_below_drewN | apply below_drew1 | refine below_set ?_ GE505.out) | exact HB.out))⟩; clear HO_5 HO_7 BK505 HB hq_; have HO_5 := n0_; have HO_7 := n1_; have BK505 := n2_; have HB := n3_; clear n0_ n1_ n2_ n3_))
                have n0_ := Aside0.mk (Kd.R_drew HO_5.out)
                have n1_ := Aside0.mk (Kd.R_drew HO_7.out)
                have n2_ := Aside0.mk (blk_drew BK505.out)
                have n3_ := Aside0.mk (below_drew1 HB.out)
                clear HO_5
                clear HO_7
                clear BK505
                clear HB
                have HO_5 := n0_
                have HO_7 := n1_
                have BK505 := n2_
                have HB := n3_
                clear n0_ n1_ n2_ n3_
                have p516 : 0 ≤ (x9_1 : Int) := of_decide_eq_true (by first | (with_reducible assumption) | assumption)
                have q516 : x9_1 < (t507.length : Int) := of_decide_eq_true (by first | (with_reducible assumption) | assumption)
                obtain ⟨ad516, e516, hx516_0, hx516_1⟩ := at_T29 (Kd.R_reads' HO_5.out).2.2 x9_1 p516 q516
                obtain rfl : ad510 = ad516 := (by injection e516)
                replace p516 := eq_true p516
                replace q516 := eq_true q516
                have p517 : 0 ≤ (x9_1 : Int) := of_decide_eq_true (by first | (with_reducible assumption) | assumption)
                have q517 : x9_1 < (t507.length : Int) := of_decide_eq_true (by first | (with_reducible assumption) | assumption)
                obtain ⟨ad517, e517, hx517_0, hx517_1⟩ := at_T29 (Kd.R_reads' HO_5.out).2.2 x9_1 p517 q517
                obtain rfl : ad510 = ad517 := (by injection e517)
                replace p517 := eq_true p517
                replace q517 := eq_true q517
                have p518 : 0 ≤ (x9_1 : Int) := of_decide_eq_true (by first | (with_reducible assumption) | assumption)
                have q518 : x9_1 < (t507.length : Int) := of_decide_eq_true (by first | (with_reducible assumption) | assumption)
                obtain ⟨ad518, e518, hx518_0, hx518_1⟩ := at_T29 (Kd.R_reads' HO_5.out).2.2 x9_1 p518 q518
                obtain rfl : ad510 = ad518 := (by injection e518)
                replace p518 := eq_true p518
                replace q518 := eq_true q518
                have p519 : 0 ≤ (x9_1 : Int) := of_decide_eq_true (by first | (with_reducible assumption) | assumption)
                have q519 : x9_1 < (t507.length : Int) := of_decide_eq_true (by first | (with_reducible assumption) | assumption)
                obtain ⟨ad519, e519, hx519_0, hx519_1⟩ := at_T29 (Kd.R_reads' HO_5.out).2.2 x9_1 p519 q519
                obtain rfl : ad510 = ad519 := (by injection e519)
                replace p519 := eq_true p519
                replace q519 := eq_true q519
                have p520 : 0 ≤ (x9_1 : Int) := of_decide_eq_true (by first | (with_reducible assumption) | assumption)
                have q520 : x9_1 < (t507.length : Int) := of_decide_eq_true (by first | (with_reducible assumption) | assumption)
                obtain ⟨ad520, e520, hx520_0, hx520_1⟩ := at_T29 (Kd.R_reads' HO_5.out).2.2 x9_1 p520 q520
                obtain rfl : ad510 = ad520 := (by injection e520)
                replace p520 := eq_true p520
                replace q520 := eq_true q520
                have hslji17 : ∀ W : World, (Instr.slice 9 (.string (⟨#[48, 49, 50, 51, 52, 53, 54, 55, 56, 57, 65, 66, 67, 68, 69, 70]⟩ : ByteArray)) (some (.int .u8 ji17)) (some (.int .u8 ((ji17 + 1) % 256))) none).run Try.prog W = .ok (.string ((⟨#[48, 49, 50, 51, 52, 53, 54, 55, 56, 57, 65, 66, 67, 68, 69, 70]⟩ : ByteArray).extract ji17.toNat ((ji17 + 1) % 256).toNat)) W := fun W => run_slice_string (P := Try.prog) W 9 (⟨#[48, 49, 50, 51, 52, 53, 54, 55, 56, 57, 65, 66, 67, 68, 69, 70]⟩ : ByteArray) .u8 .u8 ji17 ((ji17 + 1) % 256) Try.underlying9 (of_eq_true c18b0) (of_eq_true c19b0) (of_eq_true c20b0)
                have hslji22 : ∀ W : World, (Instr.slice 9 (.string (⟨#[48, 49, 50, 51, 52, 53, 54, 55, 56, 57, 65, 66, 67, 68, 69, 70]⟩ : ByteArray)) (some (.int .u8 ji22)) (some (.int .u8 ((ji22 + 1) % 256))) none).run Try.prog W = .ok (.string ((⟨#[48, 49, 50, 51, 52, 53, 54, 55, 56, 57, 65, 66, 67, 68, 69, 70]⟩ : ByteArray).extract ji22.toNat ((ji22 + 1) % 256).toNat)) W := fun W => run_slice_string (P := Try.prog) W 9 (⟨#[48, 49, 50, 51, 52, 53, 54, 55, 56, 57, 65, 66, 67, 68, 69, 70]⟩ : ByteArray) .u8 .u8 ji22 ((ji22 + 1) % 256) Try.underlying9 (of_eq_true c23b0) (of_eq_true c24b0) (of_eq_true c25b0)
                have hleji17 : (9223372036854775807 < 1 + (min ((ji17 + 1) % 256).toNat 16 - ji17.toNat)) = False := eq_false (by omega)
                have hleji22 : (9223372036854775807 < 1 + (min ((ji17 + 1) % 256).toNat 16 - ji17.toNat) + (min ((ji22 + 1) % 256).toNat 16 - ji22.toNat)) = False := eq_false (by omega)
                refine start_ (n := 41) (S := fun w' => w'.cell? (ad510.add ((x9_1).toNat * 2)) = some (.int .u8 ((rd_T29 t507 x9_1).f0)) ∧ w'.cell? ⟨(ad510.add ((x9_1).toNat * 2)).block, (ad510.add ((x9_1).toNat * 2)).off + 1, none⟩ = some (.int .i64 ((rd_T29 t507 x9_1).f1)) ∧ w'.cell? (ad510.add ((x9_1).toNat * 2)) = some (.int .u8 ((rd_T29 t507 x9_1).f0)) ∧ w'.cell? ⟨(ad510.add ((x9_1).toNat * 2)).block, (ad510.add ((x9_1).toNat * 2)).off + 1, none⟩ = some (.int .i64 ((rd_T29 t507 x9_1).f1)) ∧ w'.cell? (ad510.add ((x9_1).toNat * 2)) = some (.int .u8 ((rd_T29 t507 x9_1).f0)) ∧ w'.cell? ⟨(ad510.add ((x9_1).toNat * 2)).block, (ad510.add ((x9_1).toNat * 2)).off + 1, none⟩ = some (.int .i64 ((rd_T29 t507 x9_1).f1)) ∧ w'.cell? (ad510.add ((x9_1).toNat * 2)) = some (.int .u8 ((rd_T29 t507 x9_1).f0)) ∧ w'.cell? ⟨(ad510.add ((x9_1).toNat * 2)).block, (ad510.add ((x9_1).toNat * 2)).off + 1, none⟩ = some (.int .i64 ((rd_T29 t507 x9_1).f1)) ∧ w'.cell? (ad510.add ((x9_1).toNat * 2)) = some (.int .u8 ((rd_T29 t507 x9_1).f0)) ∧ w'.cell? ⟨(ad510.add ((x9_1).toNat * 2)).block, (ad510.add ((x9_1).toNat * 2)).off + 1, none⟩ = some (.int .i64 ((rd_T29 t507 x9_1).f1))) (ds := [39]) #[false, false, false, false, false, false, false, false, false, false, false, false, false, false, false, false, false, false, false, false, false, false, false, false, false, false, false, false, false, false, false, false, false, false, false, false, false, false, false, false, false] (by kernel_rfl) rfl rfl ⟨hx516_0, hx516_1, hx517_0, hx517_1, hx518_0, hx518_1, hx519_0, hx519_1, hx520_0, hx520_1⟩ (fun hHeld => ?_); refine with_tabW glazierlaw05_PercentTells.tab11 glazierlaw05_PercentTells.bits11 (fun HT_ HW_ => ?_)
                generalize wr.drew = w30 at HO_5 HO_7 BK505 HB hx516_0 hx516_1 hx517_0 hx517_1 hx518_0 hx518_1 hx519_0 hx519_1 hx520_0 hx520_1 hHeld ⊢
                refine pure_ (i := 0) (N := some 34) (v := ?_) (a' := ?_) #[true, false, false, false, false, false, false, false, false, false, false, false, false, false, false, false, false, false, false, false, false, false, false, false, false, false, false, false, false, false, false, false, false, false, false, false, false, false, false, false, false] rfl rfl (any_of HT_.out (by kernel_rfl)) (fun _ _ _ h => h) (Or.inl ⟨by rfl, ?_⟩) ?_ ?_
                rotate_left
                ·
                 intro w'
                 go_simp
                 with_reducible rfl
                rotate_left
                ·
                 simp only [Act.put, List.setIfInBounds_toArray, List.set_cons_zero, List.set_cons_succ, i64_w, i32_w]
                 rfl
                refine pure_ (i := 1) (N := some 35) (v := ?_) (a' := ?_) #[true, true, false, false, false, false, false, false, false, false, false, false, false, false, false, false, false, false, false, false, false, false, false, false, false, false, false, false, false, false, false, false, false, false, false, false, false, false, false, false, false] rfl rfl (any_of HT_.out (by kernel_rfl)) (fun _ _ _ h => h) (Or.inl ⟨by rfl, ?_⟩) ?_ ?_
                rotate_left
                ·
                 intro w'
                 go_simp
                 with_reducible rfl
                rotate_left
                ·
                 simp only [Act.put, List.setIfInBounds_toArray, List.set_cons_zero, List.set_cons_succ, i64_w, i32_w]
                 rfl
                refine pure_ (i := 2) (N := some 36) (v := ?_) (a' := ?_) #[true, true, true, false, false, false, false, false, false, false, false, false, false, false, false, false, false, false, false, false, false, false, false, false, false, false, false, false, false, false, false, false, false, false, false, false, false, false, false, false, false] rfl rfl (any_of HT_.out (by kernel_rfl)) (fun _ _ _ h => h) (Or.inl ⟨by rfl, ?_⟩) ?_ ?_
                rotate_left
                ·
                 intro w'
                 go_simp
                 with_reducible rfl
                rotate_left
                ·
                 simp only [Act.put, List.setIfInBounds_toArray, List.set_cons_zero, List.set_cons_succ, i64_w, i32_w]
                 rfl
                refine pure_ (i := 3) (N := some 37) (v := ?_) (a' := ?_) #[true, true, true, true, false, false, false, false, false, false, false, false, false, false, false, false, false, false, false, false, false, false, false, false, false, false, false, false, false, false, false, false, false, false, false, false, false, false, false, false, false] rfl rfl (any_of HT_.out (by kernel_rfl)) (fun _ _ _ h => h) (Or.inl ⟨by rfl, ?_⟩) ?_ ?_
                rotate_left
                ·
                 intro w'
                 go_simp
                 with_reducible rfl
                rotate_left
                ·
                 simp only [Act.put, List.setIfInBounds_toArray, List.set_cons_zero, List.set_cons_succ, i64_w, i32_w]
                 rfl
                refine pure_ (i := 4) (N := some 38) (v := ?_) (a' := ?_) #[true, true, true, true, true, false, false, false, false, false, false, false, false, false, false, false, false, false, false, false, false, false, false, false, false, false, false, false, false, false, false, false, false, false, false, false, false, false, false, false, false] rfl rfl (any_of HT_.out (by kernel_rfl)) (fun _ _ _ h => h) (Or.inl ⟨by rfl, ?_⟩) ?_ ?_
                rotate_left
                ·
                 intro w'
                 go_simp
                 with_reducible rfl
                rotate_left
                ·
                 simp only [Act.put, List.setIfInBounds_toArray, List.set_cons_zero, List.set_cons_succ, i64_w, i32_w]
                 rfl
                refine pure_ (i := 5) (N := some 39) (v := ?_) (a' := ?_) #[true, true, true, true, true, true, false, false, false, false, false, false, false, false, false, false, false, false, false, false, false, false, false, false, false, false, false, false, false, false, false, false, false, false, false, false, false, false, false, false, false] rfl rfl (any_of HT_.out (by kernel_rfl)) (fun _ _ _ h => h) (Or.inl ⟨by rfl, ?_⟩) ?_ ?_
                rotate_left
                ·
                 intro w'
                 go_simp
                 with_reducible rfl
                rotate_left
                ·
                 simp only [Act.put, List.setIfInBounds_toArray, List.set_cons_zero, List.set_cons_succ, i64_w, i32_w]
                 rfl
                refine pure_ (i := 8) (N := some 42) (v := ?_) (a' := ?_) #[true, true, true, true, true, true, false, false, true, false, false, false, false, false, false, false, false, false, false, false, false, false, false, false, false, false, false, false, false, false, false, false, false, false, false, false, false, false, false, false, false] rfl rfl (any_of HT_.out (by kernel_rfl)) (fun _ _ _ h => h) (Or.inl ⟨by rfl, ?_⟩) ?_ ?_
                rotate_left
                ·
                 intro w'
                 go_simp
                 with_reducible rfl
                rotate_left
                ·
                 simp only [Act.put, List.setIfInBounds_toArray, List.set_cons_zero, List.set_cons_succ, i64_w, i32_w]
                 rfl
                refine pure_ (i := 9) (N := some 43) (v := ?_) (a' := ?_) #[true, true, true, true, true, true, false, false, true, true, false, false, false, false, false, false, false, false, false, false, false, false, false, false, false, false, false, false, false, false, false, false, false, false, false, false, false, false, false, false, false] rfl rfl (any_of HT_.out (by kernel_rfl)) (fun _ _ _ h => h) (Or.inl ⟨by rfl, ?_⟩) ?_ ?_
                rotate_left
                ·
                 intro w'
                 go_simp
                 with_reducible rfl
                rotate_left
                ·
                 simp only [Act.put, List.setIfInBounds_toArray, List.set_cons_zero, List.set_cons_succ, i64_w, i32_w]
                 rfl
                refine pure_ (i := 10) (N := some 44) (v := ?_) (a' := ?_) #[true, true, true, true, true, true, false, false, true, true, true, false, false, false, false, false, false, false, false, false, false, false, false, false, false, false, false, false, false, false, false, false, false, false, false, false, false, false, false, false, false] rfl rfl (any_of HT_.out (by kernel_rfl)) (fun _ _ _ h => h) (Or.inl ⟨by rfl, ?_⟩) ?_ ?_
                rotate_left
                ·
                 intro w'
                 go_simp
                 with_reducible rfl
                rotate_left
                ·
                 simp only [Act.put, List.setIfInBounds_toArray, List.set_cons_zero, List.set_cons_succ, i64_w, i32_w]
                 rfl
                refine pure_ (i := 11) (N := some 45) (v := ?_) (a' := ?_) #[true, true, true, true, true, true, false, false, true, true, true, true, false, false, false, false, false, false, false, false, false, false, false, false, false, false, false, false, false, false, false, false, false, false, false, false, false, false, false, false, false] rfl rfl (any_of HT_.out (by kernel_rfl)) (fun _ _ _ h => h) (Or.inl ⟨by rfl, ?_⟩) ?_ ?_
                rotate_left
                ·
                 intro w'
                 go_simp
                 with_reducible rfl
                rotate_left
                ·
                 simp only [Act.put, List.setIfInBounds_toArray, List.set_cons_zero, List.set_cons_succ, i64_w, i32_w]
                 rfl
                refine pure_ (i := 17) (N := some 51) (v := ?_) (a' := ?_) #[true, true, true, true, true, true, false, false, true, true, true, true, false, false, false, false, false, true, false, false, false, false, false, false, false, false, false, false, false, false, false, false, false, false, false, false, false, false, false, false, false] rfl rfl (any_of HT_.out (by kernel_rfl)) (fun _ _ _ h => h) (Or.inl ⟨by rfl, ?_⟩) ?_ ?_
                rotate_left
                ·
                 intro w'
                 go_simp
                 with_reducible rfl
                rotate_left
                ·
                 simp only [Act.put, List.setIfInBounds_toArray, List.set_cons_zero, List.set_cons_succ, i64_w, i32_w]
                 rfl
                refine pure_ (i := 18) (N := some 52) (v := ?_) (a' := ?_) #[true, true, true, true, true, true, false, false, true, true, true, true, false, false, false, false, false, true, true, false, false, false, false, false, false, false, false, false, false, false, false, false, false, false, false, false, false, false, false, false, false] rfl rfl (any_of HT_.out (by kernel_rfl)) (fun _ _ _ h => h) (Or.inl ⟨by rfl, ?_⟩) ?_ ?_
                rotate_left
                ·
                 intro w'
                 go_simp
                 with_reducible rfl
                rotate_left
                ·
                 simp only [Act.put, List.setIfInBounds_toArray, List.set_cons_zero, List.set_cons_succ, i64_w, i32_w]
                 rfl
                refine pure_ (i := 19) (N := some 53) (v := ?_) (a' := ?_) #[true, true, true, true, true, true, false, false, true, true, true, true, false, false, false, false, false, true, true, true, false, false, false, false, false, false, false, false, false, false, false, false, false, false, false, false, false, false, false, false, false] rfl rfl (any_of HT_.out (by kernel_rfl)) (fun _ _ _ h => h) (Or.inl ⟨by rfl, ?_⟩) ?_ ?_
                rotate_left
                ·
                 intro w'
                 go_simp
                 with_reducible rfl
                rotate_left
                ·
                 simp only [Act.put, List.setIfInBounds_toArray, List.set_cons_zero, List.set_cons_succ, i64_w, i32_w]
                 rfl
                refine pure_ (i := 20) (N := some 54) (v := ?_) (a' := ?_) #[true, true, true, true, true, true, false, false, true, true, true, true, false, false, false, false, false, true, true, true, true, false, false, false, false, false, false, false, false, false, false, false, false, false, false, false, false, false, false, false, false] rfl rfl (any_of HT_.out (by kernel_rfl)) (fun _ _ _ h => h) (Or.inl ⟨by rfl, ?_⟩) ?_ ?_
                rotate_left
                ·
                 intro w'
                 go_simp
                 with_reducible rfl
                rotate_left
                ·
                 simp only [Act.put, List.setIfInBounds_toArray, List.set_cons_zero, List.set_cons_succ, i64_w, i32_w]
                 rfl
                refine pure_ (i := 21) (N := some 55) (v := ?_) (a' := ?_) #[true, true, true, true, true, true, false, false, true, true, true, true, false, false, false, false, false, true, true, true, true, true, false, false, false, false, false, false, false, false, false, false, false, false, false, false, false, false, false, false, false] rfl rfl (any_of HT_.out (by kernel_rfl)) (fun _ _ _ h => h) (Or.inl ⟨by rfl, ?_⟩) ?_ ?_
                rotate_left
                ·
                 intro w'
                 go_simp
                 with_reducible rfl
                rotate_left
                ·
                 simp only [Act.put, List.setIfInBounds_toArray, List.set_cons_zero, List.set_cons_succ, i64_w, i32_w]
                 rfl
                refine pure_ (i := 24) (N := some 58) (v := ?_) (a' := ?_) #[true, true, true, true, true, true, false, false, true, true, true, true, false, false, false, false, false, true, true, true, true, true, false, false, true, false, false, false, false, false, false, false, false, false, false, false, false, false, false, false, false] rfl rfl (any_of HT_.out (by kernel_rfl)) (fun _ _ _ h => h) (Or.inl ⟨by rfl, ?_⟩) ?_ ?_
                rotate_left
                ·
                 intro w'
                 go_simp
                 with_reducible rfl
                rotate_left
                ·
                 simp only [Act.put, List.setIfInBounds_toArray, List.set_cons_zero, List.set_cons_succ, i64_w, i32_w]
                 rfl
                refine pure_ (i := 25) (N := some 59) (v := ?_) (a' := ?_) #[true, true, true, true, true, true, false, false, true, true, true, true, false, false, false, false, false, true, true, true, true, true, false, false, true, true, false, false, false, false, false, false, false, false, false, false, false, false, false, false, false] rfl rfl (any_of HT_.out (by kernel_rfl)) (fun _ _ _ h => h) (Or.inl ⟨by rfl, ?_⟩) ?_ ?_
                rotate_left
                ·
                 intro w'
                 go_simp
                 with_reducible rfl
                rotate_left
                ·
                 simp only [Act.put, List.setIfInBounds_toArray, List.set_cons_zero, List.set_cons_succ, i64_w, i32_w]
                 rfl
                refine pure_ (i := 26) (N := some 60) (v := ?_) (a' := ?_) #[true, true, true, true, true, true, false, false, true, true, true, true, false, false, false, false, false, true, true, true, true, true, false, false, true, true, true, false, false, false, false, false, false, false, false, false, false, false, false, false, false] rfl rfl (any_of HT_.out (by kernel_rfl)) (fun _ _ _ h => h) (Or.inl ⟨by rfl, ?_⟩) ?_ ?_
                rotate_left
                ·
                 intro w'
                 go_simp
                 with_reducible rfl
                rotate_left
                ·
                 simp only [Act.put, List.setIfInBounds_toArray, List.set_cons_zero, List.set_cons_succ, i64_w, i32_w]
                 rfl
                refine pure_ (i := 27) (N := some 61) (v := ?_) (a' := ?_) #[true, true, true, true, true, true, false, false, true, true, true, true, false, false, false, false, false, true, true, true, true, true, false, false, true, true, true, true, false, false, false, false, false, false, false, false, false, false, false, false, false] rfl rfl (any_of HT_.out (by kernel_rfl)) (fun _ _ _ h => h) (Or.inl ⟨by rfl, ?_⟩) ?_ ?_
                rotate_left
                ·
                 intro w'
                 go_simp
                 with_reducible rfl
                rotate_left
                ·
                 simp only [Act.put, List.setIfInBounds_toArray, List.set_cons_zero, List.set_cons_succ, i64_w, i32_w]
                 rfl
                refine pure_ (i := 33) (N := some 67) (v := ?_) (a' := ?_) #[true, true, true, true, true, true, false, false, true, true, true, true, false, false, false, false, false, true, true, true, true, true, false, false, true, true, true, true, false, false, false, false, false, true, false, false, false, false, false, false, false] rfl rfl (any_of HT_.out (by kernel_rfl)) (fun _ _ _ h => h) (Or.inl ⟨by rfl, ?_⟩) ?_ ?_
                rotate_left
                ·
                 intro w'
                 go_simp
                 with_reducible rfl
                rotate_left
                ·
                 simp only [Act.put, List.setIfInBounds_toArray, List.set_cons_zero, List.set_cons_succ, i64_w, i32_w]
                 rfl
                refine pure_ (i := 34) (N := some 68) (v := ?_) (a' := ?_) #[true, true, true, true, true, true, false, false, true, true, true, true, false, false, false, false, false, true, true, true, true, true, false, false, true, true, true, true, false, false, false, false, false, true, true, false, false, false, false, false, false] rfl rfl (any_of HT_.out (by kernel_rfl)) (fun _ _ _ h => h) (Or.inl ⟨by rfl, ?_⟩) ?_ ?_
                rotate_left
                ·
                 intro w'
                 go_simp
                 with_reducible rfl
                rotate_left
                ·
                 simp only [Act.put, List.setIfInBounds_toArray, List.set_cons_zero, List.set_cons_succ, i64_w, i32_w]
                 rfl
                refine pure_ (i := 35) (N := some 69) (v := ?_) (a' := ?_) #[true, true, true, true, true, true, false, false, true, true, true, true, false, false, false, false, false, true, true, true, true, true, false, false, true, true, true, true, false, false, false, false, false, true, true, true, false, false, false, false, false] rfl rfl (any_of HT_.out (by kernel_rfl)) (fun _ _ _ h => h) (Or.inl ⟨by rfl, ?_⟩) ?_ ?_
                rotate_left
                ·
                 intro w'
                 go_simp
                 with_reducible rfl
                rotate_left
                ·
                 simp only [Act.put, List.setIfInBounds_toArray, List.set_cons_zero, List.set_cons_succ, i64_w, i32_w]
                 rfl
                refine pure_ (i := 36) (N := some 70) (v := ?_) (a' := ?_) #[true, true, true, true, true, true, false, false, true, true, true, true, false, false, false, false, false, true, true, true, true, true, false, false, true, true, true, true, false, false, false, false, false, true, true, true, true, false, false, false, false] rfl rfl (any_of HT_.out (by kernel_rfl)) (fun _ _ _ h => h) (Or.inl ⟨by rfl, ?_⟩) ?_ ?_
                rotate_left
                ·
                 intro w'
                 go_simp
                 with_reducible rfl
                rotate_left
                ·
                 simp only [Act.put, List.setIfInBounds_toArray, List.set_cons_zero, List.set_cons_succ, i64_w, i32_w]
                 rfl
                refine take_ (i := 6) (N := some 40) (v := ?_) (a' := ?_) #[true, true, true, true, true, true, true, false, true, true, true, true, false, false, false, false, false, true, true, true, true, true, false, false, true, true, true, true, false, false, false, false, false, true, true, true, true, false, false, false, false] rfl rfl (take_ofW HT_.out HW_.out (by kernel_rfl)) (fun _ _ _ h => h) (Or.inl ⟨by rfl, ?_⟩) hHeld ?_ ?_
                rotate_left
                ·
                 rintro w' ⟨s0, s1, s2, s3, s4, s5, s6, s7, s8, s9⟩
                 go_simp
                 with_reducible rfl
                rotate_left
                ·
                 simp only [Act.put, List.setIfInBounds_toArray, List.set_cons_zero, List.set_cons_succ, i64_w, i32_w]
                 rfl
                refine pure_ (i := 7) (N := some 41) (v := ?_) (a' := ?_) #[true, true, true, true, true, true, true, true, true, true, true, true, false, false, false, false, false, true, true, true, true, true, false, false, true, true, true, true, false, false, false, false, false, true, true, true, true, false, false, false, false] rfl rfl (any_of HT_.out (by kernel_rfl)) (fun _ _ _ h => h) (Or.inl ⟨by rfl, ?_⟩) ?_ ?_
                rotate_left
                ·
                 intro w'
                 go_simp
                 with_reducible rfl
                rotate_left
                ·
                 simp only [Act.put, List.setIfInBounds_toArray, List.set_cons_zero, List.set_cons_succ, i64_w, i32_w]
                 rfl
                refine take_ (i := 12) (N := some 46) (v := ?_) (a' := ?_) #[true, true, true, true, true, true, true, true, true, true, true, true, true, false, false, false, false, true, true, true, true, true, false, false, true, true, true, true, false, false, false, false, false, true, true, true, true, false, false, false, false] rfl rfl (take_ofW HT_.out HW_.out (by kernel_rfl)) (fun _ _ _ h => h) (Or.inl ⟨by rfl, ?_⟩) hHeld ?_ ?_
                rotate_left
                ·
                 rintro w' ⟨s0, s1, s2, s3, s4, s5, s6, s7, s8, s9⟩
                 go_simp
                 with_reducible rfl
                rotate_left
                ·
                 simp only [Act.put, List.setIfInBounds_toArray, List.set_cons_zero, List.set_cons_succ, i64_w, i32_w]
                 rfl
                refine pure_ (i := 13) (N := some 47) (v := ?_) (a' := ?_) #[true, true, true, true, true, true, true, true, true, true, true, true, true, true, false, false, false, true, true, true, true, true, false, false, true, true, true, true, false, false, false, false, false, true, true, true, true, false, false, false, false] rfl rfl (any_of HT_.out (by kernel_rfl)) (fun _ _ _ h => h) (Or.inl ⟨by rfl, ?_⟩) ?_ ?_
                rotate_left
                ·
                 intro w'
                 go_simp
                 with_reducible rfl
                rotate_left
                ·
                 simp only [Act.put, List.setIfInBounds_toArray, List.set_cons_zero, List.set_cons_succ, i64_w, i32_w]
                 rfl
                refine pure_ (i := 14) (N := some 48) (v := ?_) (a' := ?_) #[true, true, true, true, true, true, true, true, true, true, true, true, true, true, true, false, false, true, true, true, true, true, false, false, true, true, true, true, false, false, false, false, false, true, true, true, true, false, false, false, false] rfl rfl (any_of HT_.out (by kernel_rfl)) (fun _ _ _ h => h) (Or.inl ⟨by rfl, ?_⟩) ?_ ?_
                rotate_left
                ·
                 intro w'
                 go_simp
                 with_reducible rfl
                rotate_left
                ·
                 simp only [Act.put, List.setIfInBounds_toArray, List.set_cons_zero, List.set_cons_succ, i64_w, i32_w]
                 rfl
                refine pure_ (i := 15) (N := some 49) (v := ?_) (a' := ?_) #[true, true, true, true, true, true, true, true, true, true, true, true, true, true, true, true, false, true, true, true, true, true, false, false, true, true, true, true, false, false, false, false, false, true, true, true, true, false, false, false, false] rfl rfl (any_of HT_.out (by kernel_rfl)) (fun _ _ _ h => h) (Or.inl ⟨by rfl, ?_⟩) ?_ ?_
                rotate_left
                ·
                 intro w'
                 go_simp
                 with_reducible rfl
                rotate_left
                ·
                 simp only [Act.put, List.setIfInBounds_toArray, List.set_cons_zero, List.set_cons_succ, i64_w, i32_w]
                 rfl
                refine pure_ (i := 16) (N := some 50) (v := ?_) (a' := ?_) #[true, true, true, true, true, true, true, true, true, true, true, true, true, true, true, true, true, true, true, true, true, true, false, false, true, true, true, true, false, false, false, false, false, true, true, true, true, false, false, false, false] rfl rfl (any_of HT_.out (by kernel_rfl)) (fun _ _ _ h => h) (Or.inl ⟨by rfl, ?_⟩) ?_ ?_
                rotate_left
                ·
                 intro w'
                 go_simp
                 with_reducible rfl
                rotate_left
                ·
                 simp only [Act.put, List.setIfInBounds_toArray, List.set_cons_zero, List.set_cons_succ, i64_w, i32_w]
                 rfl
                refine take_ (i := 22) (N := some 56) (v := ?_) (a' := ?_) #[true, true, true, true, true, true, true, true, true, true, true, true, true, true, true, true, true, true, true, true, true, true, true, false, true, true, true, true, false, false, false, false, false, true, true, true, true, false, false, false, false] rfl rfl (take_ofW HT_.out HW_.out (by kernel_rfl)) (fun _ _ _ h => h) (Or.inl ⟨by rfl, ?_⟩) hHeld ?_ ?_
                rotate_left
                ·
                 rintro w' ⟨s0, s1, s2, s3, s4, s5, s6, s7, s8, s9⟩
                 go_simp
                 with_reducible rfl
                rotate_left
                ·
                 simp only [Act.put, List.setIfInBounds_toArray, List.set_cons_zero, List.set_cons_succ, i64_w, i32_w]
                 rfl
                refine pure_ (i := 23) (N := some 57) (v := ?_) (a' := ?_) #[true, true, true, true, true, true, true, true, true, true, true, true, true, true, true, true, true, true, true, true, true, true, true, true, true, true, true, true, false, false, false, false, false, true, true, true, true, false, false, false, false] rfl rfl (any_of HT_.out (by kernel_rfl)) (fun _ _ _ h => h) (Or.inl ⟨by rfl, ?_⟩) ?_ ?_
                rotate_left
                ·
                 intro w'
                 go_simp
                 with_reducible rfl
                rotate_left
                ·
                 simp only [Act.put, List.setIfInBounds_toArray, List.set_cons_zero, List.set_cons_succ, i64_w, i32_w]
                 rfl
                refine take_ (i := 28) (N := some 62) (v := ?_) (a' := ?_) #[true, true, true, true, true, true, true, true, true, true, true, true, true, true, true, true, true, true, true, true, true, true, true, true, true, true, true, true, true, false, false, false, false, true, true, true, true, false, false, false, false] rfl rfl (take_ofW HT_.out HW_.out (by kernel_rfl)) (fun _ _ _ h => h) (Or.inl ⟨by rfl, ?_⟩) hHeld ?_ ?_
                rotate_left
                ·
                 rintro w' ⟨s0, s1, s2, s3, s4, s5, s6, s7, s8, s9⟩
                 go_simp
                 with_reducible rfl
                rotate_left
                ·
                 simp only [Act.put, List.setIfInBounds_toArray, List.set_cons_zero, List.set_cons_succ, i64_w, i32_w]
                 rfl
                refine pure_ (i := 29) (N := some 63) (v := ?_) (a' := ?_) #[true, true, true, true, true, true, true, true, true, true, true, true, true, true, true, true, true, true, true, true, true, true, true, true, true, true, true, true, true, true, false, false, false, true, true, true, true, false, false, false, false] rfl rfl (any_of HT_.out (by kernel_rfl)) (fun _ _ _ h => h) (Or.inl ⟨by rfl, ?_⟩) ?_ ?_
                rotate_left
                ·
                 intro w'
                 go_simp
                 with_reducible rfl
                rotate_left
                ·
                 simp only [Act.put, List.setIfInBounds_toArray, List.set_cons_zero, List.set_cons_succ, i64_w, i32_w]
                 rfl
                refine pure_ (i := 30) (N := some 64) (v := ?_) (a' := ?_) #[true, true, true, true, true, true, true, true, true, true, true, true, true, true, true, true, true, true, true, true, true, true, true, true, true, true, true, true, true, true, true, false, false, true, true, true, true, false, false, false, false] rfl rfl (any_of HT_.out (by kernel_rfl)) (fun _ _ _ h => h) (Or.inl ⟨by rfl, ?_⟩) ?_ ?_
                rotate_left
                ·
                 intro w'
                 go_simp
                 with_reducible rfl
                rotate_left
                ·
                 simp only [Act.put, List.setIfInBounds_toArray, List.set_cons_zero, List.set_cons_succ, i64_w, i32_w]
                 rfl
                refine pure_ (i := 31) (N := some 65) (v := ?_) (a' := ?_) #[true, true, true, true, true, true, true, true, true, true, true, true, true, true, true, true, true, true, true, true, true, true, true, true, true, true, true, true, true, true, true, true, false, true, true, true, true, false, false, false, false] rfl rfl (any_of HT_.out (by kernel_rfl)) (fun _ _ _ h => h) (Or.inl ⟨by rfl, ?_⟩) ?_ ?_
                rotate_left
                ·
                 intro w'
                 go_simp
                 with_reducible rfl
                rotate_left
                ·
                 simp only [Act.put, List.setIfInBounds_toArray, List.set_cons_zero, List.set_cons_succ, i64_w, i32_w]
                 rfl
                refine pure_ (i := 32) (N := some 66) (v := ?_) (a' := ?_) #[true, true, true, true, true, true, true, true, true, true, true, true, true, true, true, true, true, true, true, true, true, true, true, true, true, true, true, true, true, true, true, true, true, true, true, true, true, false, false, false, false] rfl rfl (any_of HT_.out (by kernel_rfl)) (fun _ _ _ h => h) (Or.inl ⟨by rfl, ?_⟩) ?_ ?_
                rotate_left
                ·
                 intro w'
                 go_simp
                 with_reducible rfl
                rotate_left
                ·
                 simp only [Act.put, List.setIfInBounds_toArray, List.set_cons_zero, List.set_cons_succ, i64_w, i32_w]
                 rfl
                refine take_ (i := 37) (N := some 71) (v := ?_) (a' := ?_) #[true, true, true, true, true, true, true, true, true, true, true, true, true, true, true, true, true, true, true, true, true, true, true, true, true, true, true, true, true, true, true, true, true, true, true, true, true, true, false, false, false] rfl rfl (take_ofW HT_.out HW_.out (by kernel_rfl)) (fun _ _ _ h => h) (Or.inl ⟨by rfl, ?_⟩) hHeld ?_ ?_
                rotate_left
                ·
                 rintro w' ⟨s0, s1, s2, s3, s4, s5, s6, s7, s8, s9⟩
                 go_simp
                 with_reducible rfl
                rotate_left
                ·
                 simp only [Act.put, List.setIfInBounds_toArray, List.set_cons_zero, List.set_cons_succ, i64_w, i32_w]
                 rfl
                refine one_ (i := 38) (N := some 72) #[true, true, true, true, true, true, true, true, true, true, true, true, true, true, true, true, true, true, true, true, true, true, true, true, true, true, true, true, true, true, true, true, true, true, true, true, true, true, true, false, false] rfl rfl (one_of HT_.out (by kernel_rfl)) (by decide) (fun K hK => ?_)
                refine goes_ Try.func35 (by kernel_rfl) rfl #[.string (((⟨#[37]⟩ : ByteArray) ++ ((⟨#[48, 49, 50, 51, 52, 53, 54, 55, 56, 57, 65, 66, 67, 68, 69, 70]⟩ : ByteArray).extract ((ji17) : Int).toNat ((((ji17) + 1) % 256) : Int).toNat)) ++ ((⟨#[48, 49, 50, 51, 52, 53, 54, 55, 56, 57, 65, 66, 67, 68, 69, 70]⟩ : ByteArray).extract ((ji22) : Int).toNat ((((ji22) + 1) % 256) : Int).toNat)), .int .i64 ((rd_T29 t507 x9_1).f1)] (by rfl) rfl rfl (by (try simp only [List.map_toArray, List.map_cons, List.map_nil]); first | done | (simp only [hji17, hji22]; rfl) | rfl | (simp only [List.length_drop, List.length_take]; rfl)) ?_
                with_reducible refine (glazierref01_All.calls k1 (((⟨#[37]⟩ : ByteArray) ++ ((⟨#[48, 49, 50, 51, 52, 53, 54, 55, 56, 57, 65, 66, 67, 68, 69, 70]⟩ : ByteArray).extract ((ji17) : Int).toNat ((((ji17) + 1) % 256) : Int).toNat)) ++ ((⟨#[48, 49, 50, 51, 52, 53, 54, 55, 56, 57, 65, 66, 67, 68, 69, 70]⟩ : ByteArray).extract ((ji22) : Int).toNat ((((ji22) + 1) % 256) : Int).toNat)) ((rd_T29 t507 x9_1).f1) t521 _ A27.out).mono ?_
                rintro e w31 ⟨v522, rfl, ho0, hb⟩
                have HS0_ := (hb.cell (World.block_lt_of_cell? _ _ (hHeld.1))).trans (hHeld.1)
                have HS1_ := (hb.cell (World.block_lt_of_cell? _ _ (hHeld.2.1))).trans (hHeld.2.1)
                have HS2_ := (hb.cell (World.block_lt_of_cell? _ _ (hHeld.2.2.1))).trans (hHeld.2.2.1)
                have HS3_ := (hb.cell (World.block_lt_of_cell? _ _ (hHeld.2.2.2.1))).trans (hHeld.2.2.2.1)
                have HS4_ := (hb.cell (World.block_lt_of_cell? _ _ (hHeld.2.2.2.2.1))).trans (hHeld.2.2.2.2.1)
                have HS5_ := (hb.cell (World.block_lt_of_cell? _ _ (hHeld.2.2.2.2.2.1))).trans (hHeld.2.2.2.2.2.1)
                have HS6_ := (hb.cell (World.block_lt_of_cell? _ _ (hHeld.2.2.2.2.2.2.1))).trans (hHeld.2.2.2.2.2.2.1)
                have HS7_ := (hb.cell (World.block_lt_of_cell? _ _ (hHeld.2.2.2.2.2.2.2.1))).trans (hHeld.2.2.2.2.2.2.2.1)
                have HS8_ := (hb.cell (World.block_lt_of_cell? _ _ (hHeld.2.2.2.2.2.2.2.2.1))).trans (hHeld.2.2.2.2.2.2.2.2.1)
                have HS9_ := (hb.cell (World.block_lt_of_cell? _ _ (hHeld.2.2.2.2.2.2.2.2.2))).trans (hHeld.2.2.2.2.2.2.2.2.2)
                refine ⟨_, rfl, ?_⟩
                have n0_ := Aside0.mk (Kd.R_elder' (by (with_reducible repeat (first | apply Kd.R_alloc | apply Kd.R_drewN | apply Kd.R_drew)); exact HO_5.out) (Kd.R_base ho0) hb)
                have n1_ := Aside0.mk (Kd.R_elder' (by (with_reducible repeat (first | apply Kd.R_alloc | apply Kd.R_drewN | apply Kd.R_drew)); exact HO_7.out) (Kd.R_base ho0) hb)
                have n2_ := Aside0.mk (Kd.R_lower (Kd.R_new' (Kd.R_new' ho0 (Kd.R_lt (by (with_reducible repeat (first | apply Kd.R_alloc | apply Kd.R_drewN | apply Kd.R_drew)); exact HO_5.out))) (Kd.R_lt (by (with_reducible repeat (first | apply Kd.R_alloc | apply Kd.R_drewN | apply Kd.R_drew)); exact HO_7.out))) (below_size (by repeat (first | (with_reducible first | exact HB.out | apply below_alloc | apply pw_below_drewN | apply below_drew1 | refine below_set ?_ GE505.out) | exact HB.out))))
                have n3_ := Aside0.mk (blk_below (g := gb505) (o := .cells #[.string a0_0, .slice A0_1 l0_1.length c0_1] 24 (0, 0)) (by (with_reducible repeat (first | refine blk_drewN ?_ _ | refine blk_drew ?_ | refine blk_alloc ?_ _)); exact BK505.out) hb)
                have n4_ := Aside0.mk (below_step (by repeat (first | (with_reducible first | exact HB.out | apply below_alloc | apply pw_below_drewN | apply below_drew1 | refine below_set ?_ GE505.out) | exact HB.out)) hb)
                clear HO_5
                clear HO_7
                clear BK505
                clear HB
                have HO_5 := n0_
                have HO_7 := n1_
                have HO523 := n2_
                have BK505 := n3_
                have HB := n4_
                clear n0_ n1_ n2_ n3_ n4_
                (try clear hb)
                (try clear hb2)
                (try clear hk)
                (try clear hi)
                (try clear ho0)
                obtain ⟨Ao33, co33, eo33⟩ := Kd.R_slice HO523.out
                (first | subst eo33 | (injection eo33 with f1_ f2_ f3_; have f4_ := f1_.symm; have f5_ := f3_.symm; clear f1_ f2_ f3_; subst f4_; subst f5_))
                refine hK.out _ _ ⟨HS0_, HS1_, HS2_, HS3_, HS4_, HS5_, HS6_, HS7_, HS8_, HS9_⟩ (fun hHeld => ?_)
                clear hK K
                refine norm_ (a' := ?_) ?_ ?_
                rotate_left
                ·
                 show Act.put _ (some 72) _ = _
                 simp only [Act.put, List.setIfInBounds_toArray, List.set_cons_zero, List.set_cons_succ, i64_w, i32_w]
                 rfl
                refine last_ (i := 39) (N := some 73) #[true, true, true, true, true, true, true, true, true, true, true, true, true, true, true, true, true, true, true, true, true, true, true, true, true, true, true, true, true, true, true, true, true, true, true, true, true, true, true, true, false] rfl rfl (one_of HT_.out (by kernel_rfl)) (by decide) (fun K hK => ?_)
                refine Kd.R_append_rows_step k29 (w0 := w) w.heap.size (by rfl) (.tmp 34) (.tmp 72) 26 29 (.agg #[(.int .u8 0), (.int .i64 0)]) 16 rfl Try.underlying26 info29 rfl (by decide) (by omega) u7 x7_1 t521 _ _ _ (fun k_ => some k_ ≠ (.slice (some ad510) t507.length co29 : Value).ownBlock ∧ some k_ ≠ (.slice Ao33 t521.length co33 : Value).ownBlock) (fun _ => False) rfl rfl ?aO ?aR (fun _ _ h => h) (fun _ h => h.elim) ?aF ?aB ?aS ?aL ?_
                (case aR => repeat (first | exact (Kd.R_reads' HO523.out).2.2 | (with_reducible refine Kd.C_alloc ?_ _) | (with_reducible refine Kd.C_drewN ?_ _) | (with_reducible refine Kd.C_drew ?_)))
                (case aB => exact (by repeat (first | (with_reducible first | exact HB.out | apply below_alloc | apply pw_below_drewN | apply below_drew1 | refine below_set ?_ GE505.out) | exact HB.out)))
                (case aF => exact (fun k_ hk => ⟨Kd.fresh' (Kd.R_lt (by (with_reducible repeat (first | apply Kd.R_alloc | apply Kd.R_drewN | apply Kd.R_drew)); exact HO_5.out)) k_ hk, Kd.fresh' (Kd.R_lt (by (with_reducible repeat (first | apply Kd.R_alloc | apply Kd.R_drewN | apply Kd.R_drew)); exact HO523.out)) k_ hk⟩))
                (case aO => exact (by (with_reducible repeat (first | apply Kd.R_alloc | apply Kd.R_drewN | apply Kd.R_drew)); exact HO_7.out))
                (case aS => exact (below_size (by repeat (first | (with_reducible first | exact HB.out | apply below_alloc | apply pw_below_drewN | apply below_drew1 | refine below_set ?_ GE505.out) | exact HB.out))))
                (case aL => have := LMc28.out; omega)
                intro v525 w32 ho hb hg hat
                rw [← Ny524.out] at ho
                have n0_ := Aside0.mk (Kd.R_after (ok := (fun k_ => some k_ ≠ (.slice Ao33 t521.length co33 : Value).ownBlock)) (by (with_reducible repeat (first | apply Kd.R_alloc | apply Kd.R_drewN | apply Kd.R_drew)); exact Kd.R_mono HO_5.out (fun _ hk => ⟨hk.2, hk.1⟩)) hg hat)
                have n1_ := Aside0.mk (blk_grown (g := gb505) (o := .cells #[.string a0_0, .slice A0_1 l0_1.length c0_1] 24 (0, 0)) (by (with_reducible repeat (first | refine blk_drewN ?_ _ | refine blk_drew ?_ | refine blk_alloc ?_ _)); exact BK505.out) hg (Kd.R_ne HO_7.out BK505.out (by decide)))
                have n2_ := Aside0.mk (Kd.R_after (ok := (fun k_ => some k_ ≠ (.slice (some ad510) t507.length co29 : Value).ownBlock)) (by (with_reducible repeat (first | apply Kd.R_alloc | apply Kd.R_drewN | apply Kd.R_drew)); exact Kd.R_mono HO523.out (fun _ hk => ⟨hk.1.2, hk.2⟩)) hg hat)
                have n3_ := Aside0.mk (hb)
                have n4_ := Aside0.mk (ho)
                clear HO_5
                clear BK505
                clear HO523
                clear HB
                clear HO_7
                have HO_5 := n0_
                have BK505 := n1_
                have HO523 := n2_
                have HB := n3_
                have HO526 := n4_
                clear n0_ n1_ n2_ n3_ n4_
                clear ho hb hg hat
                refine hK.out _ _ ?_
                clear hK K
                refine norm_ (a' := ?_) ?_ ?_
                rotate_left
                ·
                 show Act.put _ (some 73) _ = _
                 simp only [Act.put, List.setIfInBounds_toArray, List.set_cons_zero, List.set_cons_succ, i64_w, i32_w]
                 rfl
                refine pure_ (i := 40) (N := some 7) (v := ?_) (a' := ?_) #[true, true, true, true, true, true, true, true, true, true, true, true, true, true, true, true, true, true, true, true, true, true, true, true, true, true, true, true, true, true, true, true, true, true, true, true, true, true, true, true, true] rfl rfl (any_of HT_.out (by kernel_rfl)) (fun _ _ _ h => h) (Or.inl ⟨by rfl, ?_⟩) ?_ ?_
                rotate_left
                ·
                 intro w'
                 go_simp
                 with_reducible rfl
                rotate_left
                ·
                 simp only [Act.put, List.setIfInBounds_toArray, List.set_cons_zero, List.set_cons_succ, i64_w, i32_w]
                 rfl
                refine done_ (done_of HT_.out (by kernel_rfl)) ?_
                try go_wp2
                go_roundg k1
                case measure => have := HK1.out; omega
                case rel => exact ⟨(y524), (wrap64 (x9_1 + 1)), (by first | rfl | (simp; done) | (simp [*]; done)), H', ⟨by have := HK1.out; omega⟩, ⟨by (with_reducible repeat (first | apply Kd.R_alloc | apply Kd.R_drewN | apply Kd.R_drew)); exact Kd.R_mono HO_5.out (fun _ hk => hk.2)⟩, ⟨by (with_reducible repeat (first | apply Kd.R_alloc | apply Kd.R_drewN | apply Kd.R_drew)); exact Kd.R_mono HO526.out (fun _ hk => hk.1)⟩, ⟨by (with_reducible repeat (first | refine blk_drewN ?_ _ | refine blk_drew ?_ | refine blk_alloc ?_ _)); exact BK505.out⟩, ⟨by repeat (first | (with_reducible first | exact HB.out | apply below_alloc | apply pw_below_drewN | apply below_drew1 | refine below_set ?_ GE505.out) | exact HB.out)⟩⟩
               ·
                rw [if_neg c28] at H
                exact absurd H (by simp)
              ·
               rw [if_neg c26] at H
               exact absurd H (by simp)
             ·
              rw [if_neg c25] at H
              exact absurd H (by simp)
            ·
             rw [if_neg c24] at H
             exact absurd H (by simp)
           ·
            rw [if_neg c23] at H
            exact absurd H (by simp)
          ·
           rw [if_neg c21] at H
           exact absurd H (by simp)
         ·
          rw [if_neg c20] at H
          exact absurd H (by simp)
        ·
         rw [if_neg c19] at H
         exact absurd H (by simp)
       ·
        rw [if_neg c18] at H
        exact absurd H (by simp)
     ·
      rw [if_neg c11] at H
      exact absurd H (by simp)
    ·
     rw [if_neg c10] at H
     have c10b0 : decide (x9_1 < (t507.length : Int)) = false := decide_eq_false c10
     clear c10
     have H' := Aside0.mk H
     clear H
     obtain ⟨Ao34, co34, eo34⟩ := Kd.R_slice HO_5.out
     subst eo34
     go_wp2
     go_loopg [8, 10] k1 (fun kq v8 v10 w' => ∃ (x8_2 : List (S29)) (x10_2 : Int), v10 = .int .i64 x10_2 ∧ Aside0 (glazierlaw05_PercentTells.l1 kq a1 t507 x7_1 x8_2 x10_2 a0_0 l0_1 = some r) ∧ Aside0 (kq ≤ k1) ∧ Aside0 (Kd.R k29 29 w' w.heap.size (fun k_ => some k_ ≠ (u7 : Value).ownBlock ∧ some k_ ≠ (v8 : Value).ownBlock) (.slice Ao34 t507.length co34) t507) ∧ Aside0 (Kd.R k29 29 w' w.heap.size (fun k_ => some k_ ≠ ((.slice Ao34 t507.length co34) : Value).ownBlock ∧ some k_ ≠ (v8 : Value).ownBlock) u7 x7_1) ∧ Aside0 (Kd.R k29 29 w' w.heap.size (fun k_ => some k_ ≠ ((.slice Ao34 t507.length co34) : Value).ownBlock ∧ some k_ ≠ (u7 : Value).ownBlock) v8 x8_2) ∧ Aside0 (w'.heap[gb505]? = some (.cells #[.string a0_0, (.slice A0_1 l0_1.length c0_1)] 24 (0, 0))) ∧ Aside0 (Below w.heap.size w w'))
     case atStart => exact ⟨(([] : List (S29))), (0), (by first | rfl | (simp; done) | (simp [*]; done)), H', ⟨Nat.le_refl _⟩, ⟨by (with_reducible repeat (first | apply Kd.R_alloc | apply Kd.R_drewN | apply Kd.R_drew)); exact Kd.R_mono HO_5.out (fun _ hk => ⟨hk, (by simp [Value.ownBlock])⟩)⟩, ⟨by (with_reducible repeat (first | apply Kd.R_alloc | apply Kd.R_drewN | apply Kd.R_drew)); exact Kd.R_mono HO_7.out (fun _ hk => ⟨hk, (by simp [Value.ownBlock])⟩)⟩, ⟨by first | exact Kd.R_nil _ _ _ _ _ | exact Kd.N_nil _ _ _ _ _ | exact Kd.V_nil _ _ _ _ _ | exact Kd.Q_nil _ _ _ _ _ | exact Kd.S_nil _ _ _ _ _⟩, ⟨by (with_reducible repeat (first | refine blk_drewN ?_ _ | refine blk_drew ?_ | refine blk_alloc ?_ _)); exact BK505.out⟩, ⟨by repeat (first | (with_reducible first | exact HB.out | apply below_alloc | apply pw_below_drewN | apply below_drew1 | refine below_set ?_ GE505.out) | exact HB.out)⟩⟩
     case round =>
      clear H'
      try clear c1
      try clear c2
      try clear p2
      try clear c3
      try clear c5
      try clear p5
      try clear q5
      try clear hx5
      try clear p6
      try clear c10
      try clear c10b0
      try clear c11
      try clear c11b0
      try clear c13
      try clear c14
      try clear c18
      try clear c18b0
      try clear c18b1
      try clear c19
      try clear c19b0
      try clear c19b1
      try clear c20
      try clear c20b0
      try clear c20b1
      try clear c21
      try clear c21b0
      try clear c21b1
      try clear c21b2
      try clear c23
      try clear c23b0
      try clear c23b1
      try clear c24
      try clear c24b0
      try clear c24b1
      try clear c25
      try clear c25b0
      try clear c25b1
      try clear c26
      try clear c26b0
      try clear c26b1
      try clear c26b2
      try clear c28
      try clear c34
      try clear hcz8_0
      try clear hcz8_1
      try clear hfz8_0
      try clear hfz8_1
      try clear hx510_0
      try clear hx510_1
      try clear hx512_0
      try clear hx512_1
      try clear hx516_0
      try clear hx516_1
      try clear hx517_0
      try clear hx517_1
      try clear hx518_0
      try clear hx518_1
      try clear hx519_0
      try clear hx519_1
      try clear hx520_0
      try clear hx520_1
      try clear p510
      try clear p512
      try clear p516
      try clear p517
      try clear p518
      try clear p519
      try clear p520
      try clear q510
      try clear q512
      try clear q516
      try clear q517
      try clear q518
      try clear q519
      try clear q520
      obtain ⟨x8_2, x10_2, rfl, HA, HK2, HO_5, HO_7, HO_8, BK505, HB⟩ := hrel
      cases gk with
      | zero => exact absurd HA.out (by simp [glazierlaw05_PercentTells.l1])
      | succ k2 =>
       have H := HA.out
       clear HA
       simp only [glazierlaw05_PercentTells.l1] at H
       by_cases c35 : x10_2 < (t507.length : Int)
       ·
        rw [if_pos c35] at H
        have c35b0 : decide (x10_2 < (t507.length : Int)) = true := decide_eq_true c35
        clear c35
        have HC36 := Aside0.mk H
        clear H
        go_upto_region 15 with (fail)
        go_cut [112] (fun v112 wc => ∃ (kq : Nat) (x112_35 : Bool), v112 = .bool x112_35 ∧ Aside0 (glazierlaw05_PercentTells.j2 kq a1 t507 x7_1 x8_2 x10_2 x112_35 a0_0 l0_1 = some r) ∧ Aside0 (kq ≤ k2) ∧ Aside0 (Kd.R k29 29 wc w.heap.size (fun k_ => some k_ ≠ (u7 : Value).ownBlock ∧ some k_ ≠ (u8 : Value).ownBlock) (.slice Ao34 t507.length co34) t507) ∧ Aside0 (Kd.R k29 29 wc w.heap.size (fun k_ => some k_ ≠ ((.slice Ao34 t507.length co34) : Value).ownBlock ∧ some k_ ≠ (u8 : Value).ownBlock) u7 x7_1) ∧ Aside0 (Kd.R k29 29 wc w.heap.size (fun k_ => some k_ ≠ ((.slice Ao34 t507.length co34) : Value).ownBlock ∧ some k_ ≠ (u7 : Value).ownBlock) u8 x8_2) ∧ Aside0 (wc.heap[gb505]? = some (.cells #[.string a0_0, (.slice A0_1 l0_1.length c0_1)] 24 (0, 0))) ∧ Aside0 (Below w.heap.size w wc))
        case first =>
         have H := HC36.out
         clear HC36
         by_cases c37 : 0 ≤ x10_2
         ·
          rw [if_pos c37] at H
          have c37b0 : decide (0 ≤ x10_2) = true := decide_eq_true c37
          clear c37
          (first | rw [c37b0] | (simp only [i64_w, i32_w]; rw [c37b0]) | skip)
          by_cases c38 : ((rd_T29 t507 x10_2).f0) = 37
          ·
           rw [if_pos c38] at H
           have c38b0 : (((rd_T29 t507 x10_2).f0) == 37) = true := beq_iff_eq.mpr c38
           have c38b1 : (((rd_T29 t507 x10_2).f0) != 37) = false := bne_eq_false_iff_eq.mpr c38
           clear c38
           by_cases c39 : (wrap64 (x10_2 + 2)) < (t507.length : Int)
           ·
            rw [if_pos c39] at H
            have c39b0 : decide ((wrap64 (x10_2 + 2)) < (t507.length : Int)) = true := decide_eq_true c39
            clear c39
            obtain ⟨ji40, hji40⟩ : ∃ j_ : Int, (wrap64 (x10_2 + 1)) = j_ := ⟨_, rfl⟩
            replace H : (if 0 ≤ (ji40) then (if (ji40) < (t507.length : Int) then ((glazierlaw05_hex.f k2 ((rd_T29 t507 (ji40)).f0)).bind fun t529 => (if t529 ≥ 0 then (if 0 ≤ (wrap64 (x10_2 + 2)) then ((glazierlaw05_hex.f k2 ((rd_T29 t507 (wrap64 (x10_2 + 2))).f0)).bind fun t531 => (glazierlaw05_PercentTells.j2 k2 a1 t507 x7_1 x8_2 x10_2 (decide (t531 ≥ 0)) a0_0 l0_1)) else (none)) else (glazierlaw05_PercentTells.j2 k2 a1 t507 x7_1 x8_2 x10_2 false a0_0 l0_1))) else (none)) else (none)) = some r := by first | (rw [hji40] at H; exact H) | (simp only [hji40] at H ⊢; exact H)
            have hji40w : (IntKind.i64.wrap (x10_2 + 1)) = ji40 := (i64_w _).trans hji40
            by_cases c41 : 0 ≤ (ji40)
            ·
             rw [if_pos c41] at H
             have c41b0 : decide (0 ≤ (ji40)) = true := decide_eq_true c41
             clear c41
             by_cases c42 : (ji40) < (t507.length : Int)
             ·
              rw [if_pos c42] at H
              have c42b0 : decide ((ji40) < (t507.length : Int)) = true := decide_eq_true c42
              clear c42
              replace H := Option.bind_eq_some_iff.mp H
              obtain ⟨t529, A430, H⟩ := H
              replace H : (if t529 ≥ 0 then (if 0 ≤ (wrap64 (x10_2 + 2)) then ((glazierlaw05_hex.f k2 ((rd_T29 t507 (wrap64 (x10_2 + 2))).f0)).bind fun t531 => (glazierlaw05_PercentTells.j2 k2 a1 t507 x7_1 x8_2 x10_2 (decide (t531 ≥ 0)) a0_0 l0_1)) else (none)) else (glazierlaw05_PercentTells.j2 k2 a1 t507 x7_1 x8_2 x10_2 false a0_0 l0_1)) = some r := H
              have A43 := Aside0.mk A430
              clear A430
              by_cases c44 : t529 ≥ 0
              ·
               rw [if_pos c44] at H
               have c44b0 : decide (0 ≤ t529) = true := decide_eq_true c44
               clear c44
               obtain ⟨ji45, hji45⟩ : ∃ j_ : Int, (wrap64 (x10_2 + 2)) = j_ := ⟨_, rfl⟩
               replace H : (if 0 ≤ (ji45) then ((glazierlaw05_hex.f k2 ((rd_T29 t507 (ji45)).f0)).bind fun t531 => (glazierlaw05_PercentTells.j2 k2 a1 t507 x7_1 x8_2 x10_2 (decide (t531 ≥ 0)) a0_0 l0_1)) else (none)) = some r := by first | (rw [hji45] at H; exact H) | (simp only [hji45] at H ⊢; exact H)
               (try rw [hji45] at c39b0)
               (try rw [hji45] at A43)
               have hji45w : (IntKind.i64.wrap (x10_2 + 2)) = ji45 := (i64_w _).trans hji45
               by_cases c46 : 0 ≤ (ji45)
               ·
                rw [if_pos c46] at H
                have c46b0 : decide (0 ≤ (ji45)) = true := decide_eq_true c46
                clear c46
                replace H := Option.bind_eq_some_iff.mp H
                obtain ⟨t531, A470, H⟩ := H
                replace H : (glazierlaw05_PercentTells.j2 k2 a1 t507 x7_1 x8_2 x10_2 (decide (t531 ≥ 0)) a0_0 l0_1) = some r := H
                have A47 := Aside0.mk A470
                clear A470
                have H' := Aside0.mk H
                clear H
                have p527 : 0 ≤ (x10_2 : Int) := of_decide_eq_true (by first | (with_reducible assumption) | assumption)
                have q527 : x10_2 < (t507.length : Int) := of_decide_eq_true (by first | (with_reducible assumption) | assumption)
                obtain ⟨ad527, e527, hx527_0, hx527_1⟩ := at_T29 (Kd.R_reads' HO_5.out).2.2 x10_2 p527 q527
                cases e527
                replace p527 := eq_true p527
                replace q527 := eq_true q527
                have p528 : 0 ≤ ((ji40) : Int) := of_decide_eq_true (by first | (with_reducible assumption) | assumption)
                have q528 : (ji40) < (t507.length : Int) := of_decide_eq_true (by first | (with_reducible assumption) | assumption)
                obtain ⟨ad528, e528, hx528_0, hx528_1⟩ := at_T29 (Kd.R_reads' HO_5.out).2.2 (ji40) p528 q528
                obtain rfl : ad527 = ad528 := (by injection e528)
                replace p528 := eq_true p528
                replace q528 := eq_true q528
                go_wp2_with (first | (go_at_call 36; (with_reducible refine (glazierlaw05_hex.calls k2 ((rd_T29 t507 (ji40)).f0) t529 _ A43.out).mono ?_); rintro e w' ⟨rfl, ⟨nd, rfl⟩⟩; have p530 : 0 ≤ ((ji45) : Int) := of_decide_eq_true (by first | (with_reducible assumption) | assumption); have q530 : (ji45) < (t507.length : Int) := of_decide_eq_true (by first | (with_reducible assumption) | assumption); obtain ⟨ad530, e530, hx530_0, hx530_1⟩ := at_T29 (Kd.R_reads' HO_5.out).2.2 (ji45) p530 q530; obtain rfl : ad527 = ad530 := (by injection e530); replace p530 := eq_true p530; replace q530 := eq_true q530) | (go_at_call 36; (with_reducible refine (glazierlaw05_hex.calls k2 ((rd_T29 t507 (ji45)).f0) t531 _ A47.out).mono ?_); rintro e w' ⟨rfl, ⟨nd, rfl⟩⟩))
                go_meet
                case rel => exact ⟨_, (decide (t531 ≥ 0)), (by first | rfl | (simp; done) | (simp [*]; done)), H', ⟨by have := HK1.out; have := HK2.out; first | omega | exact Nat.le_refl _⟩, ⟨by (with_reducible repeat (first | apply Kd.R_alloc | apply Kd.R_drewN | apply Kd.R_drew)); exact HO_5.out⟩, ⟨by (with_reducible repeat (first | apply Kd.R_alloc | apply Kd.R_drewN | apply Kd.R_drew)); exact HO_7.out⟩, ⟨by (with_reducible repeat (first | apply Kd.R_alloc | apply Kd.R_drewN | apply Kd.R_drew)); exact HO_8.out⟩, ⟨by (with_reducible repeat (first | refine blk_drewN ?_ _ | refine blk_drew ?_ | refine blk_alloc ?_ _)); exact BK505.out⟩, ⟨by repeat (first | (with_reducible first | exact HB.out | apply below_alloc | apply pw_below_drewN | apply below_drew1 | refine below_set ?_ GE505.out) | exact HB.out)⟩⟩
               ·
                rw [if_neg c46] at H
                exact absurd H (by simp)
              ·
               rw [if_neg c44] at H
               have c44b0 : decide (0 ≤ t529) = false := decide_eq_false c44
               clear c44
               have H' := Aside0.mk H
               clear H
               have p527 : 0 ≤ (x10_2 : Int) := of_decide_eq_true (by first | (with_reducible assumption) | assumption)
               have q527 : x10_2 < (t507.length : Int) := of_decide_eq_true (by first | (with_reducible assumption) | assumption)
               obtain ⟨ad527, e527, hx527_0, hx527_1⟩ := at_T29 (Kd.R_reads' HO_5.out).2.2 x10_2 p527 q527
               cases e527
               replace p527 := eq_true p527
               replace q527 := eq_true q527
               have p528 : 0 ≤ ((ji40) : Int) := of_decide_eq_true (by first | (with_reducible assumption) | assumption)
               have q528 : (ji40) < (t507.length : Int) := of_decide_eq_true (by first | (with_reducible assumption) | assumption)
               obtain ⟨ad528, e528, hx528_0, hx528_1⟩ := at_T29 (Kd.R_reads' HO_5.out).2.2 (ji40) p528 q528
               obtain rfl : ad527 = ad528 := (by injection e528)
               replace p528 := eq_true p528
               replace q528 := eq_true q528
               go_wp2_with (first | (go_at_call 36; (with_reducible refine (glazierlaw05_hex.calls k2 ((rd_T29 t507 (ji40)).f0) t529 _ A43.out).mono ?_); rintro e w' ⟨rfl, ⟨nd, rfl⟩⟩))
               go_meet
               case rel => exact ⟨_, (false), (by first | rfl | (simp; done) | (simp [*]; done)), H', ⟨by have := HK1.out; have := HK2.out; first | omega | exact Nat.le_refl _⟩, ⟨by (with_reducible repeat (first | apply Kd.R_alloc | apply Kd.R_drewN | apply Kd.R_drew)); exact HO_5.out⟩, ⟨by (with_reducible repeat (first | apply Kd.R_alloc | apply Kd.R_drewN | apply Kd.R_drew)); exact HO_7.out⟩, ⟨by (with_reducible repeat (first | apply Kd.R_alloc | apply Kd.R_drewN | apply Kd.R_drew)); exact HO_8.out⟩, ⟨by (with_reducible repeat (first | refine blk_drewN ?_ _ | refine blk_drew ?_ | refine blk_alloc ?_ _)); exact BK505.out⟩, ⟨by repeat (first | (with_reducible first | exact HB.out | apply below_alloc | apply pw_below_drewN | apply below_drew1 | refine below_set ?_ GE505.out) | exact HB.out)⟩⟩
             ·
              rw [if_neg c42] at H
              exact absurd H (by simp)
            ·
             rw [if_neg c41] at H
             exact absurd H (by simp)
           ·
            rw [if_neg c39] at H
            have c39b0 : decide ((wrap64 (x10_2 + 2)) < (t507.length : Int)) = false := decide_eq_false c39
            clear c39
            have H' := Aside0.mk H
            clear H
            have p527 : 0 ≤ (x10_2 : Int) := of_decide_eq_true (by first | (with_reducible assumption) | assumption)
            have q527 : x10_2 < (t507.length : Int) := of_decide_eq_true (by first | (with_reducible assumption) | assumption)
            obtain ⟨ad527, e527, hx527_0, hx527_1⟩ := at_T29 (Kd.R_reads' HO_5.out).2.2 x10_2 p527 q527
            cases e527
            replace p527 := eq_true p527
            replace q527 := eq_true q527
            go_wp2
            go_meet
            case rel => exact ⟨_, (false), (by first | rfl | (simp; done) | (simp [*]; done)), H', ⟨by have := HK1.out; have := HK2.out; first | omega | exact Nat.le_refl _⟩, ⟨by (with_reducible repeat (first | apply Kd.R_alloc | apply Kd.R_drewN | apply Kd.R_drew)); exact HO_5.out⟩, ⟨by (with_reducible repeat (first | apply Kd.R_alloc | apply Kd.R_drewN | apply Kd.R_drew)); exact HO_7.out⟩, ⟨by (with_reducible repeat (first | apply Kd.R_alloc | apply Kd.R_drewN | apply Kd.R_drew)); exact HO_8.out⟩, ⟨by (with_reducible repeat (first | refine blk_drewN ?_ _ | refine blk_drew ?_ | refine blk_alloc ?_ _)); exact BK505.out⟩, ⟨by repeat (first | (with_reducible first | exact HB.out | apply below_alloc | apply pw_below_drewN | apply below_drew1 | refine below_set ?_ GE505.out) | exact HB.out)⟩⟩
          ·
           rw [if_neg c38] at H
           have c38b0 : (((rd_T29 t507 x10_2).f0) == 37) = false := beq_eq_false_iff_ne.mpr c38
           have c38b1 : (((rd_T29 t507 x10_2).f0) != 37) = true := bne_iff_ne.mpr c38
           have H' := Aside0.mk H
           clear H
           have p527 : 0 ≤ (x10_2 : Int) := of_decide_eq_true (by first | (with_reducible assumption) | assumption)
           have q527 : x10_2 < (t507.length : Int) := of_decide_eq_true (by first | (with_reducible assumption) | assumption)
           obtain ⟨ad527, e527, hx527_0, hx527_1⟩ := at_T29 (Kd.R_reads' HO_5.out).2.2 x10_2 p527 q527
           cases e527
           replace p527 := eq_true p527
           replace q527 := eq_true q527
           go_wp2
           go_meet
           case rel => exact ⟨_, (false), (by first | rfl | (simp; done) | (simp [*]; done)), H', ⟨by have := HK1.out; have := HK2.out; first | omega | exact Nat.le_refl _⟩, ⟨by (with_reducible repeat (first | apply Kd.R_alloc | apply Kd.R_drewN | apply Kd.R_drew)); exact HO_5.out⟩, ⟨by (with_reducible repeat (first | apply Kd.R_alloc | apply Kd.R_drewN | apply Kd.R_drew)); exact HO_7.out⟩, ⟨by (with_reducible repeat (first | apply Kd.R_alloc | apply Kd.R_drewN | apply Kd.R_drew)); exact HO_8.out⟩, ⟨by (with_reducible repeat (first | refine blk_drewN ?_ _ | refine blk_drew ?_ | refine blk_alloc ?_ _)); exact BK505.out⟩, ⟨by repeat (first | (with_reducible first | exact HB.out | apply below_alloc | apply pw_below_drewN | apply below_drew1 | refine below_set ?_ GE505.out) | exact HB.out)⟩⟩
         ·
          rw [if_neg c37] at H
          exact absurd H (by simp)
        case rest =>
         clear HC36
         try clear c1
         try clear c2
         try clear p2
         try clear c3
         try clear c4
         try clear c5
         try clear p5
         try clear q5
         try clear hx5
         try clear p6
         try clear c10
         try clear c10b0
         try clear c11
         try clear c11b0
         try clear c13
         try clear c14
         try clear c18
         try clear c18b0
         try clear c18b1
         try clear c19
         try clear c19b0
         try clear c19b1
         try clear c20
         try clear c20b0
         try clear c20b1
         try clear c21
         try clear c21b0
         try clear c21b1
         try clear c21b2
         try clear c23
         try clear c23b0
         try clear c23b1
         try clear c24
         try clear c24b0
         try clear c24b1
         try clear c25
         try clear c25b0
         try clear c25b1
         try clear c26
         try clear c26b0
         try clear c26b1
         try clear c26b2
         try clear c28
         try clear c34
         try clear c35
         try clear c35b0
         try clear c37
         try clear c37b0
         try clear c38
         try clear c38b0
         try clear c38b1
         try clear c39
         try clear c39b0
         try clear c41
         try clear c41b0
         try clear c42
         try clear c42b0
         try clear c44
         try clear c44b0
         try clear c46
         try clear c46b0
         try clear hcz8_0
         try clear hcz8_1
         try clear hfz8_0
         try clear hfz8_1
         try clear hx510_0
         try clear hx510_1
         try clear hx512_0
         try clear hx512_1
         try clear hx516_0
         try clear hx516_1
         try clear hx517_0
         try clear hx517_1
         try clear hx518_0
         try clear hx518_1
         try clear hx519_0
         try clear hx519_1
         try clear hx520_0
         try clear hx520_1
         try clear hx527_0
         try clear hx527_1
         try clear hx528_0
         try clear hx528_1
         try clear hx530_0
         try clear hx530_1
         try clear p2
         try clear p5
         try clear p510
         try clear p512
         try clear p516
         try clear p517
         try clear p518
         try clear p519
         try clear p520
         try clear p527
         try clear p528
         try clear p530
         try clear p6
         try clear q5
         try clear q510
         try clear q512
         try clear q516
         try clear q517
         try clear q518
         try clear q519
         try clear q520
         try clear q527
         try clear q528
         try clear q530
         obtain ⟨kq, x112_35, rfl, HA, HJ35, HO_5, HO_7, HO_8, BK505, HB⟩ := hcut
         cases kq with
         | zero => exact absurd HA.out (by simp [glazierlaw05_PercentTells.j2])
         | succ kj35 =>
          have H := HA.out
          clear HA
          simp only [glazierlaw05_PercentTells.j2] at H
          by_cases c48 : x112_35 = true
          ·
           subst c48
           have H1 : (if 0 ≤ (wrap64 (x10_2 + 1)) then (if (wrap64 (x10_2 + 1)) < (t507.length : Int) then ((glazierlaw05_hex.f kj35 ((rd_T29 t507 (wrap64 (x10_2 + 1))).f0)).bind fun t533 => (if 0 ≤ (wrap64 (x10_2 + 2)) then (if (wrap64 (x10_2 + 2)) < (t507.length : Int) then ((glazierlaw05_hex.f kj35 ((rd_T29 t507 (wrap64 (x10_2 + 2))).f0)).bind fun t535 => (if 0 ≤ x10_2 then (if x10_2 ≤ (wrap64 (x10_2 + 3)) then (if (wrap64 (x10_2 + 3)) ≤ (t507.length : Int) then ((glazierref01_Worst.f kj35 ((t507.take ((wrap64 (x10_2 + 3)) : Int).toNat).drop (x10_2 : Int).toNat)).bind fun t540 => (if x8_2.length < 8796093022208 then (glazierlaw05_PercentTells.l1 kj35 a1 t507 x7_1 (x8_2 ++ [(⟨(wrap64 ((wrap64 (16 * t533)) + t535)) % 256, t540⟩ : S29)]) (wrap64 ((wrap64 (x10_2 + 2)) + 1)) a0_0 l0_1) else (none))) else (none)) else (none)) else (none))) else (none)) else (none))) else (none)) else (none)) = some r := by rw [if_pos rfl] at H; exact H
           clear H
           have H := H1
           clear H1
           obtain ⟨ji49, hji49⟩ : ∃ j_ : Int, (wrap64 (x10_2 + 1)) = j_ := ⟨_, rfl⟩
           replace H : (if 0 ≤ (ji49) then (if (ji49) < (t507.length : Int) then ((glazierlaw05_hex.f kj35 ((rd_T29 t507 (ji49)).f0)).bind fun t533 => (if 0 ≤ (wrap64 (x10_2 + 2)) then (if (wrap64 (x10_2 + 2)) < (t507.length : Int) then ((glazierlaw05_hex.f kj35 ((rd_T29 t507 (wrap64 (x10_2 + 2))).f0)).bind fun t535 => (if 0 ≤ x10_2 then (if x10_2 ≤ (wrap64 (x10_2 + 3)) then (if (wrap64 (x10_2 + 3)) ≤ (t507.length : Int) then ((glazierref01_Worst.f kj35 ((t507.take ((wrap64 (x10_2 + 3)) : Int).toNat).drop (x10_2 : Int).toNat)).bind fun t540 => (if x8_2.length < 8796093022208 then (glazierlaw05_PercentTells.l1 kj35 a1 t507 x7_1 (x8_2 ++ [(⟨(wrap64 ((wrap64 (16 * t533)) + t535)) % 256, t540⟩ : S29)]) (wrap64 ((wrap64 (x10_2 + 2)) + 1)) a0_0 l0_1) else (none))) else (none)) else (none)) else (none))) else (none)) else (none))) else (none)) else (none)) = some r := by first | (rw [hji49] at H; exact H) | (simp only [hji49] at H ⊢; exact H)
           have hji49w : (IntKind.i64.wrap (x10_2 + 1)) = ji49 := (i64_w _).trans hji49
           by_cases c50 : 0 ≤ (ji49)
           ·
            rw [if_pos c50] at H
            have c50b0 : decide (0 ≤ (ji49)) = true := decide_eq_true c50
            clear c50
            by_cases c51 : (ji49) < (t507.length : Int)
            ·
             rw [if_pos c51] at H
             have c51b0 : decide ((ji49) < (t507.length : Int)) = true := decide_eq_true c51
             clear c51
             replace H := Option.bind_eq_some_iff.mp H
             obtain ⟨t533, A520, H⟩ := H
             replace H : (if 0 ≤ (wrap64 (x10_2 + 2)) then (if (wrap64 (x10_2 + 2)) < (t507.length : Int) then ((glazierlaw05_hex.f kj35 ((rd_T29 t507 (wrap64 (x10_2 + 2))).f0)).bind fun t535 => (if 0 ≤ x10_2 then (if x10_2 ≤ (wrap64 (x10_2 + 3)) then (if (wrap64 (x10_2 + 3)) ≤ (t507.length : Int) then ((glazierref01_Worst.f kj35 ((t507.take ((wrap64 (x10_2 + 3)) : Int).toNat).drop (x10_2 : Int).toNat)).bind fun t540 => (if x8_2.length < 8796093022208 then (glazierlaw05_PercentTells.l1 kj35 a1 t507 x7_1 (x8_2 ++ [(⟨(wrap64 ((wrap64 (16 * t533)) + t535)) % 256, t540⟩ : S29)]) (wrap64 ((wrap64 (x10_2 + 2)) + 1)) a0_0 l0_1) else (none))) else (none)) else (none)) else (none))) else (none)) else (none)) = some r := H
             have A52 := Aside0.mk A520
             clear A520
             obtain ⟨ji53, hji53⟩ : ∃ j_ : Int, (wrap64 (x10_2 + 2)) = j_ := ⟨_, rfl⟩
             replace H : (if 0 ≤ (ji53) then (if (ji53) < (t507.length : Int) then ((glazierlaw05_hex.f kj35 ((rd_T29 t507 (ji53)).f0)).bind fun t535 => (if 0 ≤ x10_2 then (if x10_2 ≤ (wrap64 (x10_2 + 3)) then (if (wrap64 (x10_2 + 3)) ≤ (t507.length : Int) then ((glazierref01_Worst.f kj35 ((t507.take ((wrap64 (x10_2 + 3)) : Int).toNat).drop (x10_2 : Int).toNat)).bind fun t540 => (if x8_2.length < 8796093022208 then (glazierlaw05_PercentTells.l1 kj35 a1 t507 x7_1 (x8_2 ++ [(⟨(wrap64 ((wrap64 (16 * t533)) + t535)) % 256, t540⟩ : S29)]) (wrap64 ((ji53) + 1)) a0_0 l0_1) else (none))) else (none)) else (none)) else (none))) else (none)) else (none)) = some r := by first | (rw [hji53] at H; exact H) | (simp only [hji53] at H ⊢; exact H)
             (try rw [hji53] at A52)
             have hji53w : (IntKind.i64.wrap (x10_2 + 2)) = ji53 := (i64_w _).trans hji53
             by_cases c54 : 0 ≤ (ji53)
             ·
              rw [if_pos c54] at H
              have c54b0 : decide (0 ≤ (ji53)) = true := decide_eq_true c54
              clear c54
              by_cases c55 : (ji53) < (t507.length : Int)
              ·
               rw [if_pos c55] at H
               have c55b0 : decide ((ji53) < (t507.length : Int)) = true := decide_eq_true c55
               clear c55
               replace H := Option.bind_eq_some_iff.mp H
               obtain ⟨t535, A560, H⟩ := H
               replace H : (if 0 ≤ x10_2 then (if x10_2 ≤ (wrap64 (x10_2 + 3)) then (if (wrap64 (x10_2 + 3)) ≤ (t507.length : Int) then ((glazierref01_Worst.f kj35 ((t507.take ((wrap64 (x10_2 + 3)) : Int).toNat).drop (x10_2 : Int).toNat)).bind fun t540 => (if x8_2.length < 8796093022208 then (glazierlaw05_PercentTells.l1 kj35 a1 t507 x7_1 (x8_2 ++ [(⟨(wrap64 ((wrap64 (16 * t533)) + t535)) % 256, t540⟩ : S29)]) (wrap64 ((ji53) + 1)) a0_0 l0_1) else (none))) else (none)) else (none)) else (none)) = some r := H
               have A56 := Aside0.mk A560
               clear A560
               by_cases c57 : 0 ≤ x10_2
               ·
                rw [if_pos c57] at H
                have c57b0 := eq_true c57
                have c57b1 : decide (0 ≤ x10_2) = true := decide_eq_true c57
                clear c57
                by_cases c58 : x10_2 ≤ (wrap64 (x10_2 + 3))
                ·
                 rw [if_pos c58] at H
                 have c58b0 := eq_true c58
                 have c58b1 : decide (x10_2 ≤ (wrap64 (x10_2 + 3))) = true := decide_eq_true c58
                 by_cases c59 : (wrap64 (x10_2 + 3)) ≤ (t507.length : Int)
                 ·
                  rw [if_pos c59] at H
                  have c59b0 := eq_true c59
                  have c59b1 : decide ((wrap64 (x10_2 + 3)) ≤ (t507.length : Int)) = true := decide_eq_true c59
                  obtain ⟨y536, hy536⟩ : ∃ y_ : List (S29), y_ = ((t507.take ((wrap64 (x10_2 + 3)) : Int).toNat).drop (x10_2 : Int).toNat) := ⟨_, rfl⟩
                  replace H : ((glazierref01_Worst.f kj35 y536).bind fun t540 => (if x8_2.length < 8796093022208 then (glazierlaw05_PercentTells.l1 kj35 a1 t507 x7_1 (x8_2 ++ [(⟨(wrap64 ((wrap64 (16 * t533)) + t535)) % 256, t540⟩ : S29)]) (wrap64 ((ji53) + 1)) a0_0 l0_1) else (none))) = some r := by first | (rw [hy536]; with_reducible exact H) | (have H2_ := (Option.bind_some _ _).symm.trans H; rw [hy536]; with_reducible exact H2_) | (have H2_ := (Option.bind_some _ _).symm.trans H; with_reducible exact H2_) | with_reducible exact H | (rw [hy536]; exact H) | exact H
                  have Ny536 := Aside0.mk hy536
                  clear hy536
                  replace H := Option.bind_eq_some_iff.mp H
                  obtain ⟨t540, A600, H⟩ := H
                  replace H : (if x8_2.length < 8796093022208 then (glazierlaw05_PercentTells.l1 kj35 a1 t507 x7_1 (x8_2 ++ [(⟨(wrap64 ((wrap64 (16 * t533)) + t535)) % 256, t540⟩ : S29)]) (wrap64 ((ji53) + 1)) a0_0 l0_1) else (none)) = some r := H
                  have A60 := Aside0.mk A600
                  clear A600
                  by_cases c61 : x8_2.length < 8796093022208
                  ·
                   rw [if_pos c61] at H
                   have LMc61 := Aside0.mk c61
                   clear c61
                   obtain ⟨y541, hy541⟩ : ∃ y_ : List (S29), y_ = (x8_2 ++ [(⟨(wrap64 ((wrap64 (16 * t533)) + t535)) % 256, t540⟩ : S29)]) := ⟨_, rfl⟩
                   replace H : (glazierlaw05_PercentTells.l1 kj35 a1 t507 x7_1 y541 (wrap64 ((ji53) + 1)) a0_0 l0_1) = some r := by first | (rw [hy541]; with_reducible exact H) | (have H2_ := (Option.bind_some _ _).symm.trans H; rw [hy541]; with_reducible exact H2_) | (have H2_ := (Option.bind_some _ _).symm.trans H; with_reducible exact H2_) | with_reducible exact H | (rw [hy541]; exact H) | exact H
                   have Ny541 := Aside0.mk hy541
                   clear hy541
                   have H' := Aside0.mk H
                   clear H
                   try go_wp2
                   have n0_ := Aside0.mk (Kd.R_drew HO_5.out)
                   have n1_ := Aside0.mk (Kd.R_drew HO_7.out)
                   have n2_ := Aside0.mk (Kd.R_drew HO_8.out)
                   have n3_ := Aside0.mk (blk_drew BK505.out)
                   have n4_ := Aside0.mk (below_drew1 HB.out)
                   clear HO_5
                   clear HO_7
                   clear HO_8
                   clear BK505
                   clear HB
                   have HO_5 := n0_
                   have HO_7 := n1_
                   have HO_8 := n2_
                   have BK505 := n3_
                   have HB := n4_
                   clear n0_ n1_ n2_ n3_ n4_
                   have p532 : 0 ≤ ((ji49) : Int) := of_decide_eq_true (by first | (with_reducible assumption) | assumption)
                   have q532 : (ji49) < (t507.length : Int) := of_decide_eq_true (by first | (with_reducible assumption) | assumption)
                   obtain ⟨ad532, e532, hx532_0, hx532_1⟩ := at_T29 (Kd.R_reads' HO_5.out).2.2 (ji49) p532 q532
                   cases e532
                   replace p532 := eq_true p532
                   replace q532 := eq_true q532
                   have p534 : 0 ≤ ((ji53) : Int) := of_decide_eq_true (by first | (with_reducible assumption) | assumption)
                   have q534 : (ji53) < (t507.length : Int) := of_decide_eq_true (by first | (with_reducible assumption) | assumption)
                   obtain ⟨ad534, e534, hx534_0, hx534_1⟩ := at_T29 (Kd.R_reads' HO_5.out).2.2 (ji53) p534 q534
                   obtain rfl : ad532 = ad534 := (by injection e534)
                   replace p534 := eq_true p534
                   replace q534 := eq_true q534
                   have q63 : ((wrap64 (x10_2 + 3)) : Int) ≤ ((t507.length : Int) : Int) := of_decide_eq_true (by first | (with_reducible assumption) | assumption)
                   obtain ⟨i063, hi063, _, hsz63, _⟩ := info_parts info29
                   have hroom63 : t507.length ≤ co34 := (Kd.R_reads' HO_5.out).2.1
                   have hC63 : Kd.C k29 _ (some ad532) t507.length t507 := (Kd.R_reads' HO_5.out).2.2
                   have ql63 : (x10_2 : Int) ≤ ((wrap64 (x10_2 + 3)) : Int) := of_decide_eq_true (by first | (with_reducible assumption) | assumption)
                   have q063 : (0 : Int) ≤ (x10_2 : Int) := of_decide_eq_true (by first | (with_reducible assumption) | assumption)
                   have hcut63 := cut_mid (P := Try.prog) 26 29 .i64 .i64 Try.underlying26 hi063 2 hsz63 (some ad532) t507.length co34 x10_2 (wrap64 (x10_2 + 3)) q063 ql63 q63 hroom63
                   have hr63 := Kd.C_mid (lo := (x10_2 : Int).toNat) (hi := ((wrap64 (x10_2 + 3)) : Int).toNat) (c := co34) hC63 (by omega) (by omega) hroom63
                   obtain ⟨A63, hA63⟩ : ∃ A1, A1 = (if co34 = (x10_2 : Int).toNat then (some ad532) else ((some ad532) : Option Addr).map (·.add ((x10_2 : Int).toNat * 2))) := ⟨_, rfl⟩
                   obtain ⟨c63, hc63⟩ : ∃ c1, c1 = co34 - (x10_2 : Int).toNat := ⟨_, rfl⟩
                   have hy63 : y536.length = ((wrap64 (x10_2 + 3)) : Int).toNat - (x10_2 : Int).toNat := (by rw [Ny536.out, List.length_drop, List.length_take] <;> omega)
                   rw [show ((t507).take ((wrap64 (x10_2 + 3)) : Int).toNat).drop (x10_2 : Int).toNat = y536 from Ny536.out.symm] at hr63
                   replace hr63 : Kd.C k29 _ A63 y536.length y536 := (by rw [hA63]; exact hr63)
                   rw [← hy63, ← hA63, ← hc63] at hcut63
                   (try simp only [← hy63, ← hA63, ← hc63])
                   have HR539 := Aside0.mk hr63
                   have HC539 := Aside0.mk (show y536.length ≤ c63 from by rw [hy63, hc63]; exact Nat.sub_le_sub_right (Nat.le_trans (by omega) hroom63) _)
                   clear hr63 hC63 hroom63 hi063 hsz63 hc63
                   have KY63 := Aside0.mk hy63
                   have KA63 := Aside0.mk hA63
                   clear hy63 hA63
                   have KL63 := Aside0.mk (show ((wrap64 (x10_2 + 3)) : Int).toNat ≤ t507.length from by omega)
                   have KM63 := Aside0.mk (show (x10_2 : Int).toNat ≤ ((wrap64 (x10_2 + 3)) : Int).toNat from by omega)
                   replace q63 := eq_true q63
                   refine start_ (n := 28) (S := fun w' => w'.cell? (ad532.add (((ji49)).toNat * 2)) = some (.int .u8 ((rd_T29 t507 (ji49)).f0)) ∧ w'.cell? ⟨(ad532.add (((ji49)).toNat * 2)).block, (ad532.add (((ji49)).toNat * 2)).off + 1, none⟩ = some (.int .i64 ((rd_T29 t507 (ji49)).f1)) ∧ w'.cell? (ad532.add (((ji53)).toNat * 2)) = some (.int .u8 ((rd_T29 t507 (ji53)).f0)) ∧ w'.cell? ⟨(ad532.add (((ji53)).toNat * 2)).block, (ad532.add (((ji53)).toNat * 2)).off + 1, none⟩ = some (.int .i64 ((rd_T29 t507 (ji53)).f1))) (ds := [25, 26]) #[false, false, false, false, false, false, false, false, false, false, false, false, false, false, false, false, false, false, false, false, false, false, false, false, false, false, false, false] (by kernel_rfl) rfl rfl ⟨hx532_0, hx532_1, hx534_0, hx534_1⟩ (fun hHeld => ?_); refine with_tabW glazierlaw05_PercentTells.tab16 glazierlaw05_PercentTells.bits16 (fun HT_ HW_ => ?_)
                   generalize wc.drew = w62 at HO_5 HO_7 HO_8 BK505 HB HR539 hx532_0 hx532_1 hx534_0 hx534_1 hHeld ⊢
                   refine pure_ (i := 0) (N := some 113) (v := ?_) (a' := ?_) #[true, false, false, false, false, false, false, false, false, false, false, false, false, false, false, false, false, false, false, false, false, false, false, false, false, false, false, false] rfl rfl (any_of HT_.out (by kernel_rfl)) (fun _ _ _ h => h) (Or.inl ⟨by rfl, ?_⟩) ?_ ?_
                   rotate_left
                   ·
                    intro w'
                    go_simp
                    with_reducible rfl
                   rotate_left
                   ·
                    simp only [Act.put, List.setIfInBounds_toArray, List.set_cons_zero, List.set_cons_succ, i64_w, i32_w]
                    rfl
                   refine pure_ (i := 1) (N := some 114) (v := ?_) (a' := ?_) #[true, true, false, false, false, false, false, false, false, false, false, false, false, false, false, false, false, false, false, false, false, false, false, false, false, false, false, false] rfl rfl (any_of HT_.out (by kernel_rfl)) (fun _ _ _ h => h) (Or.inl ⟨by rfl, ?_⟩) ?_ ?_
                   rotate_left
                   ·
                    intro w'
                    go_simp
                    with_reducible rfl
                   rotate_left
                   ·
                    simp only [Act.put, List.setIfInBounds_toArray, List.set_cons_zero, List.set_cons_succ, i64_w, i32_w]
                    rfl
                   refine pure_ (i := 2) (N := some 115) (v := ?_) (a' := ?_) #[true, true, true, false, false, false, false, false, false, false, false, false, false, false, false, false, false, false, false, false, false, false, false, false, false, false, false, false] rfl rfl (any_of HT_.out (by kernel_rfl)) (fun _ _ _ h => h) (Or.inl ⟨by rfl, ?_⟩) ?_ ?_
                   rotate_left
                   ·
                    intro w'
                    go_simp
                    with_reducible rfl
                   rotate_left
                   ·
                    simp only [Act.put, List.setIfInBounds_toArray, List.set_cons_zero, List.set_cons_succ, i64_w, i32_w]
                    rfl
                   refine pure_ (i := 3) (N := some 116) (v := ?_) (a' := ?_) #[true, true, true, true, false, false, false, false, false, false, false, false, false, false, false, false, false, false, false, false, false, false, false, false, false, false, false, false] rfl rfl (any_of HT_.out (by kernel_rfl)) (fun _ _ _ h => h) (Or.inl ⟨by rfl, ?_⟩) ?_ ?_
                   rotate_left
                   ·
                    intro w'
                    go_simp
                    with_reducible rfl
                   rotate_left
                   ·
                    simp only [Act.put, List.setIfInBounds_toArray, List.set_cons_zero, List.set_cons_succ, i64_w, i32_w]
                    rfl
                   refine pure_ (i := 4) (N := some 117) (v := ?_) (a' := ?_) #[true, true, true, true, true, false, false, false, false, false, false, false, false, false, false, false, false, false, false, false, false, false, false, false, false, false, false, false] rfl rfl (any_of HT_.out (by kernel_rfl)) (fun _ _ _ h => h) (Or.inl ⟨by rfl, ?_⟩) ?_ ?_
                   rotate_left
                   ·
                    intro w'
                    go_simp
                    with_reducible rfl
                   rotate_left
                   ·
                    simp only [Act.put, List.setIfInBounds_toArray, List.set_cons_zero, List.set_cons_succ, i64_w, i32_w]
                    rfl
                   refine pure_ (i := 5) (N := some 118) (v := ?_) (a' := ?_) #[true, true, true, true, true, true, false, false, false, false, false, false, false, false, false, false, false, false, false, false, false, false, false, false, false, false, false, false] rfl rfl (any_of HT_.out (by kernel_rfl)) (fun _ _ _ h => h) (Or.inl ⟨by rfl, ?_⟩) ?_ ?_
                   rotate_left
                   ·
                    intro w'
                    go_simp
                    with_reducible rfl
                   rotate_left
                   ·
                    simp only [Act.put, List.setIfInBounds_toArray, List.set_cons_zero, List.set_cons_succ, i64_w, i32_w]
                    rfl
                   refine pure_ (i := 9) (N := some 122) (v := ?_) (a' := ?_) #[true, true, true, true, true, true, false, false, false, true, false, false, false, false, false, false, false, false, false, false, false, false, false, false, false, false, false, false] rfl rfl (any_of HT_.out (by kernel_rfl)) (fun _ _ _ h => h) (Or.inl ⟨by rfl, ?_⟩) ?_ ?_
                   rotate_left
                   ·
                    intro w'
                    go_simp
                    with_reducible rfl
                   rotate_left
                   ·
                    simp only [Act.put, List.setIfInBounds_toArray, List.set_cons_zero, List.set_cons_succ, i64_w, i32_w]
                    rfl
                   refine pure_ (i := 10) (N := some 123) (v := ?_) (a' := ?_) #[true, true, true, true, true, true, false, false, false, true, true, false, false, false, false, false, false, false, false, false, false, false, false, false, false, false, false, false] rfl rfl (any_of HT_.out (by kernel_rfl)) (fun _ _ _ h => h) (Or.inl ⟨by rfl, ?_⟩) ?_ ?_
                   rotate_left
                   ·
                    intro w'
                    go_simp
                    with_reducible rfl
                   rotate_left
                   ·
                    simp only [Act.put, List.setIfInBounds_toArray, List.set_cons_zero, List.set_cons_succ, i64_w, i32_w]
                    rfl
                   refine pure_ (i := 11) (N := some 124) (v := ?_) (a' := ?_) #[true, true, true, true, true, true, false, false, false, true, true, true, false, false, false, false, false, false, false, false, false, false, false, false, false, false, false, false] rfl rfl (any_of HT_.out (by kernel_rfl)) (fun _ _ _ h => h) (Or.inl ⟨by rfl, ?_⟩) ?_ ?_
                   rotate_left
                   ·
                    intro w'
                    go_simp
                    with_reducible rfl
                   rotate_left
                   ·
                    simp only [Act.put, List.setIfInBounds_toArray, List.set_cons_zero, List.set_cons_succ, i64_w, i32_w]
                    rfl
                   refine pure_ (i := 12) (N := some 125) (v := ?_) (a' := ?_) #[true, true, true, true, true, true, false, false, false, true, true, true, true, false, false, false, false, false, false, false, false, false, false, false, false, false, false, false] rfl rfl (any_of HT_.out (by kernel_rfl)) (fun _ _ _ h => h) (Or.inl ⟨by rfl, ?_⟩) ?_ ?_
                   rotate_left
                   ·
                    intro w'
                    go_simp
                    with_reducible rfl
                   rotate_left
                   ·
                    simp only [Act.put, List.setIfInBounds_toArray, List.set_cons_zero, List.set_cons_succ, i64_w, i32_w]
                    rfl
                   refine pure_ (i := 13) (N := some 126) (v := ?_) (a' := ?_) #[true, true, true, true, true, true, false, false, false, true, true, true, true, true, false, false, false, false, false, false, false, false, false, false, false, false, false, false] rfl rfl (any_of HT_.out (by kernel_rfl)) (fun _ _ _ h => h) (Or.inl ⟨by rfl, ?_⟩) ?_ ?_
                   rotate_left
                   ·
                    intro w'
                    go_simp
                    with_reducible rfl
                   rotate_left
                   ·
                    simp only [Act.put, List.setIfInBounds_toArray, List.set_cons_zero, List.set_cons_succ, i64_w, i32_w]
                    rfl
                   refine pure_ (i := 18) (N := some 131) (v := ?_) (a' := ?_) #[true, true, true, true, true, true, false, false, false, true, true, true, true, true, false, false, false, false, true, false, false, false, false, false, false, false, false, false] rfl rfl (any_of HT_.out (by kernel_rfl)) (fun _ _ _ h => h) (Or.inl ⟨by rfl, ?_⟩) ?_ ?_
                   rotate_left
                   ·
                    intro w'
                    go_simp
                    with_reducible rfl
                   rotate_left
                   ·
                    simp only [Act.put, List.setIfInBounds_toArray, List.set_cons_zero, List.set_cons_succ, i64_w, i32_w]
                    rfl
                   refine pure_ (i := 19) (N := some 132) (v := ?_) (a' := ?_) #[true, true, true, true, true, true, false, false, false, true, true, true, true, true, false, false, false, false, true, true, false, false, false, false, false, false, false, false] rfl rfl (any_of HT_.out (by kernel_rfl)) (fun _ _ _ h => h) (Or.inl ⟨by rfl, ?_⟩) ?_ ?_
                   rotate_left
                   ·
                    intro w'
                    go_simp
                    with_reducible rfl
                   rotate_left
                   ·
                    simp only [Act.put, List.setIfInBounds_toArray, List.set_cons_zero, List.set_cons_succ, i64_w, i32_w]
                    rfl
                   refine pure_ (i := 20) (N := some 133) (v := ?_) (a' := ?_) #[true, true, true, true, true, true, false, false, false, true, true, true, true, true, false, false, false, false, true, true, true, false, false, false, false, false, false, false] rfl rfl (any_of HT_.out (by kernel_rfl)) (fun _ _ _ h => h) (Or.inl ⟨by rfl, ?_⟩) ?_ ?_
                   rotate_left
                   ·
                    intro w'
                    go_simp
                    with_reducible rfl
                   rotate_left
                   ·
                    simp only [Act.put, List.setIfInBounds_toArray, List.set_cons_zero, List.set_cons_succ, i64_w, i32_w]
                    rfl
                   refine pure_ (i := 21) (N := some 134) (v := ?_) (a' := ?_) #[true, true, true, true, true, true, false, false, false, true, true, true, true, true, false, false, false, false, true, true, true, true, false, false, false, false, false, false] rfl rfl (any_of HT_.out (by kernel_rfl)) (fun _ _ _ h => h) (Or.inl ⟨by rfl, ?_⟩) ?_ ?_
                   rotate_left
                   ·
                    intro w'
                    go_simp
                    with_reducible rfl
                   rotate_left
                   ·
                    simp only [Act.put, List.setIfInBounds_toArray, List.set_cons_zero, List.set_cons_succ, i64_w, i32_w]
                    rfl
                   refine pure_ (i := 22) (N := some 135) (v := ?_) (a' := ?_) #[true, true, true, true, true, true, false, false, false, true, true, true, true, true, false, false, false, false, true, true, true, true, true, false, false, false, false, false] rfl rfl (any_of HT_.out (by kernel_rfl)) (fun _ _ _ h => h) (Or.inl ⟨by rfl, ?_⟩) ?_ ?_
                   rotate_left
                   ·
                    intro w'
                    go_simp
                    with_reducible rfl
                   rotate_left
                   ·
                    simp only [Act.put, List.setIfInBounds_toArray, List.set_cons_zero, List.set_cons_succ, i64_w, i32_w]
                    rfl
                   refine take_ (i := 6) (N := some 119) (v := ?_) (a' := ?_) #[true, true, true, true, true, true, true, false, false, true, true, true, true, true, false, false, false, false, true, true, true, true, true, false, false, false, false, false] rfl rfl (take_ofW HT_.out HW_.out (by kernel_rfl)) (fun _ _ _ h => h) (Or.inl ⟨by rfl, ?_⟩) hHeld ?_ ?_
                   rotate_left
                   ·
                    rintro w' ⟨s0, s1, s2, s3⟩
                    go_simp
                    with_reducible rfl
                   rotate_left
                   ·
                    simp only [Act.put, List.setIfInBounds_toArray, List.set_cons_zero, List.set_cons_succ, i64_w, i32_w]
                    rfl
                   refine take_ (i := 14) (N := some 127) (v := ?_) (a' := ?_) #[true, true, true, true, true, true, true, false, false, true, true, true, true, true, true, false, false, false, true, true, true, true, true, false, false, false, false, false] rfl rfl (take_ofW HT_.out HW_.out (by kernel_rfl)) (fun _ _ _ h => h) (Or.inl ⟨by rfl, ?_⟩) hHeld ?_ ?_
                   rotate_left
                   ·
                    rintro w' ⟨s0, s1, s2, s3⟩
                    go_simp
                    with_reducible rfl
                   rotate_left
                   ·
                    simp only [Act.put, List.setIfInBounds_toArray, List.set_cons_zero, List.set_cons_succ, i64_w, i32_w]
                    rfl
                   refine one_ (i := 7) (N := some 120) #[true, true, true, true, true, true, true, true, false, true, true, true, true, true, true, false, false, false, true, true, true, true, true, false, false, false, false, false] rfl rfl (one_of HT_.out (by kernel_rfl)) (by decide) (fun K hK => ?_)
                   refine goes_ Try.func36 (by kernel_rfl) rfl #[.int .u8 ((rd_T29 t507 (ji49)).f0)] (by rfl) rfl rfl (by (try simp only [List.map_toArray, List.map_cons, List.map_nil]); first | done | (simp only [hji49]; rfl) | rfl | (simp only [List.length_drop, List.length_take]; rfl)) ?_
                   with_reducible refine (glazierlaw05_hex.calls kj35 ((rd_T29 t507 (ji49)).f0) t533 _ A52.out).mono ?_
                   rintro e w' ⟨rfl, ⟨nd, rfl⟩⟩
                   refine ⟨_, rfl, ?_⟩
                   refine hK.out _ _ ⟨hHeld.1, hHeld.2.1, hHeld.2.2.1, hHeld.2.2.2⟩ (fun hHeld => ?_)
                   clear hK K
                   refine norm_ (a' := ?_) ?_ ?_
                   rotate_left
                   ·
                    show Act.put _ (some 120) _ = _
                    simp only [Act.put, List.setIfInBounds_toArray, List.set_cons_zero, List.set_cons_succ, i64_w, i32_w]
                    rfl
                   refine pure_ (i := 8) (N := some 121) (v := ?_) (a' := ?_) #[true, true, true, true, true, true, true, true, true, true, true, true, true, true, true, false, false, false, true, true, true, true, true, false, false, false, false, false] rfl rfl (any_of HT_.out (by kernel_rfl)) (fun _ _ _ h => h) (Or.inl ⟨by rfl, ?_⟩) ?_ ?_
                   rotate_left
                   ·
                    intro w'
                    go_simp
                    with_reducible rfl
                   rotate_left
                   ·
                    simp only [Act.put, List.setIfInBounds_toArray, List.set_cons_zero, List.set_cons_succ, i64_w, i32_w]
                    rfl
                   refine one_ (i := 15) (N := some 128) #[true, true, true, true, true, true, true, true, true, true, true, true, true, true, true, true, false, false, true, true, true, true, true, false, false, false, false, false] rfl rfl (one_of HT_.out (by kernel_rfl)) (by decide) (fun K hK => ?_)
                   refine goes_ Try.func36 (by kernel_rfl) rfl #[.int .u8 ((rd_T29 t507 (ji53)).f0)] (by rfl) rfl rfl (by (try simp only [List.map_toArray, List.map_cons, List.map_nil]); first | done | (simp only [hji53]; rfl) | rfl | (simp only [List.length_drop, List.length_take]; rfl)) ?_
                   with_reducible refine (glazierlaw05_hex.calls kj35 ((rd_T29 t507 (ji53)).f0) t535 _ A56.out).mono ?_
                   rintro e w' ⟨rfl, ⟨nd, rfl⟩⟩
                   refine ⟨_, rfl, ?_⟩
                   refine hK.out _ _ ⟨hHeld.1, hHeld.2.1, hHeld.2.2.1, hHeld.2.2.2⟩ (fun hHeld => ?_)
                   clear hK K
                   refine norm_ (a' := ?_) ?_ ?_
                   rotate_left
                   ·
                    show Act.put _ (some 128) _ = _
                    simp only [Act.put, List.setIfInBounds_toArray, List.set_cons_zero, List.set_cons_succ, i64_w, i32_w]
                    rfl
                   refine pure_ (i := 16) (N := some 129) (v := ?_) (a' := ?_) #[true, true, true, true, true, true, true, true, true, true, true, true, true, true, true, true, true, false, true, true, true, true, true, false, false, false, false, false] rfl rfl (any_of HT_.out (by kernel_rfl)) (fun _ _ _ h => h) (Or.inl ⟨by rfl, ?_⟩) ?_ ?_
                   rotate_left
                   ·
                    intro w'
                    go_simp
                    with_reducible rfl
                   rotate_left
                   ·
                    simp only [Act.put, List.setIfInBounds_toArray, List.set_cons_zero, List.set_cons_succ, i64_w, i32_w]
                    rfl
                   refine pure_ (i := 17) (N := some 130) (v := ?_) (a' := ?_) #[true, true, true, true, true, true, true, true, true, true, true, true, true, true, true, true, true, true, true, true, true, true, true, false, false, false, false, false] rfl rfl (any_of HT_.out (by kernel_rfl)) (fun _ _ _ h => h) (Or.inl ⟨by rfl, ?_⟩) ?_ ?_
                   rotate_left
                   ·
                    intro w'
                    go_simp
                    with_reducible rfl
                   rotate_left
                   ·
                    simp only [Act.put, List.setIfInBounds_toArray, List.set_cons_zero, List.set_cons_succ, i64_w, i32_w]
                    rfl
                   refine one_ (i := 23) (N := some 136) #[true, true, true, true, true, true, true, true, true, true, true, true, true, true, true, true, true, true, true, true, true, true, true, true, false, false, false, false] rfl rfl (one_of HT_.out (by kernel_rfl)) (by decide) (fun K hK => ?_)
                   refine goes_ Try.func37 (by kernel_rfl) rfl #[.slice A63 y536.length c63] (by rfl) rfl rfl (by (try simp only [List.map_toArray, List.map_cons, List.map_nil]); first | done | rfl | (simp only [List.length_drop, List.length_take]; rfl)) ?_
                   with_reducible refine (glazierref01_Worst.calls kj35 _ _ y536 t540 _ ?side1 ?side2 A60.out).mono ?_
                   (case side1 => repeat (first | exact (by repeat (first | (with_reducible exact HR539.out) | (with_reducible refine Kd.C_alloc ?_ _) | (with_reducible refine Kd.C_drewN ?_ _) | (with_reducible refine Kd.C_drew ?_) | exact HR539.out)) | (with_reducible refine Kd.C_alloc ?_ _) | (with_reducible refine Kd.C_drewN ?_ _) | (with_reducible refine Kd.C_drew ?_)))
                   (case side2 => exact HC539.out)
                   rintro e w64 ⟨rfl, hb⟩
                   have HS0_ := (hb.cell (World.block_lt_of_cell? _ _ (hHeld.1))).trans (hHeld.1)
                   have HS1_ := (hb.cell (World.block_lt_of_cell? _ _ (hHeld.2.1))).trans (hHeld.2.1)
                   have HS2_ := (hb.cell (World.block_lt_of_cell? _ _ (hHeld.2.2.1))).trans (hHeld.2.2.1)
                   have HS3_ := (hb.cell (World.block_lt_of_cell? _ _ (hHeld.2.2.2))).trans (hHeld.2.2.2)
                   refine ⟨_, rfl, ?_⟩
                   have n0_ := Aside0.mk (Kd.R_below (by (with_reducible repeat (first | apply Kd.R_alloc | apply Kd.R_drewN | apply Kd.R_drew)); exact HO_5.out) hb)
                   have n1_ := Aside0.mk (Kd.R_below (by (with_reducible repeat (first | apply Kd.R_alloc | apply Kd.R_drewN | apply Kd.R_drew)); exact HO_7.out) hb)
                   have n2_ := Aside0.mk (Kd.R_below (by (with_reducible repeat (first | apply Kd.R_alloc | apply Kd.R_drewN | apply Kd.R_drew)); exact HO_8.out) hb)
                   have n3_ := Aside0.mk (blk_below (g := gb505) (o := .cells #[.string a0_0, .slice A0_1 l0_1.length c0_1] 24 (0, 0)) (by (with_reducible repeat (first | refine blk_drewN ?_ _ | refine blk_drew ?_ | refine blk_alloc ?_ _)); exact BK505.out) hb)
                   have n4_ := Aside0.mk (Kd.C_below (by repeat (first | (with_reducible exact HR539.out) | (with_reducible refine Kd.C_alloc ?_ _) | (with_reducible refine Kd.C_drewN ?_ _) | (with_reducible refine Kd.C_drew ?_) | exact HR539.out)) hb)
                   have n5_ := Aside0.mk (below_step (by repeat (first | (with_reducible first | exact HB.out | apply below_alloc | apply pw_below_drewN | apply below_drew1 | refine below_set ?_ GE505.out) | exact HB.out)) hb)
                   clear HO_5
                   clear HO_7
                   clear HO_8
                   clear BK505
                   clear HR539
                   clear HB
                   have HO_5 := n0_
                   have HO_7 := n1_
                   have HO_8 := n2_
                   have BK505 := n3_
                   have HR539 := n4_
                   have HB := n5_
                   clear n0_ n1_ n2_ n3_ n4_ n5_
                   (try clear hb)
                   (try clear hb2)
                   (try clear hk)
                   (try clear hi)
                   refine hK.out _ _ ⟨HS0_, HS1_, HS2_, HS3_⟩ (fun hHeld => ?_)
                   clear hK K
                   refine norm_ (a' := ?_) ?_ ?_
                   rotate_left
                   ·
                    show Act.put _ (some 136) _ = _
                    simp only [Act.put, List.setIfInBounds_toArray, List.set_cons_zero, List.set_cons_succ, i64_w, i32_w]
                    rfl
                   refine pure_ (i := 24) (N := some 137) (v := ?_) (a' := ?_) #[true, true, true, true, true, true, true, true, true, true, true, true, true, true, true, true, true, true, true, true, true, true, true, true, true, false, false, false] rfl rfl (any_of HT_.out (by kernel_rfl)) (fun _ _ _ h => h) (Or.inl ⟨by rfl, ?_⟩) ?_ ?_
                   rotate_left
                   ·
                    intro w'
                    go_simp
                    with_reducible rfl
                   rotate_left
                   ·
                    simp only [Act.put, List.setIfInBounds_toArray, List.set_cons_zero, List.set_cons_succ, i64_w, i32_w]
                    rfl
                   refine last_ (i := 25) (N := some 138) #[true, true, true, true, true, true, true, true, true, true, true, true, true, true, true, true, true, true, true, true, true, true, true, true, true, true, false, false] rfl rfl (one_of HT_.out (by kernel_rfl)) (by decide) (fun K hK => ?_)
                   refine value_ (w1 := ?_) (v := ?_) (by rfl) rfl ?_ ?_
                   rotate_left 2
                   ·
                    go_simp
                    constructor
                    ·
                     rfl
                    ·
                     rfl
                   refine hK.out _ _ ?_
                   clear hK K
                   refine norm_ (a' := ?_) ?_ ?_
                   rotate_left
                   ·
                    show Act.put _ (some 138) _ = _
                    simp only [Act.put, List.setIfInBounds_toArray, List.set_cons_zero, List.set_cons_succ, i64_w, i32_w]
                    rfl
                   refine last_ (i := 26) (N := some 139) #[true, true, true, true, true, true, true, true, true, true, true, true, true, true, true, true, true, true, true, true, true, true, true, true, true, true, true, false] rfl rfl (one_of HT_.out (by kernel_rfl)) (by decide) (fun K hK => ?_)
                   refine Kd.R_append_step k29 (w0 := w) w.heap.size (by rfl) (.tmp 113) (.tmp 138) 26 29 (.agg #[(.int .u8 0), (.int .i64 0)]) 16 rfl Try.underlying26 info29 rfl (by decide) (by omega) u8 x8_2 (⟨(wrap64 ((wrap64 (16 * t533)) + t535)) % 256, t540⟩ : S29) [.int .u8 ((wrap64 ((wrap64 (16 * t533)) + t535)) % 256), .int .i64 t540] (fun k_ => some k_ ≠ (.slice (some ad532) t507.length co34 : Value).ownBlock ∧ some k_ ≠ (u7 : Value).ownBlock) (fun _ => False) rfl rfl ?aP (fun _ hk => hk.elim) ?aF ?aO ?aB ?aS ?aL ?_
                   (case aP => exact k29_mkM _ _ _ (⟨(wrap64 ((wrap64 (16 * t533)) + t535)) % 256, t540⟩ : S29))
                   (case aB => exact (by repeat (first | (with_reducible first | exact HB.out | apply below_alloc | apply pw_below_drewN | apply below_drew1 | refine below_set ?_ GE505.out) | exact HB.out)))
                   (case aF => exact (fun k_ hk => ⟨Kd.fresh' (Kd.R_lt (by (with_reducible repeat (first | apply Kd.R_alloc | apply Kd.R_drewN | apply Kd.R_drew)); exact HO_5.out)) k_ hk, Kd.fresh' (Kd.R_lt (by (with_reducible repeat (first | apply Kd.R_alloc | apply Kd.R_drewN | apply Kd.R_drew)); exact HO_7.out)) k_ hk⟩))
                   (case aO => exact (by (with_reducible repeat (first | apply Kd.R_alloc | apply Kd.R_drewN | apply Kd.R_drew)); exact HO_8.out))
                   (case aS => exact (below_size (by repeat (first | (with_reducible first | exact HB.out | apply below_alloc | apply pw_below_drewN | apply below_drew1 | refine below_set ?_ GE505.out) | exact HB.out))))
                   (case aL => have := LMc61.out; omega)
                   intro v542 w65 ho hb hg hat
                   rw [← Ny541.out] at ho
                   have n0_ := Aside0.mk (Kd.R_after (ok := (fun k_ => some k_ ≠ (u7 : Value).ownBlock)) (by (with_reducible repeat (first | apply Kd.R_alloc | apply Kd.R_drewN | apply Kd.R_drew)); exact HO_5.out) hg hat)
                   have n1_ := Aside0.mk (Kd.R_after (ok := (fun k_ => some k_ ≠ (.slice (some ad532) t507.length co34 : Value).ownBlock)) (by (with_reducible repeat (first | apply Kd.R_alloc | apply Kd.R_drewN | apply Kd.R_drew)); exact HO_7.out) hg hat)
                   have n2_ := Aside0.mk (blk_grown (g := gb505) (o := .cells #[.string a0_0, .slice A0_1 l0_1.length c0_1] 24 (0, 0)) (by (with_reducible repeat (first | refine blk_drewN ?_ _ | refine blk_drew ?_ | refine blk_alloc ?_ _)); exact BK505.out) hg (Kd.R_ne HO_8.out BK505.out (by decide)))
                   have n3_ := Aside0.mk (hb)
                   have n4_ := Aside0.mk ((show Kd.C k29 w65 A63 y536.length y536 from by rw [Ny536.out, KA63.out]; exact Kd.C_mid (lo := (x10_2 : Int).toNat) (hi := ((wrap64 (x10_2 + 3)) : Int).toNat) (c := co34) ((Kd.R_reads' (Kd.R_after (ok := (fun k_ => some k_ ≠ (u7 : Value).ownBlock)) (by (with_reducible repeat (first | apply Kd.R_alloc | apply Kd.R_drewN | apply Kd.R_drew)); exact HO_5.out) hg hat)).2.2) KM63.out KL63.out ((Kd.R_reads' (Kd.R_after (ok := (fun k_ => some k_ ≠ (u7 : Value).ownBlock)) (by (with_reducible repeat (first | apply Kd.R_alloc | apply Kd.R_drewN | apply Kd.R_drew)); exact HO_5.out) hg hat)).2.1)))
                   have n5_ := Aside0.mk (ho)
                   clear HO_5
                   clear HO_7
                   clear BK505
                   clear HB
                   clear HR539
                   clear HO_8
                   have HO_5 := n0_
                   have HO_7 := n1_
                   have BK505 := n2_
                   have HB := n3_
                   have HR539 := n4_
                   have HO543 := n5_
                   clear n0_ n1_ n2_ n3_ n4_ n5_
                   clear ho hb hg hat
                   refine hK.out _ _ ?_
                   clear hK K
                   refine norm_ (a' := ?_) ?_ ?_
                   rotate_left
                   ·
                    show Act.put _ (some 139) _ = _
                    simp only [Act.put, List.setIfInBounds_toArray, List.set_cons_zero, List.set_cons_succ, i64_w, i32_w]
                    rfl
                   refine pure_ (i := 27) (N := some 8) (v := ?_) (a' := ?_) #[true, true, true, true, true, true, true, true, true, true, true, true, true, true, true, true, true, true, true, true, true, true, true, true, true, true, true, true] rfl rfl (any_of HT_.out (by kernel_rfl)) (fun _ _ _ h => h) (Or.inl ⟨by rfl, ?_⟩) ?_ ?_
                   rotate_left
                   ·
                    intro w'
                    go_simp
                    with_reducible rfl
                   rotate_left
                   ·
                    simp only [Act.put, List.setIfInBounds_toArray, List.set_cons_zero, List.set_cons_succ, i64_w, i32_w]
                    rfl
                   refine done_ (done_of HT_.out (by kernel_rfl)) ?_
                   try go_wp2
                   go_roundg kj35
                   case measure => have := HK1.out; have := HK2.out; have := HJ35.out; omega
                   case rel => exact ⟨(y541), (wrap64 ((ji53) + 1)), (by first | rfl | (simp; done) | (simp only [← hji53] <;> (first | rfl | simp)) | (simp [*]; done)), H', ⟨by have := HK1.out; have := HK2.out; have := HJ35.out; omega⟩, ⟨by (with_reducible repeat (first | apply Kd.R_alloc | apply Kd.R_drewN | apply Kd.R_drew)); exact HO_5.out⟩, ⟨by (with_reducible repeat (first | apply Kd.R_alloc | apply Kd.R_drewN | apply Kd.R_drew)); exact HO_7.out⟩, ⟨by (with_reducible repeat (first | apply Kd.R_alloc | apply Kd.R_drewN | apply Kd.R_drew)); exact HO543.out⟩, ⟨by (with_reducible repeat (first | refine blk_drewN ?_ _ | refine blk_drew ?_ | refine blk_alloc ?_ _)); exact BK505.out⟩, ⟨by repeat (first | (with_reducible first | exact HB.out | apply below_alloc | apply pw_below_drewN | apply below_drew1 | refine below_set ?_ GE505.out) | exact HB.out)⟩⟩
                  ·
                   rw [if_neg c61] at H
                   exact absurd H (by simp)
                 ·
                  rw [if_neg c59] at H
                  exact absurd H (by simp)
                ·
                 rw [if_neg c58] at H
                 exact absurd H (by simp)
               ·
                rw [if_neg c57] at H
                exact absurd H (by simp)
              ·
               rw [if_neg c55] at H
               exact absurd H (by simp)
             ·
              rw [if_neg c54] at H
              exact absurd H (by simp)
            ·
             rw [if_neg c51] at H
             exact absurd H (by simp)
           ·
            rw [if_neg c50] at H
            exact absurd H (by simp)
          ·
           replace c48 := Bool.eq_false_iff.mpr c48
           subst c48
           have H1 : (if 0 ≤ x10_2 then (if x10_2 < (t507.length : Int) then (if x8_2.length < 8796093022208 then (glazierlaw05_PercentTells.l1 kj35 a1 t507 x7_1 (x8_2 ++ [(⟨(rd_T29 t507 x10_2).f0, (rd_T29 t507 x10_2).f1⟩ : S29)]) (wrap64 (x10_2 + 1)) a0_0 l0_1) else (none)) else (none)) else (none)) = some r := by rw [if_neg (show ¬ (false = true) by decide)] at H; exact H
           clear H
           have H := H1
           clear H1
           by_cases c66 : 0 ≤ x10_2
           ·
            rw [if_pos c66] at H
            have c66b0 : decide (0 ≤ x10_2) = true := decide_eq_true c66
            clear c66
            by_cases c67 : x10_2 < (t507.length : Int)
            ·
             rw [if_pos c67] at H
             have c67b0 : decide (x10_2 < (t507.length : Int)) = true := decide_eq_true c67
             clear c67
             by_cases c68 : x8_2.length < 8796093022208
             ·
              rw [if_pos c68] at H
              have LMc68 := Aside0.mk c68
              clear c68
              obtain ⟨y545, hy545⟩ : ∃ y_ : List (S29), y_ = (x8_2 ++ [(⟨(rd_T29 t507 x10_2).f0, (rd_T29 t507 x10_2).f1⟩ : S29)]) := ⟨_, rfl⟩
              replace H : (glazierlaw05_PercentTells.l1 kj35 a1 t507 x7_1 y545 (wrap64 (x10_2 + 1)) a0_0 l0_1) = some r := by first | (rw [hy545]; with_reducible exact H) | (have H2_ := (Option.bind_some _ _).symm.trans H; rw [hy545]; with_reducible exact H2_) | (have H2_ := (Option.bind_some _ _).symm.trans H; with_reducible exact H2_) | with_reducible exact H | (rw [hy545]; exact H) | exact H
              have Ny545 := Aside0.mk hy545
              clear hy545
              have H' := Aside0.mk H
              clear H
              have p544 : 0 ≤ (x10_2 : Int) := of_decide_eq_true (by first | (with_reducible assumption) | assumption)
              have q544 : x10_2 < (t507.length : Int) := of_decide_eq_true (by first | (with_reducible assumption) | assumption)
              obtain ⟨ad544, e544, hx544_0, hx544_1⟩ := at_T29 (Kd.R_reads' HO_5.out).2.2 x10_2 p544 q544
              cases e544
              replace p544 := eq_true p544
              replace q544 := eq_true q544
              go_wp2_with (first | ((with_reducible refine gate_builtin (b := .append) (xs := #[.tmp 142, .tmp 147]) rfl ?_); at_builtin; refine Kd.R_append k29 (w0 := w) w.heap.size rfl (.tmp 142) (.tmp 147) 26 29 (.agg #[(.int .u8 0), (.int .i64 0)]) 16 rfl Try.underlying26 info29 rfl (by decide) (by omega) u8 x8_2 (⟨(rd_T29 t507 x10_2).f0, (rd_T29 t507 x10_2).f1⟩ : S29) [.int .u8 ((rd_T29 t507 x10_2).f0), .int .i64 ((rd_T29 t507 x10_2).f1)] (fun k_ => some k_ ≠ (.slice (some ad544) t507.length co34 : Value).ownBlock ∧ some k_ ≠ (u7 : Value).ownBlock) (fun _ => False) rfl rfl ?aP (fun _ hk => hk.elim) ?aF ?aO ?aB ?aS ?aL ?_; (case aP => exact k29_mkM _ _ _ (⟨(rd_T29 t507 x10_2).f0, (rd_T29 t507 x10_2).f1⟩ : S29)); (case aB => exact (by repeat (first | (with_reducible first | exact HB.out | apply below_alloc | apply pw_below_drewN | apply below_drew1 | refine below_set ?_ GE505.out) | exact HB.out))); (case aF => exact (fun k_ hk => ⟨Kd.fresh' (Kd.R_lt (by (with_reducible repeat (first | apply Kd.R_alloc | apply Kd.R_drewN | apply Kd.R_drew)); exact HO_5.out)) k_ hk, Kd.fresh' (Kd.R_lt (by (with_reducible repeat (first | apply Kd.R_alloc | apply Kd.R_drewN | apply Kd.R_drew)); exact HO_7.out)) k_ hk⟩)); (case aO => exact (by (with_reducible repeat (first | apply Kd.R_alloc | apply Kd.R_drewN | apply Kd.R_drew)); exact HO_8.out)); (case aS => exact (below_size (by repeat (first | (with_reducible first | exact HB.out | apply below_alloc | apply pw_below_drewN | apply below_drew1 | refine below_set ?_ GE505.out) | exact HB.out)))); (case aL => have := LMc68.out; omega); intro v546 w69 ho hb hg hat; rw [← Ny545.out] at ho; have n0_ := Aside0.mk (Kd.R_after (ok := (fun k_ => some k_ ≠ (u7 : Value).ownBlock)) (by (with_reducible repeat (first | apply Kd.R_alloc | apply Kd.R_drewN | apply Kd.R_drew)); exact HO_5.out) hg hat); have n1_ := Aside0.mk (Kd.R_after (ok := (fun k_ => some k_ ≠ (.slice (some ad544) t507.length co34 : Value).ownBlock)) (by (with_reducible repeat (first | apply Kd.R_alloc | apply Kd.R_drewN | apply Kd.R_drew)); exact HO_7.out) hg hat); have n2_ := Aside0.mk (blk_grown (g := gb505) (o := .cells #[.string a0_0, .slice A0_1 l0_1.length c0_1] 24 (0, 0)) (by (with_reducible repeat (first | refine blk_drewN ?_ _ | refine blk_drew ?_ | refine blk_alloc ?_ _)); exact BK505.out) hg (Kd.R_ne HO_8.out BK505.out (by decide))); have n3_ := Aside0.mk (hb); have n4_ := Aside0.mk (ho); clear HO_5; clear HO_7; clear BK505; clear HB; clear HO_8; have HO_5 := n0_; have HO_7 := n1_; have BK505 := n2_; have HB := n3_; have HO547 := n4_; clear n0_ n1_ n2_ n3_ n4_; clear ho hb hg hat))
              go_roundg kj35
              case measure => have := HK1.out; have := HK2.out; have := HJ35.out; omega
              case rel => exact ⟨(y545), (wrap64 (x10_2 + 1)), (by first | rfl | (simp; done) | (simp [*]; done)), H', ⟨by have := HK1.out; have := HK2.out; have := HJ35.out; omega⟩, ⟨by (with_reducible repeat (first | apply Kd.R_alloc | apply Kd.R_drewN | apply Kd.R_drew)); exact HO_5.out⟩, ⟨by (with_reducible repeat (first | apply Kd.R_alloc | apply Kd.R_drewN | apply Kd.R_drew)); exact HO_7.out⟩, ⟨by (with_reducible repeat (first | apply Kd.R_alloc | apply Kd.R_drewN | apply Kd.R_drew)); exact HO547.out⟩, ⟨by (with_reducible repeat (first | refine blk_drewN ?_ _ | refine blk_drew ?_ | refine blk_alloc ?_ _)); exact BK505.out⟩, ⟨by repeat (first | (with_reducible first | exact HB.out | apply below_alloc | apply pw_below_drewN | apply below_drew1 | refine below_set ?_ GE505.out) | exact HB.out)⟩⟩
             ·
              rw [if_neg c68] at H
              exact absurd H (by simp)
            ·
             rw [if_neg c67] at H
             exact absurd H (by simp)
           ·
            rw [if_neg c66] at H
            exact absurd H (by simp)
       ·
        rw [if_neg c35] at H
        have c35b0 : decide (x10_2 < (t507.length : Int)) = false := decide_eq_false c35
        clear c35
        replace H := Option.bind_eq_some_iff.mp H
        obtain ⟨⟨t548, t549⟩, A700, H⟩ := H
        replace H : ((glazierref01_Is.f k2 t548 t549 x7_1).bind fun t552 => (if t552 = true then ((percent_Decode.f k2 a0_0 l0_1).bind fun bt553 => ((glazierref01_Is.f k2 bt553.1 bt553.2 x8_2).bind fun t557 => (if t557 = true then ((percent_Plain.f k2 a1).bind fun t558 => ((glazierlaw05_plain.f k2 a1).bind fun t559 => (if (t558 == t559) = true then ((percent_Hex.f a1).bind fun t560 => ((glazierlaw05_hex.f k2 a1).bind fun t561 => (some (t560 == t561)))) else (none)))) else (none)))) else (none))) = some r := H
        have A70 := Aside0.mk A700
        clear A700
        replace H := Option.bind_eq_some_iff.mp H
        obtain ⟨t552, A710, H⟩ := H
        replace H : (if t552 = true then ((percent_Decode.f k2 a0_0 l0_1).bind fun bt553 => ((glazierref01_Is.f k2 bt553.1 bt553.2 x8_2).bind fun t557 => (if t557 = true then ((percent_Plain.f k2 a1).bind fun t558 => ((glazierlaw05_plain.f k2 a1).bind fun t559 => (if (t558 == t559) = true then ((percent_Hex.f a1).bind fun t560 => ((glazierlaw05_hex.f k2 a1).bind fun t561 => (some (t560 == t561)))) else (none)))) else (none)))) else (none)) = some r := H
        have A71 := Aside0.mk A710
        clear A710
        by_cases c72 : t552 = true
        ·
         subst c72
         have H1 : ((percent_Decode.f k2 a0_0 l0_1).bind fun bt553 => ((glazierref01_Is.f k2 bt553.1 bt553.2 x8_2).bind fun t557 => (if t557 = true then ((percent_Plain.f k2 a1).bind fun t558 => ((glazierlaw05_plain.f k2 a1).bind fun t559 => (if (t558 == t559) = true then ((percent_Hex.f a1).bind fun t560 => ((glazierlaw05_hex.f k2 a1).bind fun t561 => (some (t560 == t561)))) else (none)))) else (none)))) = some r := by rw [if_pos rfl] at H; exact H
         clear H
         have H := H1
         clear H1
         replace H := Option.bind_eq_some_iff.mp H
         obtain ⟨⟨t553, t554⟩, A730, H⟩ := H
         replace H : ((glazierref01_Is.f k2 t553 t554 x8_2).bind fun t557 => (if t557 = true then ((percent_Plain.f k2 a1).bind fun t558 => ((glazierlaw05_plain.f k2 a1).bind fun t559 => (if (t558 == t559) = true then ((percent_Hex.f a1).bind fun t560 => ((glazierlaw05_hex.f k2 a1).bind fun t561 => (some (t560 == t561)))) else (none)))) else (none))) = some r := H
         have A73 := Aside0.mk A730
         clear A730
         replace H := Option.bind_eq_some_iff.mp H
         obtain ⟨t557, A740, H⟩ := H
         replace H : (if t557 = true then ((percent_Plain.f k2 a1).bind fun t558 => ((glazierlaw05_plain.f k2 a1).bind fun t559 => (if (t558 == t559) = true then ((percent_Hex.f a1).bind fun t560 => ((glazierlaw05_hex.f k2 a1).bind fun t561 => (some (t560 == t561)))) else (none)))) else (none)) = some r := H
         have A74 := Aside0.mk A740
         clear A740
         by_cases c75 : t557 = true
         ·
          subst c75
          have H1 : ((percent_Plain.f k2 a1).bind fun t558 => ((glazierlaw05_plain.f k2 a1).bind fun t559 => (if (t558 == t559) = true then ((percent_Hex.f a1).bind fun t560 => ((glazierlaw05_hex.f k2 a1).bind fun t561 => (some (t560 == t561)))) else (none)))) = some r := by rw [if_pos rfl] at H; exact H
          clear H
          have H := H1
          clear H1
          replace H := Option.bind_eq_some_iff.mp H
          obtain ⟨t558, A760, H⟩ := H
          replace H : ((glazierlaw05_plain.f k2 a1).bind fun t559 => (if (t558 == t559) = true then ((percent_Hex.f a1).bind fun t560 => ((glazierlaw05_hex.f k2 a1).bind fun t561 => (some (t560 == t561)))) else (none))) = some r := H
          have A76 := Aside0.mk A760
          clear A760
          replace H := Option.bind_eq_some_iff.mp H
          obtain ⟨t559, A770, H⟩ := H
          replace H : (if (t558 == t559) = true then ((percent_Hex.f a1).bind fun t560 => ((glazierlaw05_hex.f k2 a1).bind fun t561 => (some (t560 == t561)))) else (none)) = some r := H
          have A77 := Aside0.mk A770
          clear A770
          by_cases c78 : (t558 == t559) = true
          ·
           rw [if_pos c78] at H
           have c78b0 : (t558 == t559) = true := c78
           (try (have c78b1 : decide (t558 = t559) = true := by simpa using c78))
           (try (have c78b2 : (t558 == t559) = true := by simpa using c78))
           clear c78
           replace H := Option.bind_eq_some_iff.mp H
           obtain ⟨t560, A790, H⟩ := H
           replace H : ((glazierlaw05_hex.f k2 a1).bind fun t561 => (some (t560 == t561))) = some r := H
           have A79 := Aside0.mk A790
           clear A790
           replace H := Option.bind_eq_some_iff.mp H
           obtain ⟨t561, A800, H⟩ := H
           replace H : (some (t560 == t561)) = some r := H
           have A80 := Aside0.mk A800
           clear A800
           obtain rfl := Option.some.inj H
           have hcz81_0 : wr.cell? ⟨gb505, 0, none⟩ = some (.string a0_0) := (blk_cell BK505.out 0).trans rfl
           have hcz81_1 : wr.cell? ⟨gb505, 1, none⟩ = some (.slice A0_1 l0_1.length c0_1) := (blk_cell BK505.out 1).trans rfl
           have hfz81_0 := blk_frozen BK505.out 0
           have hfz81_1 := blk_frozen BK505.out 1
           go_wp2_with (first | ((with_reducible refine gate_callee (f := 38) rfl ?_); refine goesL_ (some 150) rfl rfl Try.func38 (by kernel_rfl) rfl #[.agg #[.string a0_0, .slice A0_1 l0_1.length c0_1]] rfl (by (try simp only [List.map_toArray, List.map_cons, List.map_nil]); first | done | rfl | (simp only [List.length_drop, List.length_take]; rfl)) ?_; (with_reducible refine (percent_Encode.calls k2 a0_0 _ _ l0_1 t548 t549 _ ?side1 ?side2 A70.out).mono ?_); (case side1 => repeat (first | exact (Kd.C_below HR0_1.out HB.out) | (with_reducible refine Kd.C_alloc ?_ _) | (with_reducible refine Kd.C_drewN ?_ _) | (with_reducible refine Kd.C_drew ?_))); (case side2 => exact HC0_1.out); rintro e w82 ⟨v550, rfl, ho0, hb⟩; refine ⟨_, rfl, ?_⟩; have n0_ := Aside0.mk (Kd.R_below (by (with_reducible repeat (first | apply Kd.R_alloc | apply Kd.R_drewN | apply Kd.R_drew)); exact HO_5.out) hb); have n1_ := Aside0.mk (Kd.R_below (by (with_reducible repeat (first | apply Kd.R_alloc | apply Kd.R_drewN | apply Kd.R_drew)); exact HO_7.out) hb); have n2_ := Aside0.mk (Kd.R_below (by (with_reducible repeat (first | apply Kd.R_alloc | apply Kd.R_drewN | apply Kd.R_drew)); exact HO_8.out) hb); have n3_ := Aside0.mk (Kd.R_lower ho0 (below_size (by repeat (first | (with_reducible first | exact HB.out | apply below_alloc | apply pw_below_drewN | apply below_drew1 | refine below_set ?_ GE505.out) | exact HB.out)))); have n4_ := Aside0.mk (blk_below (g := gb505) (o := .cells #[.string a0_0, .slice A0_1 l0_1.length c0_1] 24 (0, 0)) (by (with_reducible repeat (first | refine blk_drewN ?_ _ | refine blk_drew ?_ | refine blk_alloc ?_ _)); exact BK505.out) hb); have n5_ := Aside0.mk (below_step (by repeat (first | (with_reducible first | exact HB.out | apply below_alloc | apply pw_below_drewN | apply below_drew1 | refine below_set ?_ GE505.out) | exact HB.out)) hb); clear HO_5; clear HO_7; clear HO_8; clear BK505; clear HB; have HO_5 := n0_; have HO_7 := n1_; have HO_8 := n2_; have HO551 := n3_; have BK505 := n4_; have HB := n5_; clear n0_ n1_ n2_ n3_ n4_ n5_; (try clear hb); (try clear hb2); (try clear hk); (try clear hi); (try clear ho0); obtain ⟨Ao83, co83, eo83⟩ := Kd.R_slice HO551.out; subst eo83; obtain ⟨Ao84, co84, eo84⟩ := Kd.R_slice HO_7.out; subst eo84) | ((with_reducible refine gate_callee (f := 24) rfl ?_); refine goesL_ (some 152) rfl rfl Try.func24 (by kernel_rfl) rfl #[.agg #[.string t548, .slice Ao83 t549.length co83], .slice Ao84 x7_1.length co84] rfl (by (try simp only [List.map_toArray, List.map_cons, List.map_nil]); first | done | rfl | (simp only [List.length_drop, List.length_take]; rfl)) ?_; (with_reducible refine (glazierref01_Is.calls k2 t548 _ _ t549 _ _ x7_1 true _ ?side1 ?side2 ?side3 ?side4 A71.out).mono ?_); (case side1 => repeat (first | exact (Kd.R_reads' HO551.out).2.2 | (with_reducible refine Kd.C_alloc ?_ _) | (with_reducible refine Kd.C_drewN ?_ _) | (with_reducible refine Kd.C_drew ?_))); (case side2 => exact (Kd.R_reads' HO551.out).2.1); (case side3 => repeat (first | exact (Kd.R_reads' HO_7.out).2.2 | (with_reducible refine Kd.C_alloc ?_ _) | (with_reducible refine Kd.C_drewN ?_ _) | (with_reducible refine Kd.C_drew ?_))); (case side4 => exact (Kd.R_reads' HO_7.out).2.1); rintro e w85 ⟨rfl, hb⟩; refine ⟨_, rfl, ?_⟩; have n0_ := Aside0.mk (Kd.R_below (by (with_reducible repeat (first | apply Kd.R_alloc | apply Kd.R_drewN | apply Kd.R_drew)); exact HO_5.out) hb); have n1_ := Aside0.mk (Kd.R_below (by (with_reducible repeat (first | apply Kd.R_alloc | apply Kd.R_drewN | apply Kd.R_drew)); exact HO_7.out) hb); have n2_ := Aside0.mk (Kd.R_below (by (with_reducible repeat (first | apply Kd.R_alloc | apply Kd.R_drewN | apply Kd.R_drew)); exact HO_8.out) hb); have n3_ := Aside0.mk (Kd.R_below (by (with_reducible repeat (first | apply Kd.R_alloc | apply Kd.R_drewN | apply Kd.R_drew)); exact HO551.out) hb); have n4_ := Aside0.mk (blk_below (g := gb505) (o := .cells #[.string a0_0, .slice A0_1 l0_1.length c0_1] 24 (0, 0)) (by (with_reducible repeat (first | refine blk_drewN ?_ _ | refine blk_drew ?_ | refine blk_alloc ?_ _)); exact BK505.out) hb); have n5_ := Aside0.mk (below_step (by repeat (first | (with_reducible first | exact HB.out | apply below_alloc | apply pw_below_drewN | apply below_drew1 | refine below_set ?_ GE505.out) | exact HB.out)) hb); clear HO_5; clear HO_7; clear HO_8; clear HO551; clear BK505; clear HB; have HO_5 := n0_; have HO_7 := n1_; have HO_8 := n2_; have HO551 := n3_; have BK505 := n4_; have HB := n5_; clear n0_ n1_ n2_ n3_ n4_ n5_; (try clear hb); (try clear hb2); (try clear hk); (try clear hi); have hcz86_0 : w85.cell? ⟨gb505, 0, none⟩ = some (.string a0_0) := (blk_cell BK505.out 0).trans rfl; have hcz86_1 : w85.cell? ⟨gb505, 1, none⟩ = some (.slice A0_1 l0_1.length c0_1) := (blk_cell BK505.out 1).trans rfl; have hfz86_0 := blk_frozen BK505.out 0; have hfz86_1 := blk_frozen BK505.out 1) | (go_at_call 39; (with_reducible refine (percent_Decode.calls k2 a0_0 _ _ l0_1 t553 t554 _ ?side1 ?side2 A73.out).mono ?_); (case side1 => repeat (first | exact (Kd.C_below HR0_1.out HB.out) | (with_reducible refine Kd.C_alloc ?_ _) | (with_reducible refine Kd.C_drewN ?_ _) | (with_reducible refine Kd.C_drew ?_))); (case side2 => exact HC0_1.out); rintro e w87 ⟨v555, rfl, ho0, hb⟩; have n0_ := Aside0.mk (Kd.R_below (by (with_reducible repeat (first | apply Kd.R_alloc | apply Kd.R_drewN | apply Kd.R_drew)); exact HO_5.out) hb); have n1_ := Aside0.mk (Kd.R_below (by (with_reducible repeat (first | apply Kd.R_alloc | apply Kd.R_drewN | apply Kd.R_drew)); exact HO_7.out) hb); have n2_ := Aside0.mk (Kd.R_below (by (with_reducible repeat (first | apply Kd.R_alloc | apply Kd.R_drewN | apply Kd.R_drew)); exact HO_8.out) hb); have n3_ := Aside0.mk (Kd.R_elder' (by (with_reducible repeat (first | apply Kd.R_alloc | apply Kd.R_drewN | apply Kd.R_drew)); exact HO551.out) (Kd.R_base ho0) hb); have n4_ := Aside0.mk (Kd.R_lower (Kd.R_new' ho0 (Kd.R_lt (by (with_reducible repeat (first | apply Kd.R_alloc | apply Kd.R_drewN | apply Kd.R_drew)); exact HO551.out))) (below_size (by repeat (first | (with_reducible first | exact HB.out | apply below_alloc | apply pw_below_drewN | apply below_drew1 | refine below_set ?_ GE505.out) | exact HB.out)))); have n5_ := Aside0.mk (blk_below (g := gb505) (o := .cells #[.string a0_0, .slice A0_1 l0_1.length c0_1] 24 (0, 0)) (by (with_reducible repeat (first | refine blk_drewN ?_ _ | refine blk_drew ?_ | refine blk_alloc ?_ _)); exact BK505.out) hb); have n6_ := Aside0.mk (below_step (by repeat (first | (with_reducible first | exact HB.out | apply below_alloc | apply pw_below_drewN | apply below_drew1 | refine below_set ?_ GE505.out) | exact HB.out)) hb); clear HO_5; clear HO_7; clear HO_8; clear HO551; clear BK505; clear HB; have HO_5 := n0_; have HO_7 := n1_; have HO_8 := n2_; have HO551 := n3_; have HO556 := n4_; have BK505 := n5_; have HB := n6_; clear n0_ n1_ n2_ n3_ n4_ n5_ n6_; (try clear hb); (try clear hb2); (try clear hk); (try clear hi); (try clear ho0); obtain ⟨Ao88, co88, eo88⟩ := Kd.R_slice HO556.out; subst eo88; obtain ⟨Ao89, co89, eo89⟩ := Kd.R_slice HO_8.out; subst eo89) | (go_at_call 24; (with_reducible refine (glazierref01_Is.calls k2 t553 _ _ t554 _ _ x8_2 true _ ?side1 ?side2 ?side3 ?side4 A74.out).mono ?_); (case side1 => repeat (first | exact (Kd.R_reads' HO556.out).2.2 | (with_reducible refine Kd.C_alloc ?_ _) | (with_reducible refine Kd.C_drewN ?_ _) | (with_reducible refine Kd.C_drew ?_))); (case side2 => exact (Kd.R_reads' HO556.out).2.1); (case side3 => repeat (first | exact (Kd.R_reads' HO_8.out).2.2 | (with_reducible refine Kd.C_alloc ?_ _) | (with_reducible refine Kd.C_drewN ?_ _) | (with_reducible refine Kd.C_drew ?_))); (case side4 => exact (Kd.R_reads' HO_8.out).2.1); rintro e w90 ⟨rfl, hb⟩; have n0_ := Aside0.mk (Kd.R_below (by (with_reducible repeat (first | apply Kd.R_alloc | apply Kd.R_drewN | apply Kd.R_drew)); exact HO_5.out) hb); have n1_ := Aside0.mk (Kd.R_below (by (with_reducible repeat (first | apply Kd.R_alloc | apply Kd.R_drewN | apply Kd.R_drew)); exact HO_7.out) hb); have n2_ := Aside0.mk (Kd.R_below (by (with_reducible repeat (first | apply Kd.R_alloc | apply Kd.R_drewN | apply Kd.R_drew)); exact HO_8.out) hb); have n3_ := Aside0.mk (Kd.R_below (by (with_reducible repeat (first | apply Kd.R_alloc | apply Kd.R_drewN | apply Kd.R_drew)); exact HO551.out) hb); have n4_ := Aside0.mk (Kd.R_below (by (with_reducible repeat (first | apply Kd.R_alloc | apply Kd.R_drewN | apply Kd.R_drew)); exact HO556.out) hb); have n5_ := Aside0.mk (blk_below (g := gb505) (o := .cells #[.string a0_0, .slice A0_1 l0_1.length c0_1] 24 (0, 0)) (by (with_reducible repeat (first | refine blk_drewN ?_ _ | refine blk_drew ?_ | refine blk_alloc ?_ _)); exact BK505.out) hb); have n6_ := Aside0.mk (below_step (by repeat (first | (with_reducible first | exact HB.out | apply below_alloc | apply pw_below_drewN | apply below_drew1 | refine below_set ?_ GE505.out) | exact HB.out)) hb); clear HO_5; clear HO_7; clear HO_8; clear HO551; clear HO556; clear BK505; clear HB; have HO_5 := n0_; have HO_7 := n1_; have HO_8 := n2_; have HO551 := n3_; have HO556 := n4_; have BK505 := n5_; have HB := n6_; clear n0_ n1_ n2_ n3_ n4_ n5_ n6_; (try clear hb); (try clear hb2); (try clear hk); (try clear hi)) | (go_at_call 40; (with_reducible refine (percent_Plain.calls k2 a1 t558 _ A76.out).mono ?_); rintro e w' ⟨rfl, ⟨nd, rfl⟩⟩) | (go_at_call 34; (with_reducible refine (glazierlaw05_plain.calls k2 a1 t559 _ A77.out).mono ?_); rintro e w' ⟨rfl, ⟨nd, rfl⟩⟩) | (go_at_call 41; (with_reducible refine (percent_Hex.calls a1 t560 _ A79.out).mono ?_); rintro e w' ⟨rfl, ⟨nd, rfl⟩⟩) | (go_at_call 36; (with_reducible refine (glazierlaw05_hex.calls k2 a1 t561 _ A80.out).mono ?_); rintro e w' ⟨rfl, ⟨nd, rfl⟩⟩))
           go_ret
           exact ⟨by first | rfl | (simp [errW_none, errW_some] <;> rfl) | (simp [*, errW_none, errW_some] <;> rfl), by repeat (first | (with_reducible first | exact HB.out | apply below_alloc | apply pw_below_drewN | apply below_drew1 | refine below_set ?_ GE505.out) | exact HB.out)⟩
          ·
           rw [if_neg c78] at H
           exact absurd H (by simp)
         ·
          replace c75 := Bool.eq_false_iff.mpr c75
          subst c75
          have H1 : (none) = some r := by rw [if_neg (show ¬ (false = true) by decide)] at H; exact H
          clear H
          have H := H1
          clear H1
          exact absurd H (by simp)
        ·
         replace c72 := Bool.eq_false_iff.mpr c72
         subst c72
         have H1 : (none) = some r := by rw [if_neg (show ¬ (false = true) by decide)] at H; exact H
         clear H
         have H := H1
         clear H1
         exact absurd H (by simp)
 ·
  replace c4 := Bool.eq_false_iff.mpr c4
  subst c4
  have H1 : (none) = some r := by rw [if_neg (show ¬ (false = true) by decide)] at H; exact H
  clear H
  have H := H1
  clear H1
  exact absurd H (by simp)

end Go.Proofs.Ytljmmhihdcnbaaa.G
