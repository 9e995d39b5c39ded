/- What the law StyleTells computes (out of the print program's text). -/
import Derived.Test.YtljmmhihdcnbaaaDoorG0
import Derived.Test.YtljmmhihdcnbaaaDoorG23
import Derived.Test.YtljmmhihdcnbaaaDoorG25
import Derived.Test.YtljmmhihdcnbaaaDoorG27
import Derived.Test.YtljmmhihdcnbaaaDoorG46
import Derived.Test.YtljmmhihdcnbaaaDoorGC
import Derived.Test.YtljmmhihdcnbaaaDoorG55
import Derived.Test.YtljmmhihdcnbaaaDoorG56
import Derived.Test.YtljmmhihdcnbaaaDoorG58
import Derived.Test.YtljmmhihdcnbaaaDoorGQ
import Derived.Test.YtljmmhihdcnbaaaDoorG60
import Derived.Test.YtljmmhihdcnbaaaDoorG62
import Derived.Test.YtljmmhihdcnbaaaDoorGP
import Derived.Test.YtljmmhihdcnbaaaDoorG67
namespace Go.Proofs.YtljmmhihdcnbaaaDoor.G
open Go.RowKit Go.Proofs.YtljmmhihdcnbaaaDoorW.PrintWords Go.Proofs.YtljmmhihdcnbaaaDoorW.PrintLast Go.Proofs.YtljmmhihdcnbaaaDoorW.PrintMore
attribute [local go_sem] max2_int min2_int max_two min_two max_three min_three max_four min_four   -- for this text's walks alone
set_option linter.unusedVariables false
set_option linter.unusedSimpArgs false

/-! ### glazierlaw44_StyleTells: function 6 -/
mutual
def glazierlaw44_StyleTells.l0 : Nat → ByteArray → ByteArray → List (S32) → List (S45) → Int → Int → ByteArray → List (S56) → Option (Bool)
 | 0, _, _, _, _, _, _, _, _ => none
 | k + 1, x1, x2, x7, x8, x9, x10, x423000, x423001 => if x10 < (x7.length : Int) then (if 0 ≤ x10 then ((glazierlaw44_known.f ((rd_T32 x7 x10).f0.f0)).bind fun t428 => (if t428 = true then ((mark_Pure.f k ((rd_T32 x7 x10).f0.f0) ((rd_T32 x7 x10).f0.f1)).bind fun t430 => (if t430 = true then ((glazierlaw44_plain.f k ((rd_T32 x7 x10).f1.f0)).bind fun t432 => (glazierlaw44_StyleTells.j1 k x1 x2 x7 x8 x9 x10 t432 x423000 x423001)) else (glazierlaw44_StyleTells.j1 k x1 x2 x7 x8 x9 x10 false x423000 x423001))) else (glazierlaw44_StyleTells.j1 k x1 x2 x7 x8 x9 x10 false x423000 x423001))) else (none)) else ((style_Parse.f k x423000 x423001).bind fun t462 => ((glazierplain_Attrs.f k t462 x7).bind fun t465 => (if t465 = true then ((style_Clean.f k x423000 x423001).bind fun bt466 => ((glazierref01_Is.f k bt466.1 bt466.2 x8).bind fun t470 => (if t470 = true then ((style_Known.f x1).bind fun t471 => ((glazierlaw44_known.f x1).bind fun t472 => (if (t471 == t472) = true then ((style_Plain.f x2).bind fun t473 => ((glazierlaw44_plain.f k x2).bind fun t474 => (some (t473 == t474)))) else (none)))) else (none)))) else (none))))
def glazierlaw44_StyleTells.j1 : Nat → ByteArray → ByteArray → List (S32) → List (S45) → Int → Int → Bool → ByteArray → List (S56) → Option (Bool)
 | 0, _, _, _, _, _, _, _, _, _ => none
 | k + 1, x1, x2, x7, x8, x9, x10, x11, x423000, x423001 => glazierlaw44_StyleTells.l1 k x1 x2 x7 x8 x9 x10 x11 (wrap64 (x10 + 1)) x423000 x423001
def glazierlaw44_StyleTells.l1 : Nat → ByteArray → ByteArray → List (S32) → List (S45) → Int → Int → Bool → Int → ByteArray → List (S56) → Option (Bool)
 | 0, _, _, _, _, _, _, _, _, _, _ => none
 | k + 1, x1, x2, x7, x8, x9, x10, x11, x12, x423000, x423001 => if x12 < (x7.length : Int) then (glazierlaw44_StyleTells.j3 k x1 x2 x7 x8 x9 x10 x11 x12 x11 x423000 x423001) else (glazierlaw44_StyleTells.j3 k x1 x2 x7 x8 x9 x10 x11 x12 false x423000 x423001)
def glazierlaw44_StyleTells.j3 : Nat → ByteArray → ByteArray → List (S32) → List (S45) → Int → Int → Bool → Int → Bool → ByteArray → List (S56) → Option (Bool)
 | 0, _, _, _, _, _, _, _, _, _, _, _ => none
 | k + 1, x1, x2, x7, x8, x9, x10, x11, x12, x56, x423000, x423001 => if x56 = true then (if 0 ≤ x12 then (if x12 < (x7.length : Int) then (if 0 ≤ x10 then (if x10 < (x7.length : Int) then (if ((rd_T32 x7 x12).f0.f0).toList = ((rd_T32 x7 x10).f0.f0).toList then ((mark_Pure.f k ((rd_T32 x7 x12).f0.f0) ((rd_T32 x7 x12).f0.f1)).bind fun t436 => (if t436 = true then ((glazierlaw44_plain.f k ((rd_T32 x7 x12).f1.f0)).bind fun t438 => (glazierlaw44_StyleTells.l1 k x1 x2 x7 x8 x9 x10 (!t438) (wrap64 (x12 + 1)) x423000 x423001)) else (glazierlaw44_StyleTells.l1 k x1 x2 x7 x8 x9 x10 (!false) (wrap64 (x12 + 1)) x423000 x423001))) else (glazierlaw44_StyleTells.l1 k x1 x2 x7 x8 x9 x10 (!false) (wrap64 (x12 + 1)) x423000 x423001)) else (none)) else (none)) else (none)) else (none)) else (if x11 = true then (if x9 > 0 then (if x8.length < 8796093022208 then (glazierlaw44_StyleTells.j4 k x1 x2 x7 (x8 ++ [(⟨59, 0⟩ : S45)]) x9 x10 x423000 x423001) else (none)) else (glazierlaw44_StyleTells.j4 k x1 x2 x7 x8 x9 x10 x423000 x423001)) else (glazierlaw44_StyleTells.l0 k x1 x2 x7 x8 x9 (wrap64 (x10 + 1)) x423000 x423001))
def glazierlaw44_StyleTells.j4 : Nat → ByteArray → ByteArray → List (S32) → List (S45) → Int → Int → ByteArray → List (S56) → Option (Bool)
 | 0, _, _, _, _, _, _, _, _ => none
 | k + 1, x1, x2, x7, x8, x9, x10, x423000, x423001 => if 0 ≤ x10 then (if x10 < (x7.length : Int) then ((glazierref01_Of.f k ((rd_T32 x7 x10).f0.f0) ((rd_T32 x7 x10).f0.f1)).bind fun t443 => ((glazierref01_Cat.f x8 t443).bind fun t446 => ((glazierref01_Of.f k ((rd_T32 x7 x10).f1.f0) ((rd_T32 x7 x10).f1.f1)).bind fun t453 => ((glazierref01_Cat.f (([(⟨58, 0⟩ : S45)] : List (S45))) t453).bind fun t456 => ((glazierref01_Cat.f t446 t456).bind fun t459 => (glazierlaw44_StyleTells.l0 k x1 x2 x7 t459 (wrap64 (x9 + 1)) (wrap64 (x10 + 1)) x423000 x423001)))))) else (none)) else (none)
end
def glazierlaw44_StyleTells.f (k : Nat) (a0_0 : ByteArray) (l0_1 : List (S56)) (a1 : ByteArray) (a2 : ByteArray) : Option (Bool) := (glazierlaw44_alive.f k).bind fun t423 => (if t423 = true then ((glazierlaw44_parts.f k a0_0 l0_1).bind fun t424 => (glazierlaw44_StyleTells.l0 k a1 a2 t424 ([] : List (S45)) 0 0 a0_0 l0_1)) else (none))
end Go.Proofs.YtljmmhihdcnbaaaDoor.G
