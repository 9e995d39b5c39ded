-- Written for this claim by hybrid.py's copy of the print program (a program of this session); not trusted: Lean checks it.
import Derived.Test.YtljmmhihdcnbaaaVMore4
import Derived.Test.YtljmmhihdcnbaaaG0
import Derived.Test.YtljmmhihdcnbaaaG10
import Derived.Test.YtljmmhihdcnbaaaG11
import Derived.Test.YtljmmhihdcnbaaaG51
import Derived.Test.YtljmmhihdcnbaaaG25
import Derived.Test.YtljmmhihdcnbaaaG18
import Derived.Test.YtljmmhihdcnbaaaG74
import Derived.Test.YtljmmhihdcnbaaaG22
import Derived.Test.YtljmmhihdcnbaaaG78
namespace Go.Proofs.Ytljmmhihdcnbaaa.G
open Go.RowKit Go.Proofs.YtljmmhihdcnbaaaW.PrintWords Go.Proofs.YtljmmhihdcnbaaaW.PrintLast Go.Proofs.YtljmmhihdcnbaaaW.PrintMore
attribute [local go_sem] max2_int min2_int max_two min_two max_three min_three max_four min_four   -- for this text's walks alone
set_option linter.unusedVariables false
set_option linter.unusedSimpArgs false

/-! ### glazierlaw03_FoldTwice: function 12 -/
def glazierlaw03_FoldTwice.f (k : Nat) (a0_0 : ByteArray) (l0_1 : List (S85)) (a1 : ByteArray) : Option (Bool) := (glazierlaw03_alive.f k).bind fun t245 => (if t245 = true then ((fold_Lower.f k a0_0 l0_1).bind fun bt246 => ((fold_Ends.f k a0_0 l0_1).bind fun bt250 => ((fold_Trim.f k a0_0 l0_1).bind fun bt254 => ((fold_Without.f k a0_0 l0_1 a1).bind fun bt258 => ((fold_Lines.f k a0_0 l0_1).bind fun bt262 => ((fold_Lower.f k bt246.1 bt246.2).bind fun bt271 => ((mark_Same.f k bt271.1 bt271.2 bt246.1 bt246.2).bind fun t275 => (if t275 = true then ((fold_Ends.f k bt250.1 bt250.2).bind fun bt276 => ((mark_Same.f k bt276.1 bt276.2 bt250.1 bt250.2).bind fun t280 => (if t280 = true then ((fold_Trim.f k bt254.1 bt254.2).bind fun bt281 => ((mark_Same.f k bt281.1 bt281.2 bt254.1 bt254.2).bind fun t285 => (if t285 = true then ((fold_Without.f k bt258.1 bt258.2 a1).bind fun bt286 => ((mark_Same.f k bt286.1 bt286.2 bt258.1 bt258.2).bind fun t290 => (if t290 = true then ((fold_Lines.f k bt262.1 bt262.2).bind fun bt291 => ((mark_Same.f k bt291.1 bt291.2 bt262.1 bt262.2).bind fun t295 => (if t295 = true then ((fold_IsLower.f bt246.1).bind fun t296 => (some t296)) else (none)))) else (none)))) else (none)))) else (none)))) else (none))))))))) else (none))
theorem glazierlaw03_FoldTwice.mono : ∀ a0 a1 a2 k, LeO (glazierlaw03_FoldTwice.f k a0 a1 a2) (glazierlaw03_FoldTwice.f (k + 1) a0 a1 a2) := by
 intro a0 a1 a2 k
 unfold glazierlaw03_FoldTwice.f
 repeat' first
   | (with_reducible exact fold_Ends.mono _ _ _)
   | (with_reducible exact fold_Lines.mono _ _ _)
   | (with_reducible exact fold_Lower.mono _ _ _)
   | (with_reducible exact fold_Trim.mono _ _ _)
   | (with_reducible exact fold_Without.mono _ _ _ _)
   | (with_reducible exact glazierlaw03_alive.mono _)
   | (with_reducible exact mark_Same.mono _ _ _ _ _)
   | (with_reducible exact LeO.refl _)
   | (with_reducible exact LeO.none _)
   | (with_reducible refine LeO.ite ?_ ?_)
   | (with_reducible refine LeO.bind ?_ (fun _ => ?_))
   | exact fold_Ends.mono _ _ _
   | exact fold_Lines.mono _ _ _
   | exact fold_Lower.mono _ _ _
   | exact fold_Trim.mono _ _ _
   | exact fold_Without.mono _ _ _ _
   | exact glazierlaw03_alive.mono _
   | exact mark_Same.mono _ _ _ _ _
   | exact LeO.none _
   | refine LeO.ite ?_ ?_
   | refine LeO.bind ?_ (fun _ => ?_)
end Go.Proofs.Ytljmmhihdcnbaaa.G
