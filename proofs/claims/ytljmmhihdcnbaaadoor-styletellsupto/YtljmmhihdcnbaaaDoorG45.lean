-- Written for this claim by hybrid.py's copy of the print program (a program of this session); not trusted: Lean checks it.
import Derived.Test.YtljmmhihdcnbaaaDoorG0
namespace Go.Proofs.YtljmmhihdcnbaaaDoor.G
open Go.RowKit Go.Proofs.YtljmmhihdcnbaaaDoorW.PrintWords Go.Proofs.YtljmmhihdcnbaaaDoorW.PrintLast Go.Proofs.YtljmmhihdcnbaaaDoorW.PrintMore
attribute [local go_sem] max2_int min2_int max_two min_two max_three min_three max_four min_four   -- for this text's walks alone
set_option linter.unusedVariables false
set_option linter.unusedSimpArgs false

/-! ### strings_Trim: function 53 -/
/-- strings.Trim at a cutset of one byte. -/
def strings_Trim.f (a0 a1 : ByteArray) : Option ByteArray := match a1.data.toList with
  | [c] => if c.toNat < 128 ∧ a0.size ≤ 9223372036854775807 then some ⟨(Go.Lib.trimB a0.data.toList c).toArray⟩ else none
  | _ => none
theorem strings_Trim.calls (a0 a1 : ByteArray) (r : ByteArray) (w : World) (h : strings_Trim.f a0 a1 = some r) :
    Calls Tryd.prog 53 #[.string a0, .string a1] w fun e w' => e = .returned (.string r) ∧ Drawn0 w w' := by
  obtain ⟨⟨l⟩⟩ := a1
  unfold strings_Trim.f at h
  match l, h with
  | [c], h =>
    dsimp only at h
    split at h
    case isFalse => exact absurd h (by simp)
    rename_i hc
    obtain rfl := Option.some.inj h
    refine (Go.Proofs.Tryd.strings_Trim_one a0 c hc.1 w hc.2).mono fun e w' ⟨he, hw⟩ => ⟨he, ?_⟩
    rcases hw with hw | hw
    · exact hw ▸ Drawn0.refl w
    · exact ⟨1, hw⟩

end Go.Proofs.YtljmmhihdcnbaaaDoor.G
