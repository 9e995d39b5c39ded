-- Written for this claim by hybrid.py's copy of the print program (a program of this session); not trusted: Lean checks it.
import Derived.Test.YtljmmhihdcnbaaaG0
namespace Go.Proofs.Ytljmmhihdcnbaaa.G
open Go.RowKit Go.Proofs.YtljmmhihdcnbaaaW.PrintWords Go.Proofs.YtljmmhihdcnbaaaW.PrintLast Go.Proofs.YtljmmhihdcnbaaaW.PrintMore
attribute [local go_sem] max2_int min2_int max_two min_two max_three min_three max_four min_four   -- for this text's walks alone
set_option linter.unusedVariables false
set_option linter.unusedSimpArgs false

/-! ### scheme_Names: function 113 -/
def scheme_Names.f : Option (List ByteArray) := some [⟨#[104, 116, 116, 112]⟩, ⟨#[104, 116, 116, 112, 115]⟩, ⟨#[109, 97, 105, 108, 116, 111]⟩]
set_option maxHeartbeats 1600000 in
set_option maxRecDepth 100000 in
theorem scheme_Names.calls (r : List ByteArray) (w : World) (h : scheme_Names.f = some r) :
    Calls Try.prog 113 #[] w fun e w' => ∃ v0_ : Value, e = .returned v0_ ∧ Kd.R Kd.string 121 w' w.heap.size (fun _ => True) v0_ r ∧ Below w.heap.size w w' := by
  obtain rfl := Option.some.inj h
  have hu := Try.underlying121
  have hu9 := Try.underlying9
  go_enter Try.func113, Try.ntmps113
  go_wp2
  go_ret
  exact ⟨_, rfl, Kd.R_of_own (enc := Value.string) ⟨rfl, .inr ⟨w.heap.size, 3, _, rfl, Nat.le_refl _, blk_new _ _, Nat.le_refl _, by unfold maxLen; omega, rfl, rfl⟩⟩ (fun _ _ => trivial), (Below.refl _ _).alloc (Nat.le_refl _) _⟩

end Go.Proofs.Ytljmmhihdcnbaaa.G
