/- SchemeBack: what is let through is safe. -/
import Derived.Test.YtljmmhihdcnbaaaPi
import Derived.Test.YtljmmhihdcnbaaaG102
namespace Go.Proofs.Ytljmmhihdcnbaaa.G
open Go.RowKit Go.Proofs.YtljmmhihdcnbaaaW.PrintWords Go.Proofs.YtljmmhihdcnbaaaW.PrintLast Go.Proofs.YtljmmhihdcnbaaaW.PrintMore
set_option linter.unusedVariables false
set_option linter.unusedSimpArgs false
theorem SchemeBack_pure (t : ByteArray) (rs : List S85) (ht : t.size ≤ 1048576) (hr : rs.length ≤ 1048576) : ∃ k, glazierlaw07_SchemeBack.f k t rs = some true := by
  refine Ev.rounds ?_
  unfold glazierlaw07_SchemeBack.f
  refine Ev.bind Scheme_alive ?_
  simp only [if_true]
  refine Ev.bind (Filter_spec t rs (by omega) (by omega)) ?_
  have hO := readyL_ok (La_ok t rs)
  have hl := readyL_length (La t rs)
  have hn := La_length t rs
  cases h : safeL (readyL (La t rs)) with
  | false =>
    simp only [Bool.false_eq_true, if_false]
    exact Ev.eq (Ev.now true) (fun _ => congrArg some (by decide +kernel))
  | true =>
    simp only [if_true]
    have := Safe_canon hO (by omega)
    rw [readyL_idem, h] at this
    exact Ev.bind this (Ev.now _)
end Go.Proofs.Ytljmmhihdcnbaaa.G
