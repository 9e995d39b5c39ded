/- UrlTwice: what is ready is ready; so its scheme is the same. -/
import Derived.Test.YtljmmhihdcnbaaaPg
import Derived.Test.YtljmmhihdcnbaaaG28
import Derived.Test.YtljmmhihdcnbaaaG52
namespace Go.Proofs.Ytljmmhihdcnbaaa.G
open Go.RowKit Go.Proofs.YtljmmhihdcnbaaaW.PrintWords Go.Proofs.YtljmmhihdcnbaaaW.PrintLast Go.Proofs.YtljmmhihdcnbaaaW.PrintMore
set_option linter.unusedVariables false
set_option linter.unusedSimpArgs false
theorem Url_alive : Ev (fun k => glazierlaw06_alive.f k) true := Ev.of (fun k => glazierlaw06_alive.mono k) (k := 60) (by decide +kernel)
theorem UrlTwice_pure (t : ByteArray) (rs : List S85) (ht : t.size ≤ 1099511627776) (hr : rs.length ≤ 1099511627776) : ∃ k, glazierlaw06_UrlTwice.f k t rs = some true := by
  refine Ev.rounds ?_
  unfold glazierlaw06_UrlTwice.f
  refine Ev.bind Url_alive ?_
  simp only [if_true]
  have hO := readyL_ok (La_ok t rs)
  have hl := readyL_length (La t rs)
  have hn := La_length t rs
  refine Ev.bind (Ready_spec t rs ht hr) (Ev.bind (Scheme_spec t rs ht hr) (Ev.bind (Scheme_canon hO (by omega)) ?_))
  rw [readyL_idem]
  have hle : decide (((canon (readyL (La t rs))).1.size : Int) ≤ (t.size : Int)) = true := decide_eq_true (by rw [canon_size]; omega)
  by_cases h : 0 ≤ colonOf (readyL (La t rs))
  · simp only [decide_eq_true h, if_true, hle, beq_self_eq_true]
    have hs := schemeL_length (readyL (La t rs))
    have hc := canon_runs (schemeL (readyL (La t rs)))
    refine Ev.bind (Same_spec _ _ _ _ rfl (by rw [canon_size]; omega) (by omega) (by omega)) ?_
    simp only [if_true]
    exact Ev.now _
  · simp only [decide_eq_false h, Bool.false_eq_true, if_false, hle, beq_self_eq_true, if_true]
    exact Ev.now _
end Go.Proofs.Ytljmmhihdcnbaaa.G
