/- StyleTwice answers true. -/
import Derived.Test.YtljmmhihdcnbaaaDoorPu
import Derived.Test.YtljmmhihdcnbaaaDoorG63
namespace Go.Proofs.YtljmmhihdcnbaaaDoor.G
open Go.RowKit Go.Proofs.YtljmmhihdcnbaaaDoorW.PrintWords Go.Proofs.YtljmmhihdcnbaaaDoorW.PrintLast Go.Proofs.YtljmmhihdcnbaaaDoorW.PrintMore
set_option linter.unusedVariables false
set_option linter.unusedSimpArgs false
theorem Style_alive : Ev (fun k => glazierlaw44_alive.f k) true := Ev.of (fun k => glazierlaw44_alive.mono k) (k := 40) (by decide +kernel)
theorem Twice_loop (l : List Lc) (h : Okl l) (hl : l.length ≤ 100000000) (hf : ∀ c ∈ l, inB badB c.1 = false) (hc : cleanL l = l) : ∀ (d i : Nat), i + d = l.length → Ev (fun k => glazierlaw44_StyleTwice.l0 k (i : Int) (canon l).1 (canon l).2) true := by
  intro d
  have hs := canon_size l
  have hr := canon_runs l
  induction d with
  | zero =>
    intro i hi
    refine Ev.step (f := ?ff) ?hh ?kk
    case hh =>
      intro k
      simp only [glazierlaw44_StyleTwice.l0]
      rw [if_neg (by omega)]
    case kk =>
      refine Ev.bind (Clean_canon h hl) ?_
      rw [hc]
      exact Ev.bind (Same_spec _ _ _ _ rfl (by omega) (by omega) (by omega)) (Ev.now _)
  | succ d ih =>
    intro i hi
    have hlt : i < l.length := by omega
    have hb : bt (canon l).1 (i : Int) = (l[i].1.toNat : Int) := by
      have hL := La_canon h
      have h1 : i < (La (canon l).1 (canon l).2).length := by rw [hL]; exact hlt
      rw [La_get h1]
      congr 3
      simp only [hL]
    refine Ev.step (f := ?ff2) ?hh2 ?kk2
    case hh2 =>
      intro k
      simp only [glazierlaw44_StyleTwice.l0]
      rw [if_pos (by omega), if_pos (by omega), hb, w64 (by omega) (by omega)]
    case kk2 =>
      refine Ev.bind (In_spec badB (by decide) l[i].1) ?_
      rw [hf _ (List.getElem_mem hlt)]
      simp only [Bool.false_eq_true, if_false]
      exact ih (i + 1) (by omega)
theorem StyleTwice_spec (t : ByteArray) (rs : List S56) (ht : t.size ≤ 1048576) (hr : rs.length ≤ 1048576) : Ev (fun k => glazierlaw44_StyleTwice.f k t rs) true := by
  have hn := La_length t rs
  have hl := cleanL_length (La t rs)
  unfold glazierlaw44_StyleTwice.f
  refine Ev.bind Style_alive ?_
  simp only [if_true]
  refine Ev.bind (Clean_spec t rs (by omega) (by omega)) ?_
  exact Twice_loop _ (cleanL_ok (La_ok t rs)) (by omega) (clean_free _) (clean_twice _) _ 0 (Nat.zero_add _)
theorem StyleTwice_pure (t : ByteArray) (rs : List S56) (ht : t.size ≤ 1048576) (hr : rs.length ≤ 1048576) : ∃ k, glazierlaw44_StyleTwice.f k t rs = some true := (StyleTwice_spec t rs ht hr).rounds
end Go.Proofs.YtljmmhihdcnbaaaDoor.G
