/- SchemeDyed: an address of a stranger is safe just when it names no scheme. -/
import Derived.Test.YtljmmhihdcnbaaaPi
import Derived.Test.YtljmmhihdcnbaaaG100
namespace Go.Proofs.Ytljmmhihdcnbaaa.G
open Go.RowKit Go.Proofs.YtljmmhihdcnbaaaW.PrintWords Go.Proofs.YtljmmhihdcnbaaaW.PrintLast Go.Proofs.YtljmmhihdcnbaaaW.PrintMore
set_option linter.unusedVariables false
set_option linter.unusedSimpArgs false
theorem readyL_mem {l : List Lc} {c : Lc} (h : c ∈ readyL l) : c ∈ l := mem_trimL (List.mem_filter.1 h).1
theorem colon_at (r : List Lc) (h : 0 ≤ colonOf r) : (colonOf r).toNat < r.length := by have := colonOf_range r; omega
theorem SchemeDyed_pure (t : ByteArray) (o : Int) (ht : t.size ≤ 1048576) (ho : (Lit.int .i64 o).wf = true) : ∃ k, glazierlaw07_SchemeDyed.f k t o = some true := by
  refine Ev.rounds ?_
  unfold glazierlaw07_SchemeDyed.f
  refine Ev.bind Scheme_alive ?_
  simp only [if_true]
  rw [Of_spec t _ (by omega)]
  simp only [Option.bind_some]
  have hO := allO_ok t.data.toList (mx o 1)
  have hl : (allO t.data.toList (mx o 1)).length = t.size := by unfold allO; rw [List.length_map, size_list]
  refine Ev.bind (Scheme_canon hO (by omega)) ?_
  refine Ev.bind (Safe_canon hO (by omega)) ?_
  have e : (safeL (readyL (allO t.data.toList (mx o 1))) == !decide (0 ≤ colonOf (readyL (allO t.data.toList (mx o 1))))) = true := by
    unfold safeL
    by_cases h : 0 ≤ colonOf (readyL (allO t.data.toList (mx o 1)))
    · have hlt := colon_at _ h
      have hm := readyL_mem (List.getElem_mem hlt)
      obtain ⟨b, _, hb⟩ := List.mem_map.1 hm
      have h2 : (readyL (allO t.data.toList (mx o 1)))[(colonOf (readyL (allO t.data.toList (mx o 1)))).toNat].2 = nr (mx o 1) := by rw [← hb]
      have h3 : markAt (readyL (allO t.data.toList (mx o 1))) (colonOf (readyL (allO t.data.toList (mx o 1)))).toNat = nr (mx o 1) := by unfold markAt; rw [dif_pos hlt, h2]
      have h4 : (nr (mx o 1) == 0) = false := by rw [beq_eq_false_iff_ne]; unfold nr mx; omega
      rw [if_pos h, h3, h4, decide_eq_true h]
      simp
    · rw [if_neg h, decide_eq_false h]
      rfl
  rw [e]
  exact Ev.now _
end Go.Proofs.Ytljmmhihdcnbaaa.G
