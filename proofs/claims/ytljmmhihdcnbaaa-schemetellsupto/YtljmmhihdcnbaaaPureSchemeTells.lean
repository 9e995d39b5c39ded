/- SchemeTells: what is let through is what the page says. -/
import Derived.Test.YtljmmhihdcnbaaaPi
import Derived.Test.YtljmmhihdcnbaaaG51
import Derived.Test.YtljmmhihdcnbaaaG103
namespace Go.Proofs.Ytljmmhihdcnbaaa.G
open Go.RowKit Go.Proofs.YtljmmhihdcnbaaaW.PrintWords Go.Proofs.YtljmmhihdcnbaaaW.PrintLast Go.Proofs.YtljmmhihdcnbaaaW.PrintMore
set_option linter.unusedVariables false
set_option linter.unusedSimpArgs false
theorem worst_snoc (os : List Int) (o : Int) : worst (os ++ [o]) = max (worst os) o := by unfold worst; rw [List.foldl_append]; rfl
theorem worst_nonneg (os : List Int) : 0 ≤ worst os := by
  rcases snoc_cases os with rfl | ⟨a, o, rfl⟩
  · exact Int.le_refl _
  · have := worst_nonneg a
    rw [worst_snoc]
    omega
  termination_by os.length
  decreasing_by simp_all
theorem j1_spec (t : ByteArray) (rs : List S85) (ht : t.size ≤ 1048576) (hr : rs.length ≤ 1048576) (s' : List S85) :
    Ev (fun k => glazierlaw07_SchemeTells.j1 k (knownB (canon (schemeL (readyL (La t rs)))).1) (safeL (readyL (La t rs))) t rs (canon (schemeL (readyL (La t rs)))).1 s' (canon (readyL (La t rs))).1 (canon (readyL (La t rs))).2) true := by
  have hO := readyL_ok (La_ok t rs)
  have hl := readyL_length (La t rs)
  have hn := La_length t rs
  have hc := canon_runs (readyL (La t rs))
  refine Ev.step (fun _ => rfl) ?_
  simp only [glazierlaw07_SchemeTells.j1]
  refine Ev.bind (Filter_spec t rs (by omega) (by omega)) (Ev.bind (Safe_spec t rs (by omega) (by omega)) ?_)
  cases safeL (readyL (La t rs)) with
  | false =>
    simp only [bne_self_eq_false, Bool.false_eq_true, if_false]
    refine Ev.bind (Known_spec _) ?_
    refine Ev.step1 (Ev.now _) (fun k => ?_)
    simp only [glazierlaw07_SchemeTells.j2, bne_self_eq_false, Bool.false_eq_true, if_false]
    exact congrArg some (by decide +kernel)
  | true =>
    simp only [bne_self_eq_false, Bool.false_eq_true, if_false, if_true]
    refine Ev.bind (Known_spec _) ?_
    refine Ev.step1 (f := fun k => (mark_Same.f k (canon (readyL (La t rs))).1 (canon (readyL (La t rs))).2 (canon (readyL (La t rs))).1 (canon (readyL (La t rs))).2).bind fun b => some b) (Ev.bind (Same_spec _ _ _ _ rfl (by rw [canon_size]; omega) (by omega) (by omega)) (Ev.now _)) (fun k => ?_)
    simp only [glazierlaw07_SchemeTells.j2, bne_self_eq_false, Bool.false_eq_true, if_false, if_true]
theorem j0_spec (t : ByteArray) (rs : List S85) (ht : t.size ≤ 1048576) (hr : rs.length ≤ 1048576) (s' : List S85) :
    Ev (fun k => glazierlaw07_SchemeTells.j0 k (decide (0 ≤ colonOf (readyL (La t rs)))) (knownB (canon (schemeL (readyL (La t rs)))).1) t rs (canon (schemeL (readyL (La t rs)))).1 s' (canon (readyL (La t rs))).1 (canon (readyL (La t rs))).2) true := by
  have hO := readyL_ok (La_ok t rs)
  have hl := readyL_length (La t rs)
  have hn := La_length t rs
  have hrange := colonOf_range (readyL (La t rs))
  have h1 := j1_spec t rs ht hr s'
  refine Ev.step (fun _ => rfl) ?_
  simp only [glazierlaw07_SchemeTells.j0]
  by_cases h : 0 ≤ colonOf (readyL (La t rs))
  · simp only [decide_eq_true h, if_true]
    cases hk : knownB (canon (schemeL (readyL (La t rs)))).1 with
    | false =>
      have e : safeL (readyL (La t rs)) = false := by unfold safeL; rw [if_pos h, hk]; rfl
      rw [e, hk] at h1
      simp only [Bool.false_eq_true, if_false]
      exact h1
    | true =>
      simp only [if_true]
      rw [schemeL_size h, w64 (by omega) (by omega)]
      refine Ev.bind (Cut_canon hO (by omega) _ _) ?_
      refine Ev.bind (Worst_canon (hO.cut _ _) (by have := cutL_length (readyL (La t rs)) 0 (((colonOf (readyL (La t rs))).toNat : Int) + 1); omega)) ?_
      have hlt : (colonOf (readyL (La t rs))).toNat < (readyL (La t rs)).length := by omega
      have e1 : cutL (readyL (La t rs)) 0 (((colonOf (readyL (La t rs))).toNat : Int) + 1) = (readyL (La t rs)).take (colonOf (readyL (La t rs))).toNat ++ [(readyL (La t rs))[(colonOf (readyL (La t rs))).toNat]] := by
        have := cutL_nat (readyL (La t rs)) 0 ((colonOf (readyL (La t rs))).toNat + 1) (by omega) (by omega)
        rw [List.drop_zero] at this
        rw [← List.take_succ_eq_append_getElem hlt, ← this]
        rfl
      have e2 : (schemeL (readyL (La t rs))).map (·.2) = ((readyL (La t rs)).take (colonOf (readyL (La t rs))).toNat).map (·.2) := by
        unfold schemeL
        rw [if_neg (by omega)]
        unfold lowL
        rw [List.map_map]
        rfl
      have e : safeL (readyL (La t rs)) = (worst ((cutL (readyL (La t rs)) 0 (((colonOf (readyL (La t rs))).toNat : Int) + 1)).map (·.2)) == 0) := by
        unfold safeL
        rw [if_pos h, hk, Bool.true_and, e2, e1, List.map_append, List.map_singleton, worst_snoc]
        unfold markAt
        rw [dif_pos hlt]
        have w0 := worst_nonneg (((readyL (La t rs)).take (colonOf (readyL (La t rs))).toNat).map (·.2))
        have w1 := (hO.get hlt).1
        generalize worst (((readyL (La t rs)).take (colonOf (readyL (La t rs))).toNat).map (·.2)) = x at w0 ⊢
        generalize ((readyL (La t rs))[(colonOf (readyL (La t rs))).toNat]).2 = y at w1 ⊢
        by_cases hx : x = 0
        · by_cases hy : y = 0
          · subst hx; subst hy; rfl
          · rw [beq_eq_false_iff_ne.2 hy, beq_eq_false_iff_ne.2 (show max x y ≠ 0 by omega), Bool.and_false]
        · rw [beq_eq_false_iff_ne.2 hx, beq_eq_false_iff_ne.2 (show max x y ≠ 0 by omega), Bool.false_and]
      rw [← e]
      rw [hk] at h1
      exact h1
  · have e : safeL (readyL (La t rs)) = true := by unfold safeL; rw [if_neg h]
    rw [e] at h1
    simp only [decide_eq_false h, Bool.false_eq_true, if_false]
    exact h1
theorem SchemeTells_pure (t : ByteArray) (rs : List S85) (ht : t.size ≤ 1048576) (hr : rs.length ≤ 1048576) : ∃ k, glazierlaw07_SchemeTells.f k t rs = some true := by
  refine Ev.rounds ?_
  unfold glazierlaw07_SchemeTells.f
  refine Ev.bind Scheme_alive ?_
  simp only [if_true]
  refine Ev.bind (Scheme_spec t rs (by omega) (by omega)) (Ev.bind (Ready_spec t rs (by omega) (by omega)) ?_)
  have h0 := j0_spec t rs ht hr (canon (schemeL (readyL (La t rs)))).2
  have e : ∀ a : ByteArray, knownB a = (a.toList == ([104, 116, 116, 112] : List UInt8) || (a.toList == ([104, 116, 116, 112, 115] : List UInt8) || (a.toList == ([109, 97, 105, 108, 116, 111] : List UInt8)))) := by
    intro a
    unfold knownB
    simp only [List.any_cons, List.any_nil, Bool.or_false]
    rw [show http.toList = ([104, 116, 116, 112] : List UInt8) by decide +kernel, show https.toList = ([104, 116, 116, 112, 115] : List UInt8) by decide +kernel, show mailto.toList = ([109, 97, 105, 108, 116, 111] : List UInt8) by decide +kernel]
  rw [e] at h0
  by_cases a1 : (canon (schemeL (readyL (La t rs)))).1.toList = ([104, 116, 116, 112] : List UInt8)
  · simp only [if_pos a1]
    rw [beq_iff_eq.2 a1, Bool.true_or] at h0
    exact h0
  · simp only [if_neg a1]
    rw [beq_eq_false_iff_ne.2 a1, Bool.false_or] at h0
    by_cases a2 : (canon (schemeL (readyL (La t rs)))).1.toList = ([104, 116, 116, 112, 115] : List UInt8)
    · simp only [if_pos a2]
      rw [beq_iff_eq.2 a2, Bool.true_or] at h0
      exact h0
    · simp only [if_neg a2]
      rw [beq_eq_false_iff_ne.2 a2, Bool.false_or] at h0
      exact h0
end Go.Proofs.Ytljmmhihdcnbaaa.G
