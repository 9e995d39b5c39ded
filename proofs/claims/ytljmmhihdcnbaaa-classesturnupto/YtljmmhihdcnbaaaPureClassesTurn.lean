/- ClassesTurn: what is turned twice has the same words; what is added is there, what is dropped is not. -/
import Derived.Test.YtljmmhihdcnbaaaPo
import Derived.Test.YtljmmhihdcnbaaaG91
import Derived.Test.YtljmmhihdcnbaaaG95
namespace Go.Proofs.Ytljmmhihdcnbaaa.G
open Go.RowKit Go.Proofs.YtljmmhihdcnbaaaW.PrintWords Go.Proofs.YtljmmhihdcnbaaaW.PrintLast Go.Proofs.YtljmmhihdcnbaaaW.PrintMore
set_option linter.unusedVariables false
set_option linter.unusedSimpArgs false
theorem Classes_alive : Ev (fun k => glazierlaw41_alive.f k) true := Ev.of (fun k => glazierlaw41_alive.mono k) (k := 60) (by decide +kernel)
theorem bsL_allO (t : List UInt8) (o : Int) : bsL (allO t o) = t := by
  unfold bsL allO
  rw [List.map_map]
  exact List.map_id t
/-- A word as it is told is not empty and has no spaces. -/
theorem one_word {W : List Lc} (h : oneL W = true) : W ≠ [] ∧ ∀ c ∈ W, qB sps c = false := by
  unfold oneL at h
  match hf : fieldsL W, h with
  | [x], h =>
    have hx := fieldsA_mem (p := qB sps) (l := W) (x := x) (by rw [show fieldsA (qB sps) W = [x] from hf]; simp)
    have he : bsL x = bsL W := by simpa using h
    have hl : x.length = W.length := by have := congrArg List.length he; simpa [bsL] using this
    refine ⟨fun e => ?_, fun c hc => ?_⟩
    · rw [e] at hl
      exact hx.1 (List.eq_nil_of_length_eq_zero (by simpa using hl))
    · have hm : c.1 ∈ bsL x := by rw [he]; exact List.mem_map_of_mem hc
      obtain ⟨d, hd, e⟩ := List.mem_map.1 hm
      have := (hx.2 d hd).1
      unfold qB at this ⊢
      rw [← e]
      exact this
theorem one_none {W : List Lc} (h : ¬ oneL W = true) (x : List Lc) (hf : fieldsL W = [x]) : ¬ bsL x = bsL W := fun e => h (by unfold oneL; rw [hf]; simpa using e)
set_option maxHeartbeats 1600000 in
theorem ClassesTurn_pure (t : ByteArray) (rs : List S85) (a : ByteArray) (ht : t.size ≤ 1048576) (hr : rs.length ≤ 1048576) (ha : a.size + 1 ≤ 1048577) : ∃ k, glazierlaw41_ClassesTurn.f k t rs a = some true := by
  refine Ev.rounds ?_
  unfold glazierlaw41_ClassesTurn.f
  refine Ev.bind Classes_alive ?_
  simp only [if_true]
  rw [Of_spec a 0 (by omega)]
  simp only [Option.bind_some]
  obtain ⟨W, hW⟩ : ∃ W, W = allO a.data.toList 0 := ⟨_, rfl⟩
  rw [← hW]
  have hO : Okl W := hW ▸ allO_ok _ _
  have hwl : W.length = a.size := by rw [hW]; unfold allO; rw [List.length_map, size_list]
  have hwt : bsL W = a.data.toList := by rw [hW, bsL_allO]
  have hn := La_length t rs
  have hg := words_gd (La_ok t rs)
  have hws := wordsL_num (La t rs)
  have hwf := wordsL_flat (La t rs)
  obtain ⟨ws, hwe⟩ : ∃ ws, ws = wordsL (La t rs) := ⟨_, rfl⟩
  have hT := Turn_spec t rs W hO (by omega) (by omega) (by omega)
  have hA := Add_spec t rs W hO (by omega) (by omega) (by omega)
  have hH := Has_spec t rs a (by omega) (by omega)
  have hD := Drop_spec t rs a (by omega) (by omega)
  have hWs := Words_spec t rs (by omega) (by omega)
  rw [← hwe] at hT hA hH hD hWs hg hws hwf
  by_cases ho : oneL W = true
  · have hword := one_word ho
    rw [if_pos ho] at hT hA
    -- what is turned, and turned again
    have hlen : ∀ us : List (List Lc), us.flatten.length ≤ 3145728 → us.length ≤ 3145728 → (joinA sp us).length ≤ 6291456 := fun us h1 h2 => by
      have := join_len us
      omega
    have hg1 : Gd (turnT ws W) := by
      unfold turnT
      split
      · exact hg.drop _
      · rename_i h
        exact hg.snoc hword hO (by simpa using h)
    have hs1 : (turnT ws W).flatten.length ≤ 2097152 ∧ (turnT ws W).length ≤ 1048578 := by
      unfold turnT
      split
      · have h1 : (dropT ws (bsL W)).flatten.length ≤ ws.flatten.length := flat_filter _ _
        have h2 : (dropT ws (bsL W)).length ≤ ws.length := List.length_filter_le _ _
        omega
      · rw [flat_snoc, List.length_append, List.length_append, List.length_singleton]
        omega
    have hg2 : Gd (turnT (turnT ws W) W) := by
      generalize turnT ws W = us at hg1
      unfold turnT
      split
      · exact hg1.drop _
      · rename_i h
        exact hg1.snoc hword hO (by simpa using h)
    have hs2 : (turnT (turnT ws W) W).flatten.length ≤ 3145728 ∧ (turnT (turnT ws W) W).length ≤ 1048579 := by
      generalize turnT ws W = us at hs1
      unfold turnT
      split
      · have h1 : (dropT us (bsL W)).flatten.length ≤ us.flatten.length := flat_filter _ _
        have h2 : (dropT us (bsL W)).length ≤ us.length := List.length_filter_le _ _
        omega
      · rw [flat_snoc, List.length_append, List.length_append, List.length_singleton]
        omega
    have hga : Gd (addT ws W) := by
      unfold addT
      split
      · exact hg
      · rename_i h
        exact hg.snoc hword hO (by simpa using h)
    have hsa : (addT ws W).flatten.length ≤ 2097152 ∧ (addT ws W).length ≤ 1048578 := by
      unfold addT
      split
      · omega
      · rw [flat_snoc, List.length_append, List.length_append, List.length_singleton]
        omega
    have hl1 := hlen _ (by omega : (turnT ws W).flatten.length ≤ 3145728) (by omega)
    have hl2 := hlen _ hs2.1 (by omega)
    have hla := hlen _ (by omega : (addT ws W).flatten.length ≤ 3145728) (by omega)
    have ok1 := joinA_ok sp_ok hg1.ok
    have ok2 := joinA_ok sp_ok hg2.ok
    have oka := joinA_ok sp_ok hga.ok
    have hgd := hg.drop a.data.toList
    have hsd : (dropT ws a.data.toList).flatten.length ≤ ws.flatten.length := flat_filter _ _
    have hnd : (dropT ws a.data.toList).length ≤ ws.length := List.length_filter_le _ _
    have hld := hlen (dropT ws a.data.toList) (by omega) (by omega)
    have okd := joinA_ok sp_ok hgd.ok
    have hT2 := Turn_canon ok1 W hO (by omega) (by omega)
    rw [if_pos ho, words_join hg1] at hT2
    have hH1 := Has_canon ok1 (by omega) a
    have hH2 := Has_canon ok2 (by omega) a
    have hHa := Has_canon oka (by omega) a
    have hHd := Has_canon okd (by omega) a
    have hW2 := Words_canon ok2 (by omega)
    rw [words_join hg1] at hH1
    rw [words_join hg2] at hH2 hW2
    rw [words_join hga] at hHa
    rw [words_join hgd, has_drop] at hHd
    -- the plain law
    have e1 : hasT (turnT ws W) a.data.toList = !hasT ws a.data.toList := by
      rw [← hwt]
      unfold turnT
      split
      · rename_i h
        rw [has_drop, h]
        rfl
      · rename_i h
        rw [has_snoc, Bool.eq_false_iff.2 h]
        rfl
    have e2 : hasT (turnT (turnT ws W) W) a.data.toList = hasT ws a.data.toList := by
      have h1 : hasT (turnT (turnT ws W) W) (bsL W) = !hasT (turnT ws W) (bsL W) := by
        generalize turnT ws W = us
        unfold turnT
        split
        · rename_i h
          rw [has_drop, h]
          rfl
        · rename_i h
          rw [has_snoc, Bool.eq_false_iff.2 h]
          rfl
      rw [hwt] at h1
      rw [h1, e1, Bool.not_not]
    have e3 : hasT (addT ws W) a.data.toList = true := by
      rw [← hwt]
      unfold addT
      split
      · rename_i h; exact h
      · exact has_snoc ws W
    have e4 : (turnT (turnT ws W) W).length = ws.length := by
      have h1 : hasT (turnT ws W) (bsL W) = !hasT ws (bsL W) := by rw [hwt]; exact e1
      by_cases h : hasT ws (bsL W) = true
      · have h2 : turnT ws W = dropT ws (bsL W) := by unfold turnT; rw [if_pos h]
        have h3 : turnT (turnT ws W) W = turnT ws W ++ [W] := by
          rw [show turnT (turnT ws W) W = if hasT (turnT ws W) (bsL W) = true then dropT (turnT ws W) (bsL W) else turnT ws W ++ [W] from rfl, if_neg (by rw [h1, h]; simp)]
        rw [h3, h2, List.length_append, List.length_singleton]
        refine apart_drop bsL ws (bsL W) hg.apart ?_
        obtain ⟨X, hX, he⟩ := List.any_eq_true.1 h
        exact ⟨X, hX, by simpa using he⟩
      · have h2 : turnT ws W = ws ++ [W] := by unfold turnT; rw [if_neg h]
        have h3 : turnT (turnT ws W) W = dropT (turnT ws W) (bsL W) := by
          rw [show turnT (turnT ws W) W = if hasT (turnT ws W) (bsL W) = true then dropT (turnT ws W) (bsL W) else turnT ws W ++ [W] from rfl, if_pos (by rw [h1, Bool.eq_false_iff.2 h]; rfl)]
        have h4 := apart_drop bsL (turnT ws W) (bsL W) hg1.apart ⟨W, by rw [h2]; simp, rfl⟩
        rw [h3]
        rw [h2] at h4 ⊢
        simp only [List.length_append, List.length_singleton] at h4
        have h5 : (dropT (ws ++ [W]) (bsL W)).length + 1 = ws.length + 1 := h4
        omega
    refine Ev.bind hT (Ev.bind hT2 ?_)
    simp only [if_true]
    refine Ev.bind hA ?_
    simp only []
    refine Ev.bind hH1 (Ev.bind hH ?_)
    rw [e1]
    simp only [show ((!hasT ws a.data.toList) != hasT ws a.data.toList) = true by cases hasT ws a.data.toList <;> rfl, if_true]
    refine Ev.bind hH2 (Ev.bind hH ?_)
    rw [e2]
    simp only [beq_self_eq_true, if_true]
    refine Ev.bind hHa ?_
    rw [e3]
    simp only [if_true]
    refine Ev.bind hD (Ev.bind hHd ?_)
    simp only [Bool.false_eq_true, if_false]
    refine Ev.bind hW2 (Ev.bind hWs ?_)
    simp only [List.length_map, e4, beq_self_eq_true]
    exact Ev.now _
  · rw [if_neg ho] at hT
    have hT2 := Turn_canon (l := []) Okl.nil W hO (by simp) (by omega)
    rw [if_neg ho] at hT2
    refine Ev.bind hT (Ev.bind hT2 ?_)
    have hF := Fields_canon hO (by omega)
    simp only [show ¬ ((16 : Int) = 0) by decide, if_false, if_true]
    refine Ev.bind hF ?_
    by_cases h1 : (fieldsL W).length = 1
    · obtain ⟨x, hx⟩ := List.length_eq_one_iff.1 h1
      have h2 := one_none ho x hx
      rw [hx] at hF ⊢
      simp only [List.map_cons, List.map_nil, List.length_cons, List.length_nil, show (((0 + 1 : Nat) : Int) = 1) by rfl, if_true]
      refine Ev.bind hF ?_
      have e : rd_T24 [mkS x] 0 = mkS x := rfl
      simp only [List.map_cons, List.map_nil, List.length_cons, List.length_nil, e]
      rw [hwt] at h2
      have h3 : ((mkS x).f0.toList != a.toList) = true := by
        rw [mkS_text, ByteArray.toList_eq]
        exact bne_iff_ne.2 h2
      simp only [show ((0 : Int) < ((0 + 1 : Nat) : Int)) by decide, if_true, h3]
      exact Ev.now _
    · simp only [show ¬ (((fieldsL W).map mkS).length : Int) = 1 by rw [List.length_map]; omega, if_false]
      exact Ev.now _
end Go.Proofs.Ytljmmhihdcnbaaa.G
