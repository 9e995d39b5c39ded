/- fold's Lines as a plain list function. -/
import Derived.Test.YtljmmhihdcnbaaaPe
import Derived.Test.YtljmmhihdcnbaaaG10
namespace Go.Proofs.Ytljmmhihdcnbaaa.G
open Go.RowKit Go.Proofs.YtljmmhihdcnbaaaW.PrintWords Go.Proofs.YtljmmhihdcnbaaaW.PrintLast Go.Proofs.YtljmmhihdcnbaaaW.PrintMore
set_option linter.unusedVariables false
set_option linter.unusedSimpArgs false

def linesL : List Lc → List Lc
  | [] => []
  | [c] => if c.1 = 13 then [(10, c.2)] else [c]
  | c :: e :: l => if c.1 = 13 then (if e.1 = 10 then (10, max c.2 e.2) :: linesL l else (10, c.2) :: linesL (e :: l)) else c :: linesL (e :: l)
theorem linesL_ok : ∀ (l : List Lc), Okl l → Okl (linesL l)
  | [], _ => Okl.nil
  | [c], h => by
    have := h c (by simp)
    unfold linesL
    split
    · exact Okl.one this
    · exact h
  | c :: e :: l, h => by
    have h1 := h c (by simp)
    have h2 := h e (by simp)
    have ih1 := linesL_ok l (fun x hx => h x (by simp [hx]))
    have ih2 := linesL_ok (e :: l) (fun x hx => h x (by simp [hx]))
    unfold linesL
    split
    · split
      · exact Okl.app (a := [_]) (Okl.one (by constructor <;> omega)) ih1
      · exact Okl.app (a := [_]) (Okl.one h1) ih2
    · exact Okl.app (a := [_]) (Okl.one h1) ih2
theorem linesL_length : ∀ (l : List Lc), (linesL l).length ≤ l.length
  | [] => Nat.le_refl _
  | [c] => by unfold linesL; split <;> simp
  | c :: e :: l => by
    have ih1 := linesL_length l
    have ih2 := linesL_length (e :: l)
    unfold linesL
    split
    · split
      · simp; omega
      · simp at ih2 ⊢; omega
    · simp at ih2 ⊢; omega
theorem linesL_two {l : List Lc} {i : Nat} (h : i + 1 < l.length) (h1 : l[i].1 = 13) (h2 : l[i + 1].1 = 10) : linesL (l.drop i) = (10, max l[i].2 l[i + 1].2) :: linesL (l.drop (i + 2)) := by
  rw [List.drop_eq_getElem_cons (by omega), List.drop_eq_getElem_cons h, linesL, if_pos h1, if_pos h2]
theorem linesL_ret {l : List Lc} {i : Nat} (h : i < l.length) (h1 : l[i].1 = 13) (h2 : ∀ h' : i + 1 < l.length, l[i + 1].1 ≠ 10) : linesL (l.drop i) = (10, l[i].2) :: linesL (l.drop (i + 1)) := by
  by_cases h3 : i + 1 < l.length
  · rw [List.drop_eq_getElem_cons h, List.drop_eq_getElem_cons h3, linesL, if_pos h1, if_neg (h2 h3)]
  · rw [List.drop_eq_getElem_cons h, List.drop_eq_nil_of_le (by omega)]
    simp [linesL, h1]
theorem linesL_else {l : List Lc} {i : Nat} (h : i < l.length) (h1 : l[i].1 ≠ 13) : linesL (l.drop i) = l[i] :: linesL (l.drop (i + 1)) := by
  by_cases h3 : i + 1 < l.length
  · rw [List.drop_eq_getElem_cons h, List.drop_eq_getElem_cons h3, linesL, if_neg h1]
  · rw [List.drop_eq_getElem_cons h, List.drop_eq_nil_of_le (by omega)]
    simp [linesL, h1]
theorem max_worst2 (a b : Int) (ha : 0 ≤ a) (hb : 0 ≤ b) : worst [a, b] = max a b := by
  unfold worst
  simp only [List.foldl_cons, List.foldl_nil]
  omega
theorem Lines_loop (t : ByteArray) (rs : List S85) (ht : t.size ≤ 1099511627776) (hr : rs.length ≤ 1099511627776) : ∀ (d i : Nat) (Xs : List (List Lc)), i + d = (La t rs).length → (∀ X ∈ Xs, Okl X) → Xs.length ≤ i → Xs.flatten.length ≤ i →
    Ev (fun k => fold_Lines.l0 k (Xs.map mkS) (i : Int) t rs) (canon (Xs.flatten ++ linesL ((La t rs).drop i))) := by
  intro d
  have hn := La_length t rs
  have hO := La_ok t rs
  induction d using Nat.strongRecOn with
  | _ d ih =>
  intro i Xs hi hX hXl hXf
  by_cases hlt : i < (La t rs).length
  · have hb := La_get hlt
    have ho := hO.get hlt
    by_cases h13 : (La t rs)[i].1 = 13
    · have hb13 : bt t (i : Int) = 13 := by rw [hb, h13]; rfl
      by_cases h10 : ∃ h' : i + 1 < (La t rs).length, (La t rs)[i + 1].1 = 10
      · obtain ⟨hlt', h10⟩ := h10
        have hb10 : bt t ((i : Int) + 1) = 10 := by
          have := La_get hlt'
          rw [h10] at this
          exact this
        have ho' := hO.get hlt'
        rw [linesL_two hlt' h13 h10]
        have hm : 0 ≤ max (La t rs)[i].2 (La t rs)[i + 1].2 ∧ max (La t rs)[i].2 (La t rs)[i + 1].2 ≤ 65536 := by constructor <;> omega
        have h2 := ih (d - 2) (by omega) (i + 2) (Xs ++ [[(10, max (La t rs)[i].2 (La t rs)[i + 1].2)]]) (by omega) (fun X hx => by
          rcases List.mem_append.1 hx with hx | hx
          · exact hX X hx
          · rw [List.mem_singleton] at hx; subst hx; exact Okl.one hm) (by simp; omega) (by rw [flat_snoc, List.length_append, List.length_singleton]; omega)
        rw [flat_snoc, List.append_assoc, List.map_append] at h2
        refine Ev.step1 (f := fun k => fold_Lines.j1 k (Xs.map mkS) (i : Int) true t rs) ?_ (fun k => by
          simp only [fold_Lines.l0]
          rw [if_pos (by omega), if_pos (by omega), if_pos hb13, w64 (by omega) (by omega), if_pos (by omega), if_pos (by omega), hb10]
          rfl)
        refine Ev.step1 (f := fun k => (mark_Cut.f k t rs (i : Int) ((i : Int) + 2)).bind fun bt175 => ((mark_Worst.f k bt175.1 bt175.2).bind fun t179 => ((mark_Of.f (⟨#[10]⟩ : ByteArray) t179).bind fun bt180 => (if (Xs.map mkS).length < 3518437208883 then (fold_Lines.l0 k (Xs.map mkS ++ [(⟨bt180.1, bt180.2⟩ : S24)]) ((i : Int) + 2) t rs) else (none))))) ?_ (fun k => by
          simp only [fold_Lines.j1, if_true, Bool.false_eq_true, if_false]
          rw [w64 (by omega) (by omega), w64 (x := (i : Int) + 1) (by omega) (by omega), w64 (by omega) (by omega)]
          rfl)
        refine Ev.bind (Cut_spec t rs _ _ ht hr) ?_
        rw [cut_two hlt']
        refine Ev.bind (Worst_canon (fun c hc => by
          simp only [List.mem_cons, List.not_mem_nil, or_false] at hc
          rcases hc with rfl | rfl
          · exact ho
          · exact ho') (by simp)) ?_
        rw [List.map_cons, List.map_cons, List.map_nil, max_worst2 _ _ ho.1 ho'.1]
        simp only [of_one 10 _ hm, Option.bind_some]
        simp only [if_pos (show (Xs.map mkS).length < 3518437208883 from by rw [List.length_map]; omega)]
        exact h2
      · have hn10 : ∀ h' : i + 1 < (La t rs).length, (La t rs)[i + 1].1 ≠ 10 := fun h' h => h10 ⟨h', h⟩
        rw [linesL_ret hlt h13 hn10]
        have h2 := ih (d - 1) (by omega) (i + 1) (Xs ++ [[(10, (La t rs)[i].2)]]) (by omega) (fun X hx => by
          rcases List.mem_append.1 hx with hx | hx
          · exact hX X hx
          · rw [List.mem_singleton] at hx; subst hx; exact Okl.one ho) (by simp; omega) (by rw [flat_snoc, List.length_append, List.length_singleton]; omega)
        rw [flat_snoc, List.append_assoc, List.map_append] at h2
        refine Ev.step1 (f := fun k => fold_Lines.j1 k (Xs.map mkS) (i : Int) false t rs) ?_ (fun k => by
          simp only [fold_Lines.l0]
          rw [if_pos (by omega), if_pos (by omega), if_pos hb13, w64 (by omega) (by omega)]
          by_cases h' : i + 1 < (La t rs).length
          · have hb10 : bt t ((i : Int) + 1) ≠ 10 := by
              have := La_get h'
              intro h10
              rw [show (((i + 1 : Nat)) : Int) = (i : Int) + 1 from by omega, h10] at this
              exact hn10 h' ((u8_eq (by decide)).1 this.symm)
            rw [if_pos (by omega), if_pos (by omega), show (bt t ((i : Int) + 1) == 10) = false from beq_eq_false_iff_ne.2 hb10]
          · rw [if_neg (by omega)])
        refine Ev.step1 (f := fun k => (mark_At.f k t rs (i : Int)).bind fun t187 => ((mark_Of.f (⟨#[10]⟩ : ByteArray) t187).bind fun bt188 => (if (Xs.map mkS).length < 3518437208883 then (fold_Lines.l0 k (Xs.map mkS ++ [(⟨bt188.1, bt188.2⟩ : S24)]) ((i : Int) + 1) t rs) else (none)))) ?_ (fun k => by
          simp only [fold_Lines.j1, if_true, Bool.false_eq_true, if_false]
          rw [if_pos (by omega), if_pos (by omega), if_pos hb13, w64 (by omega) (by omega)])
        refine Ev.bind (At_spec t rs i hlt ht hr) ?_
        simp only [of_one 10 _ ho, Option.bind_some]
        simp only [if_pos (show (Xs.map mkS).length < 3518437208883 from by rw [List.length_map]; omega)]
        exact h2
    · have hb13 : ¬ bt t (i : Int) = 13 := fun h => h13 ((u8_eq (n := 13) (by decide)).1 (by rw [← hb]; exact h))
      rw [linesL_else hlt h13]
      have h2 := ih (d - 1) (by omega) (i + 1) (Xs ++ [[(La t rs)[i]]]) (by omega) (fun X hx => by
        rcases List.mem_append.1 hx with hx | hx
        · exact hX X hx
        · rw [List.mem_singleton] at hx; subst hx; exact Okl.one ho) (by simp; omega) (by rw [flat_snoc, List.length_append, List.length_singleton]; omega)
      rw [flat_snoc, List.append_assoc, List.map_append] at h2
      refine Ev.step1 (f := fun k => fold_Lines.j1 k (Xs.map mkS) (i : Int) false t rs) ?_ (fun k => by
        simp only [fold_Lines.l0]
        rw [if_pos (by omega), if_pos (by omega), if_neg hb13])
      refine Ev.step1 (f := fun k => (mark_Cut.f k t rs (i : Int) ((i : Int) + 1)).bind fun bt195 => (if (Xs.map mkS).length < 3518437208883 then (fold_Lines.l0 k (Xs.map mkS ++ [(⟨bt195.1, bt195.2⟩ : S24)]) ((i : Int) + 1) t rs) else (none))) ?_ (fun k => by
        simp only [fold_Lines.j1, if_true, Bool.false_eq_true, if_false]
        rw [if_pos (by omega), if_pos (by omega), if_neg hb13, w64 (by omega) (by omega)])
      refine Ev.bind (Cut_spec t rs _ _ ht hr) ?_
      rw [cut_one hlt]
      simp only [if_pos (show (Xs.map mkS).length < 3518437208883 from by rw [List.length_map]; omega)]
      exact h2
  · rw [List.drop_eq_nil_of_le (by omega), linesL, List.append_nil]
    refine Ev.step1 (f := fun k => (mark_Cat.f k (Xs.map mkS)).bind fun b => some (b.1, b.2)) ?_ (fun k => by
      simp only [fold_Lines.l0]
      rw [if_neg (by omega)])
    exact Ev.bind (Cat_mk Xs hX (by omega) (by omega)) (Ev.now _)
theorem Lines_spec (t : ByteArray) (rs : List S85) (ht : t.size ≤ 1099511627776) (hr : rs.length ≤ 1099511627776) : Ev (fun k => fold_Lines.f k t rs) (canon (linesL (La t rs))) := by
  have h := Lines_loop t rs ht hr (La t rs).length 0 [] (by omega) (fun _ h => by cases h) (by simp) (by simp)
  simpa [fold_Lines.f] using h
end Go.Proofs.Ytljmmhihdcnbaaa.G
