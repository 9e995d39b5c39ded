/- BlanksTrust: a filled form is no worse than what it was filled with. -/
import Derived.Test.YtljmmhihdcnbaaaPm
import Derived.Test.YtljmmhihdcnbaaaG64
import Derived.Test.YtljmmhihdcnbaaaG63
import Derived.Test.YtljmmhihdcnbaaaG65
namespace Go.Proofs.Ytljmmhihdcnbaaa.G
open Go.RowKit Go.Proofs.YtljmmhihdcnbaaaW.PrintWords Go.Proofs.YtljmmhihdcnbaaaW.PrintLast Go.Proofs.YtljmmhihdcnbaaaW.PrintMore
set_option linter.unusedVariables false
set_option linter.unusedSimpArgs false
theorem Blanks_alive : Ev (fun k => glazierlaw47_alive.f k) true := Ev.of (fun k => glazierlaw47_alive.mono k) (k := 60) (by decide +kernel)
theorem worst_le (os : List Int) (M : Int) (h0 : 0 ≤ M) (h : ∀ o ∈ os, o ≤ M) : worst os ≤ M := by
  unfold worst
  have key : ∀ (l : List Int) (a : Int), a ≤ M → (∀ o ∈ l, o ≤ M) → l.foldl max a ≤ M := by
    intro l
    induction l with
    | nil => intro a ha _; exact ha
    | cons o l ih =>
      intro a ha hl
      have := hl o (by simp)
      exact ih _ (by omega) (fun p hp => hl p (by simp [hp]))
  exact key os 0 h0 h
theorem le_worst (os : List Int) (o : Int) (h : o ∈ os) : o ≤ worst os := by
  unfold worst
  have mono : ∀ (l : List Int) (a : Int), a ≤ l.foldl max a := by
    intro l
    induction l with
    | nil => intro a; exact Int.le_refl _
    | cons x l ih => intro a; have := ih (max a x); rw [List.foldl_cons]; omega
  have key : ∀ (l : List Int) (a : Int), o ∈ l → o ≤ l.foldl max a := by
    intro l
    induction l with
    | nil => intro a h; cases h
    | cons x l ih =>
      intro a h
      rw [List.foldl_cons]
      rcases List.mem_cons.1 h with rfl | h
      · have := mono l (max a o); omega
      · exact ih _ h
  exact key os 0 h
theorem worst_ge0 (os : List Int) : 0 ≤ worst os := by
  unfold worst
  have mono : ∀ (l : List Int) (a : Int), a ≤ l.foldl max a := by
    intro l
    induction l with
    | nil => intro a; exact Int.le_refl _
    | cons x l ih => intro a; have := ih (max a x); rw [List.foldl_cons]; omega
  exact mono os 0
theorem fill_mark (l0 : List S45) (l : List UInt8) (M : Int) (h0 : 0 ≤ M) (h : ∀ x ∈ l0, worst (labO x.f1.f0.size x.f1.f1) ≤ M) : worst (((tokL l).flatMap (dn (valL l0))).map (·.2)) ≤ M := by
  refine worst_le _ M h0 (fun o ho => ?_)
  obtain ⟨c, hc, rfl⟩ := List.mem_map.1 ho
  obtain ⟨p, _, hc⟩ := List.mem_flatMap.1 hc
  unfold dn at hc
  split at hc
  · unfold valL at hc
    split at hc
    · rename_i i hi
      have hlt := getI_lt hi
      rw [rdT45 hlt] at hc
      have h1 := h _ (List.getElem_mem hlt)
      have h2 : c.2 ∈ labO l0[i].f1.f0.size l0[i].f1.f1 := by rw [← La_snd]; exact List.mem_map.2 ⟨c, hc, rfl⟩
      have := le_worst _ _ h2
      omega
    · cases hc
  · obtain ⟨b, _, rfl⟩ := List.mem_map.1 hc
    show nr 0 ≤ M
    unfold nr
    omega
theorem BlanksTrust_loop (x : ByteArray) (l0 : List S45) (h : Fine l0) (hx : x.size ≤ 1048576) : ∀ (d i : Nat) (a : Int), i + d = l0.length → 0 ≤ a → (∀ j (hj : j < l0.length), j < i → worst (labO l0[j].f1.f0.size l0[j].f1.f1) ≤ a) →
    Ev (fun k => glazierlaw47_BlanksTrust.l0 k x l0 a (i : Int)) true := by
  have hfl := h.1
  intro d
  induction d with
  | zero =>
    intro i a hi h0 ha
    refine Ev.step1 (f := fun k => (blanks_Fill.f k x l0).bind fun b => _) ?_ (fun k => by
      simp only [glazierlaw47_BlanksTrust.l0]
      rw [if_neg (by omega)])
    have hl := fill_length h x.data.toList (by rw [size_list]; exact hx)
    refine Ev.bind (Fill_spec x l0 h hx) (Ev.bind (Worst_canon (fill_ok _ _) hl) ?_)
    have hm := fill_mark l0 x.data.toList a h0 (fun y hy => by
      obtain ⟨j, hj, rfl⟩ := List.getElem_of_mem hy
      exact ha j hj (by omega))
    simp only [if_pos hm]
    have hF : Fine [] := ⟨by simp, fun _ h => by cases h⟩
    have hl' := fill_length hF x.data.toList (by rw [size_list]; exact hx)
    refine Ev.bind (Fill_spec x [] hF hx) ?_
    have h1 := fill_mark [] x.data.toList 0 (Int.le_refl _) (fun _ h => by cases h)
    have h2 := worst_ge0 (((tokL x.data.toList).flatMap (dn (valL []))).map (·.2))
    have e : worst (((tokL x.data.toList).flatMap (dn (valL []))).map (·.2)) = 0 := by omega
    have hw := Worst_canon (fill_ok [] x.data.toList) hl'
    rw [e] at hw
    have hp : Ev (fun k => mark_Pure.f k (canon ((tokL x.data.toList).flatMap (dn (valL [])))).1 (canon ((tokL x.data.toList).flatMap (dn (valL [])))).2) true := by
      unfold mark_Pure.f
      exact Ev.bind hw (Ev.now _)
    exact Ev.bind hp (Ev.now _)
  | succ d ih =>
    intro i a hi h0 ha
    have hlt : i < l0.length := by omega
    have hf := h.2 _ (List.getElem_mem hlt)
    refine Ev.step1 (f := fun k => (mark_Worst.f k l0[i].f1.f0 l0[i].f1.f1).bind fun t673 => glazierlaw47_BlanksTrust.l0 k x l0 (mx a t673) ((i : Int) + 1)) ?_ (fun k => by
      simp only [glazierlaw47_BlanksTrust.l0]
      rw [if_pos (by omega), if_pos (by omega), rdT45 hlt, w64 (by omega) (by omega)])
    refine Ev.bind (Worst_spec _ _ (by omega) (by omega)) ?_
    rw [mx_eq]
    exact ih (i + 1) _ (by omega) (by omega) (fun j hj hji => by
      by_cases e : j = i
      · subst e; omega
      · have := ha j hj (by omega); omega)
theorem BlanksTrust_pure (x : ByteArray) (l0 : List S45) (hx : x.size ≤ 1048576) (hl : (l0.map wt45).sum + 1 ≤ 1048576) : ∃ k, glazierlaw47_BlanksTrust.f k x l0 = some true := by
  refine Ev.rounds ?_
  unfold glazierlaw47_BlanksTrust.f
  refine Ev.bind Blanks_alive ?_
  simp only [if_true]
  exact BlanksTrust_loop x l0 (fine_of hl) hx l0.length 0 0 (by omega) (Int.le_refl _) (fun j hj h => absurd h (by omega))
end Go.Proofs.Ytljmmhihdcnbaaa.G
