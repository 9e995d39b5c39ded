/- PercentParts: what is laid end to end is encoded part by part; decoding keeps the worst origin and never grows. -/
import Derived.Test.YtljmmhihdcnbaaaPh
import Derived.Test.YtljmmhihdcnbaaaG67
namespace Go.Proofs.Ytljmmhihdcnbaaa.G
open Go.RowKit Go.Proofs.YtljmmhihdcnbaaaW.PrintWords Go.Proofs.YtljmmhihdcnbaaaW.PrintLast Go.Proofs.YtljmmhihdcnbaaaW.PrintMore
set_option linter.unusedVariables false
set_option linter.unusedSimpArgs false
theorem decL_okl' {l : List Lc} (h : Okl l) : Okl (decL l) := by
  have key : ∀ (n : Nat) (l : List Lc), l.length = n → Okl l → Okl (decL l) := by
    intro n
    induction n using Nat.strongRecOn with
    | _ n ih =>
    intro l hl h
    match l, h with
    | [], _ => exact Okl.nil
    | [a], h => exact h
    | [a, b], h => exact h
    | a :: b :: c :: l, h =>
      rw [decL]
      have ha := h a (by simp)
      have hb := h b (by simp)
      have hc := h c (by simp)
      split
      · refine Okl.app (a := [_]) (Okl.one ?_) (ih l.length (by simp at hl; omega) l rfl (h.sub fun x hx => by simp [hx]))
        simp only
        constructor <;> omega
      · exact Okl.app (a := [a]) (Okl.one ha) (ih (b :: c :: l).length (by simp at hl ⊢; omega) _ rfl (h.sub fun x hx => by simp at hx ⊢; exact .inr hx))
  exact key _ l rfl h
theorem decL_length' (l : List Lc) : (decL l).length ≤ l.length := by
  have key : ∀ (n : Nat) (l : List Lc), l.length = n → (decL l).length ≤ l.length := by
    intro n
    induction n using Nat.strongRecOn with
    | _ n ih =>
    intro l hl
    match l with
    | [] => simp [decL]
    | [a] => simp [decL]
    | [a, b] => simp [decL]
    | a :: b :: c :: l =>
      rw [decL]
      split
      · have := ih l.length (by simp at hl; omega) l rfl
        simp only [List.length_cons]
        omega
      · have := ih (b :: c :: l).length (by simp at hl ⊢; omega) _ rfl
        simp only [List.length_cons] at this ⊢
        omega
  exact key _ l rfl
theorem foldl_max_start (os : List Int) : ∀ a : Int, 0 ≤ a → os.foldl max a = max a (os.foldl max 0) := by
  induction os with
  | nil => intro a ha; rw [List.foldl_nil, List.foldl_nil]; omega
  | cons o os ih =>
    intro a ha
    rw [List.foldl_cons, List.foldl_cons, ih (max a o) (by omega), ih (max 0 o) (by omega)]
    omega
theorem worst_cons (o : Int) (os : List Int) (h : 0 ≤ o) : worst (o :: os) = max o (worst os) := by
  unfold worst
  rw [List.foldl_cons, foldl_max_start os (max 0 o) (by omega)]
  have := foldl_max_start os 0 (Int.le_refl _)
  omega
theorem worst_decL (l : List Lc) (h : Okl l) : worst ((decL l).map (·.2)) = worst (l.map (·.2)) := by
  have key : ∀ (n : Nat) (l : List Lc), l.length = n → Okl l → worst ((decL l).map (·.2)) = worst (l.map (·.2)) := by
    intro n
    induction n using Nat.strongRecOn with
    | _ n ih =>
    intro l hl h
    match l, h with
    | [], _ => rfl
    | [a], h => rfl
    | [a, b], h => rfl
    | a :: b :: c :: l, h =>
      have ha := h a (by simp)
      have hb := h b (by simp)
      have hc := h c (by simp)
      rw [decL]
      split
      · have := ih l.length (by simp at hl; omega) l rfl (h.sub fun x hx => by simp [hx])
        simp only [List.map_cons]
        rw [worst_cons _ _ (by omega), worst_cons _ _ ha.1, worst_cons _ _ hb.1, worst_cons _ _ hc.1, this]
        omega
      · have := ih (b :: c :: l).length (by simp at hl ⊢; omega) _ rfl (h.sub fun x hx => by simp at hx ⊢; exact .inr hx)
        rw [List.map_cons, worst_cons _ _ ha.1, this, List.map_cons (l := b :: c :: l), worst_cons _ _ ha.1]
  exact key _ l rfl h
theorem Encode_canon {l : List Lc} (h : Okl l) (hl : l.length ≤ 274877906944) : Ev (fun k => percent_Encode.f k (canon l).1 (canon l).2) (canon (encL l)) := by
  have hc := canon_runs l
  have := Encode_spec (canon l).1 (canon l).2 (by rw [canon_size]; exact hl) (by omega)
  rwa [La_canon h] at this
theorem PercentParts_pure (a : ByteArray) (la : List S85) (b : ByteArray) (lb : List S85) (ha : a.size ≤ 1048576) (hla : la.length ≤ 1048576) (hb : b.size ≤ 1048576) (hlb : lb.length ≤ 1048576) : ∃ k, glazierlaw05_PercentParts.f k a la b lb = some true := by
  refine Ev.rounds ?_
  have hA := La_ok a la
  have hB := La_ok b lb
  have nA := La_length a la
  have nB := La_length b lb
  have eA := encL_length (La a la)
  have eB := encL_length (La b lb)
  have dA := decL_length' (La a la)
  unfold glazierlaw05_PercentParts.f
  refine Ev.bind Percent_alive ?_
  simp only [if_true]
  have hcat := Cat_spec [(⟨a, la⟩ : S24), ⟨b, lb⟩] (by simp) (fun s hs => by
    simp only [List.mem_cons, List.not_mem_nil, or_false] at hs
    rcases hs with rfl | rfl
    · show la.length ≤ _; omega
    · show lb.length ≤ _; omega) (by
    have : ([(⟨a, la⟩ : S24), ⟨b, lb⟩].flatMap ls) = La a la ++ La b lb := by simp [ls]
    rw [this, List.length_append]; omega)
  rw [show ([(⟨a, la⟩ : S24), ⟨b, lb⟩].flatMap ls) = La a la ++ La b lb by simp [ls]] at hcat
  refine Ev.bind hcat ?_
  refine Ev.bind (Encode_canon (hA.app hB) (by rw [List.length_append]; omega)) ?_
  refine Ev.bind (Decode_spec a la (by omega) (by omega)) ?_
  refine Ev.bind (Encode_spec a la (by omega) (by omega)) (Ev.bind (Encode_spec b lb (by omega) (by omega)) ?_)
  have hc2 := Cat_mk [encL (La a la), encL (La b lb)] (fun X hX => by
    simp only [List.mem_cons, List.not_mem_nil, or_false] at hX
    rcases hX with rfl | rfl
    · exact encL_ok hA
    · exact encL_ok hB) (by simp) (by simp; omega)
  rw [show [encL (La a la), encL (La b lb)].flatten = encL (La a la) ++ encL (La b lb) by simp] at hc2
  refine Ev.bind hc2 ?_
  rw [encL_append]
  have hr := canon_runs (encL (La a la) ++ encL (La b lb))
  have hrl : (encL (La a la) ++ encL (La b lb)).length ≤ 6 * 1048576 := by rw [List.length_append]; omega
  refine Ev.bind (Same_spec _ _ _ _ rfl (by rw [canon_size]; omega) (by omega) (by omega)) ?_
  simp only [if_true]
  refine Ev.bind (Worst_canon (decL_okl' hA) (by omega)) (Ev.bind (Worst_spec a la (by omega) (by omega)) ?_)
  rw [← La_snd, worst_decL _ hA]
  simp only [if_true, canon_size]
  exact Ev.eq (Ev.now true) (fun _ => by rw [decide_eq_true]; omega)
end Go.Proofs.Ytljmmhihdcnbaaa.G
