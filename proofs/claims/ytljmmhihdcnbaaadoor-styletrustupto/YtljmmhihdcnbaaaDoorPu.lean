/- Cleaned twice is cleaned once: parse of what is cleaned gives what was kept. -/
import Derived.Test.YtljmmhihdcnbaaaDoorPt
namespace Go.Proofs.YtljmmhihdcnbaaaDoor.G
open Go.RowKit Go.Proofs.YtljmmhihdcnbaaaDoorW.PrintWords Go.Proofs.YtljmmhihdcnbaaaDoorW.PrintLast Go.Proofs.YtljmmhihdcnbaaaDoorW.PrintMore
set_option linter.unusedVariables false
set_option linter.unusedSimpArgs false
def badB : ByteArray := ⟨#[40, 41, 34, 39, 60, 62, 38, 92, 47, 64]⟩
theorem known_bytes {n : List UInt8} (h : knownV n = true) : n ≠ [] ∧ ∀ c ∈ n, lowB c = c ∧ inB ws c = false ∧ c ≠ 58 ∧ c ≠ 59 ∧ inB badB c = false := by
  have h1 := List.contains_iff_mem.1 h
  simp only [List.mem_cons, List.not_mem_nil, or_false] at h1
  rcases h1 with rfl | rfl | rfl | rfl | rfl | rfl <;> refine ⟨by decide, ?_⟩ <;> intro c hc <;> simp only [List.mem_cons, List.not_mem_nil, or_false] at hc
  all_goals rcases hc with rfl | rfl | rfl | rfl | rfl | rfl | rfl <;> decide
theorem odd_bad (c : UInt8) (h : inB badB c = true) : oddC c = true := by
  have := byte_all (fun c => !inB badB c || oddC c) (by decide +kernel) c
  simp only [h, Bool.not_true, Bool.false_or] at this
  exact this
theorem plain_bytes {n : List UInt8} (h : plainV n = true) : ∀ c ∈ n, oddC c = false := by
  unfold plainV at h
  rw [Bool.and_eq_true] at h
  intro c hc
  have h1 : n.any oddC = false := by simpa using h.1
  simpa using List.any_eq_false.1 h1 c hc
theorem plain_ne {n : List UInt8} (h : plainV n = true) : ∀ c ∈ n, c ≠ 59 ∧ inB badB c = false := by
  intro c hc
  have h1 := plain_bytes h c hc
  refine ⟨fun e => ?_, ?_⟩
  · subst e
    have : oddC 59 = true := by decide +kernel
    rw [this] at h1; cases h1
  · cases hb : inB badB c with
    | false => rfl
    | true => rw [odd_bad c hb] at h1; cases h1
theorem okD_parts {d : Dc} (h : okD d = true) : knownV (bsL d.1) = true ∧ pureV d.1 = true ∧ plainV (bsL d.2) = true := by
  unfold okD at h
  rw [Bool.and_eq_true, Bool.and_eq_true] at h
  exact h
theorem atL_free {c : UInt8} : ∀ (a b : List Lc), (∀ x ∈ a, x.1 ≠ c) → atL c (a ++ (c, 0) :: b) = a.length
  | [], b, _ => by unfold atL; rw [List.nil_append, List.findIdx_cons]; simp
  | x :: a, b, h => by
    have ih := atL_free a b (fun y hy => h y (List.mem_cons_of_mem _ hy))
    unfold atL at ih ⊢
    have hx : (x.1 == c) = false := beq_eq_false_iff_ne.2 (h x List.mem_cons_self)
    rw [List.cons_append, List.findIdx_cons, hx, ih]
    rfl
theorem lowL_self {l : List Lc} (h : ∀ c ∈ bsL l, lowB c = c) : lowL l = l := by
  unfold lowL
  have : l.map (fun c => (lowB c.1, c.2)) = l.map id := List.map_congr_left fun c hc => by
    rw [h c.1 (List.mem_map_of_mem hc)]; rfl
  rw [this, List.map_id]
theorem trimL_free {p : UInt8 → Bool} {l : List Lc} (h : ∀ c ∈ bsL l, p c = false) : trimL p l = l :=
  trimL_none p l (fun c hc => h c.1 (List.mem_map_of_mem (List.mem_of_mem_head? hc))) (fun c hc => h c.1 (List.mem_map_of_mem (List.mem_of_mem_getLast? hc)))
theorem trimL_twice (p : UInt8 → Bool) (l : List Lc) : trimL p (trimL p l) = trimL p l := trimL_none p _ (trimL_ends p l).1 (trimL_ends p l).2
def Trimmed (d : Dc) : Prop := trimL (inB ws) d.2 = d.2
theorem parseL_trimmed {l : List Lc} {d : Dc} (hd : d ∈ parseL l) : Trimmed d := by
  obtain ⟨X, hX, h⟩ := List.mem_filterMap.1 hd
  unfold declL at h
  split at h
  · obtain rfl := Option.some.inj h
    exact trimL_twice _ _
  · cases h
theorem lineL_eq (d : Dc) : lineL d = d.1 ++ (58, 0) :: d.2 := by simp [lineL]
theorem decl_line {d : Dc} (h : okD d = true) (ht : Trimmed d) : declL (lineL d) = some d := by
  obtain ⟨h1, _, _⟩ := okD_parts h
  have hk := (known_bytes h1).2
  have ha : atL 58 (lineL d) = d.1.length := by
    rw [lineL_eq]
    exact atL_free _ _ (fun x hx => (hk x.1 (List.mem_map_of_mem hx)).2.2.1)
  have hl : (lineL d).length = d.1.length + 1 + d.2.length := by rw [lineL_length]; unfold szD; omega
  unfold declL
  rw [if_pos (by omega)]
  have h2 : aheadL 58 (lineL d) = d.1 := by unfold aheadL; rw [ha, lineL_eq, List.take_left]
  have h3 : behindL 58 (lineL d) = d.2 := by
    unfold behindL
    rw [if_pos (by omega), ha, lineL_eq, show d.1 ++ (58, 0) :: d.2 = (d.1 ++ [(58, 0)]) ++ d.2 from by simp]
    exact List.drop_left' (by simp)
  rw [h2, h3, trimL_free (fun c hc => (hk c hc).2.1), lowL_self (fun c hc => (hk c hc).1), ht]
theorem line_free {d : Dc} (h : okD d = true) : ∀ c ∈ lineL d, c.1 ≠ 59 ∧ inB badB c.1 = false := by
  obtain ⟨h1, _, h3⟩ := okD_parts h
  intro c hc
  rw [lineL_eq] at hc
  rcases List.mem_append.1 hc with hc | hc
  · have := (known_bytes h1).2 c.1 (List.mem_map_of_mem hc)
    exact ⟨this.2.2.2.1, this.2.2.2.2⟩
  · rcases List.mem_cons.1 hc with rfl | hc
    · exact ⟨by decide, by decide⟩
    · exact plain_ne h3 c.1 (List.mem_map_of_mem hc)
theorem parse_join (C : List Dc) (h : ∀ d ∈ C, okD d = true ∧ Trimmed d) : parseL (joinA [(59, 0)] (C.map lineL)) = C := by
  cases C with
  | nil => rfl
  | cons d C =>
    unfold parseL
    rw [cutsA_join (qB (bytesA [59])) (59, 0) (by rw [qB_byte]; rfl) _ (fun X hX c hc => by
      obtain ⟨e, he, rfl⟩ := List.mem_map.1 hX
      rw [qB_byte]
      exact beq_eq_false_iff_ne.2 (line_free (h e he).1 c hc).1) (by simp)]
    rw [List.filterMap_map]
    have : ∀ (L : List Dc), (∀ e ∈ L, okD e = true ∧ Trimmed e) → L.filterMap (declL ∘ lineL) = L := by
      intro L
      induction L with
      | nil => intro _; rfl
      | cons e L ih =>
        intro hL
        have he : (declL ∘ lineL) e = some e := decl_line (hL e List.mem_cons_self).1 (hL e List.mem_cons_self).2
        rw [List.filterMap_cons_some he, ih fun x hx => hL x (List.mem_cons_of_mem _ hx)]
    exact this _ h
def ApD (ds : List Dc) : Prop := ds.Pairwise fun a b => bsL a.1 ≠ bsL b.1
theorem keepD_ap {acc : List Dc} {d : Dc} (h : ApD acc) : ApD (keepD acc d) := by
  unfold keepD
  split
  · refine List.pairwise_append.2 ⟨List.Pairwise.filter _ h, List.pairwise_singleton _ _, ?_⟩
    intro a ha b hb
    rw [List.mem_singleton] at hb
    subst hb
    have := (List.mem_filter.1 ha).2
    simpa using this
  · exact h
theorem foldD_ap : ∀ (ds acc : List Dc), ApD acc → ApD (ds.foldl keepD acc)
  | [], _, h => h
  | d :: ds, acc, h => foldD_ap ds _ (keepD_ap h)
theorem foldD_self : ∀ (ds acc : List Dc), ApD (acc ++ ds) → (∀ d ∈ ds, okD d = true) → ds.foldl keepD acc = acc ++ ds
  | [], acc, _, _ => by simp
  | d :: ds, acc, h, ho => by
    have hd : dropD acc d.1 = acc := by
      unfold dropD
      rw [List.filter_eq_self]
      intro a ha
      have := (List.pairwise_append.1 h).2.2 a ha d List.mem_cons_self
      simpa using this
    have hk : keepD acc d = acc ++ [d] := by unfold keepD; rw [if_pos (ho d List.mem_cons_self), hd]
    rw [List.foldl_cons, hk, foldD_self ds (acc ++ [d]) (by rwa [List.append_assoc, List.singleton_append]) (fun x hx => ho x (List.mem_cons_of_mem _ hx)), List.append_assoc, List.singleton_append]
theorem kept_ok (l : List Lc) : ∀ d ∈ cleanD (parseL l), okD d = true ∧ Trimmed d := fun d hd => ⟨(cleanD_mem hd).2, parseL_trimmed (cleanD_mem hd).1⟩
theorem parse_clean (l : List Lc) : parseL (cleanL l) = cleanD (parseL l) := parse_join _ (kept_ok l)
theorem clean_twice (l : List Lc) : cleanL (cleanL l) = cleanL l := by
  have h1 : cleanD (cleanD (parseL l)) = cleanD (parseL l) := foldD_self _ [] (by rw [List.nil_append]; exact foldD_ap _ [] List.Pairwise.nil) (fun d hd => (cleanD_mem hd).2)
  show joinA [(59, 0)] ((cleanD (parseL (cleanL l))).map lineL) = _
  rw [parse_clean, h1]
  rfl
theorem joinA_mem {b : List Lc} : ∀ {Cs : List (List Lc)} {c : Lc}, c ∈ joinA b Cs → c ∈ b ∨ ∃ X ∈ Cs, c ∈ X
  | [], c, h => by simp [joinA] at h
  | [x], c, h => Or.inr ⟨x, List.mem_cons_self, by simpa [joinA] using h⟩
  | x :: y :: l, c, h => by
    rw [joinA_cons b x (y :: l) (by simp)] at h
    rcases List.mem_append.1 h with h | h
    · rcases List.mem_append.1 h with h | h
      · exact Or.inr ⟨x, List.mem_cons_self, h⟩
      · exact Or.inl h
    · rcases joinA_mem h with h | ⟨X, hX, h⟩
      · exact Or.inl h
      · exact Or.inr ⟨X, List.mem_cons_of_mem _ hX, h⟩
theorem clean_free (l : List Lc) : ∀ c ∈ cleanL l, inB badB c.1 = false := fun c hc => by
  rcases joinA_mem hc with h | ⟨X, hX, h⟩
  · rw [List.mem_singleton] at h; subst h; decide
  · obtain ⟨d, hd, rfl⟩ := List.mem_map.1 hX
    exact (line_free (kept_ok l d hd).1 c h).2
end Go.Proofs.YtljmmhihdcnbaaaDoor.G
