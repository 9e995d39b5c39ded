/- Blanks: a form filled with attributes. -/
import Derived.Test.YtljmmhihdcnbaaaDoorPl
import Derived.Test.YtljmmhihdcnbaaaDoorRd
namespace Go.Proofs.YtljmmhihdcnbaaaDoor.G
open Go.RowKit Go.Proofs.YtljmmhihdcnbaaaDoorW.PrintWords Go.Proofs.YtljmmhihdcnbaaaDoorW.PrintLast Go.Proofs.YtljmmhihdcnbaaaDoorW.PrintMore
set_option linter.unusedVariables false
set_option linter.unusedSimpArgs false
def getI (l0 : List S32) (nm : List UInt8) : Option Nat := l0.findIdx? (fun x => x.f0.f0.toList == nm)
def valL (l0 : List S32) (nm : List UInt8) : List Lc := match getI l0 nm with
  | some i => La (rd_T32 l0 (i : Int)).f1.f0 (rd_T32 l0 (i : Int)).f1.f1
  | none => []
theorem getI_lt {l0 : List S32} {nm : List UInt8} {i : Nat} (h : getI l0 nm = some i) : i < l0.length := (List.findIdx?_eq_some_iff_getElem.1 h).1
theorem rdT32 {l : List S32} {i : Nat} (h : i < l.length) : rd_T32 l (i : Int) = l[i] := by simp [rd_T32, h]
theorem valL_ok (l0 : List S32) (nm : List UInt8) : Okl (valL l0 nm) := by
  unfold valL
  split
  · exact La_ok _ _
  · exact Okl.nil
/-- No attribute is big. -/
def Fine (l0 : List S32) : Prop := l0.length ≤ 1048576 ∧ ∀ x ∈ l0, x.f1.f0.size + 1 ≤ 1048576 ∧ x.f1.f1.length ≤ 1048576
theorem fine_of {l0 : List S32} (h : (l0.map wt32).sum + 1 ≤ 1048576) : Fine l0 := by
  refine ⟨?_, fun x hx => ?_⟩
  · have := sum_len l0 wt32 (fun _ _ => by unfold wt32; omega)
    omega
  · have h1 := sum_mem l0 wt32 hx
    have h2 := wt24_le x.f1
    have h3 : wt32 x = wt24 x.f0 + wt24 x.f1 + 1 := rfl
    omega
theorem valL_length {l0 : List S32} (h : Fine l0) (nm : List UInt8) : (valL l0 nm).length + 1 ≤ 1048576 := by
  unfold valL
  split
  · rename_i i hi
    have hlt := getI_lt hi
    rw [La_length, rdT32 hlt]
    exact (h.2 _ (List.getElem_mem hlt)).1
  · simp
theorem Get_spec (l0 : List S32) (a : ByteArray) (h : Fine l0) : Ev (fun k => attrs_Get.f k l0 a) ((canon (valL l0 a.data.toList)).1, (canon (valL l0 a.data.toList)).2, (getI l0 a.data.toList).isSome) := by
  unfold attrs_Get.f attrs_place.f
  rw [if_pos (by have := h.1; omega)]
  simp only [Option.bind_some]
  have e : attrAt a l0 = match getI l0 a.data.toList with
    | some i => (i : Int)
    | none => -1 := by
    unfold attrAt getI
    rw [ByteArray.toList_eq]
    generalize List.findIdx? (fun x : S32 => x.f0.f0.toList == a.data.toList) l0 = o
    cases o <;> rfl
  rw [e]
  unfold valL
  cases hi : getI l0 a.data.toList with
  | none =>
    simp only [if_pos (show (-1 : Int) < 0 by omega)]
    exact Ev.now _
  | some i =>
    have hlt := getI_lt hi
    have hf := h.2 _ (List.getElem_mem hlt)
    simp only [if_neg (show ¬ (i : Int) < 0 by omega), if_pos (show (0 : Int) ≤ (i : Int) by omega), if_pos (show (i : Int) < (l0.length : Int) by omega), rdT32 hlt]
    exact Ev.bind (Fix_spec _ _ (by omega) (by omega)) (Ev.now _)
theorem rdT69 {l : List S69} {i : Nat} (h : i < l.length) : rd_T69 l (i : Int) = l[i] := by simp [rd_T69, h]
theorem dn_ok {g : List UInt8 → List Lc} (hg : ∀ nm, Okl (g nm)) (p : List UInt8 × Bool) : Okl (dn g p) := by
  unfold dn
  split
  · exact hg _
  · exact allO_ok _ _
theorem Fill_loop (l0 : List S32) (h : Fine l0) (ps : List S69) (hn : ps.length ≤ 2199023255552) (hp : ∀ p ∈ ps, p.f0.size ≤ 1099511627776) (T : List Lc) (hT : T.length ≤ 1099511627776) : ∀ (d i : Nat) (Xs : List (List Lc)), i + d = ps.length → (∀ X ∈ Xs, Okl X) → Xs.length ≤ i → Xs.flatten ++ ((ps.drop i).map toP).flatMap (dn (valL l0)) = T →
    Ev (fun k => blanks_Fill.l0 k l0 (Xs.map mkS) ps (ps.length : Int) (i : Int)) (canon T) := by
  intro d
  induction d with
  | zero =>
    intro i Xs hi hX hXl he
    rw [List.drop_eq_nil_of_le (by omega), List.map_nil, List.flatMap_nil, List.append_nil] at he
    subst he
    refine Ev.step1 (f := fun k => (mark_Cat.f k (Xs.map mkS)).bind fun b => some (b.1, b.2)) (Ev.bind (Cat_mk Xs hX (by omega) hT) (Ev.now _)) (fun k => ?_)
    simp only [blanks_Fill.l0]
    rw [if_neg (by omega)]
  | succ d ih =>
    intro i Xs hi hX hXl he
    have hlt : i < ps.length := by omega
    have hlen : (Xs.map mkS).length < 3518437208883 := by rw [List.length_map]; omega
    rw [List.drop_eq_getElem_cons hlt, List.map_cons, List.flatMap_cons, ← List.append_assoc, ← flat_snoc] at he
    have h2 := ih (i + 1) (Xs ++ [dn (valL l0) (toP ps[i])]) (by omega) (fun X hx => by
      rcases List.mem_append.1 hx with hx | hx
      · exact hX X hx
      · rw [List.mem_singleton] at hx; subst hx; exact dn_ok (valL_ok l0) _) (by simp; omega) he
    rw [List.map_append] at h2
    have hs := hp _ (List.getElem_mem hlt)
    refine Ev.step1 (f := fun k => (mark_Of.f ps[i].f0 0).bind fun bt630 => (if ps[i].f1 = true then ((attrs_Get.f k l0 ps[i].f0).bind fun bt635 => blanks_Fill.l0 k l0 (Xs.map mkS ++ [(⟨bt635.1, bt635.2.1⟩ : S24)]) ps (ps.length : Int) ((i : Int) + 1)) else blanks_Fill.l0 k l0 (Xs.map mkS ++ [(⟨bt630.1, bt630.2⟩ : S24)]) ps (ps.length : Int) ((i : Int) + 1))) ?_ (fun k => by
      simp only [blanks_Fill.l0]
      rw [if_pos (by omega), if_pos (by omega), if_pos (by omega), rdT69 hlt, w64 (by omega) (by omega)]
      simp only [if_pos hlen])
    rw [Of_spec _ _ hs]
    simp only [Option.bind_some]
    unfold dn toP at h2
    cases hf : ps[i].f1 with
    | true =>
      rw [hf] at h2
      simp only [if_true] at h2 ⊢
      exact Ev.bind (Get_spec l0 _ h) h2
    | false =>
      rw [hf] at h2
      simp only [Bool.false_eq_true, if_false] at h2 ⊢
      exact h2
theorem tok_bound (g : List UInt8 → List Lc) (c : Nat) (hc : 1 ≤ c) (hg : ∀ l, (dn g (tokOne l).1).length ≤ (tokOne l).2 * c) : ∀ (n : Nat) (l : List UInt8), l.length = n → ((tokL l).flatMap (dn g)).length ≤ l.length * c := by
  intro n
  induction n using Nat.strongRecOn with
  | _ n ih =>
  intro l hl
  cases l with
  | nil => simp [tokL]
  | cons b l =>
    by_cases hb : b = 123
    · subst hb
      have h1 := tokOne_pos l
      have h2 := tokOne_le l
      have h3 := hg l
      have h4 := ih (l.drop ((tokOne l).2 - 1)).length (by rw [List.length_drop]; simp at hl; omega) _ rfl
      rw [tokL_brace, List.flatMap_cons, List.length_append]
      rw [List.length_drop] at h4
      have e : (123 :: l : List UInt8).length * c = (tokOne l).2 * c + (l.length - ((tokOne l).2 - 1)) * c := by
        rw [← Nat.add_mul]
        congr 1
        simp only [List.length_cons]
        omega
      omega
    · have h4 := ih l.length (by simp at hl; omega) l rfl
      rw [tokL_text b l hb, List.flatMap_cons, List.length_append, List.length_cons, Nat.add_mul, Nat.one_mul]
      have : (dn g ([b], false)).length = 1 := rfl
      omega
theorem tokOne_len (l : List UInt8) : (tokOne l).1.1.length ≤ (tokOne l).2 := by
  unfold tokOne
  split
  · simp
  · split
    · simp only [List.length_take]; omega
    · simp
theorem allO_len (t : List UInt8) (o : Int) : (allO t o).length = t.length := by unfold allO; rw [List.length_map]
theorem fill_length {l0 : List S32} (h : Fine l0) (l : List UInt8) (hl : l.length ≤ 1048576) : ((tokL l).flatMap (dn (valL l0))).length ≤ 1099511627776 := by
  have := tok_bound (valL l0) 1048576 (by decide) (fun l => by
    have h1 := tokOne_pos l
    have h2 := tokOne_len l
    unfold dn
    split
    · have := valL_length h (tokOne l).1.1
      omega
    · rw [allO_len]
      omega) l.length l rfl
  omega
theorem piece_size {ps : List S69} {l : List UInt8} (h : Alike (ps.map toP) (tokL l)) (p : S69) (hp : p ∈ ps) : p.f0.size ≤ l.length := by
  have h1 := tok_bound (fun nm => allO nm 0) 1 (by decide) (fun l => by
    have h2 := tokOne_len l
    unfold dn
    split <;> (rw [allO_len]; omega)) l.length l rfl
  rw [← h.1, Nat.mul_one] at h1
  have h3 : (dn (fun nm => allO nm 0) (toP p)).length = p.f0.size := by
    unfold dn toP
    simp only [ite_self]
    rw [allO_len, size_list]
  have h4 : (dn (fun nm => allO nm 0) (toP p)).length ≤ ((ps.map toP).flatMap (dn (fun nm => allO nm 0))).length := by
    obtain ⟨a, b, rfl⟩ := List.append_of_mem hp
    rw [List.map_append, List.map_cons, List.flatMap_append, List.flatMap_cons, List.length_append, List.length_append]
    omega
  omega
theorem Fill_spec (x : ByteArray) (l0 : List S32) (h : Fine l0) (hx : x.size ≤ 1048576) : Ev (fun k => blanks_Fill.f k x l0) (canon ((tokL x.data.toList).flatMap (dn (valL l0)))) := by
  obtain ⟨ps, hA, hl, hE⟩ := pieces_spec x (by omega)
  unfold blanks_Fill.f
  refine Ev.bind hE ?_
  have e := hA.1 (valL l0)
  refine Fill_loop l0 h ps (by omega) (fun p hp => by have := piece_size hA p hp; rw [size_list] at this; omega) _ (fill_length h _ (by rw [size_list]; exact hx)) ps.length 0 [] (by omega) (fun _ h => by cases h) (by simp) ?_
  rw [← e]
  rfl
theorem fill_ok (l0 : List S32) (l : List UInt8) : Okl ((tokL l).flatMap (dn (valL l0))) := fun c hc => by
  obtain ⟨p, _, hc⟩ := List.mem_flatMap.1 hc
  exact dn_ok (valL_ok l0) p c hc
end Go.Proofs.YtljmmhihdcnbaaaDoor.G
