/- BlanksQuote answers true: what is quoted has no blanks, and filled it is the text. -/
import Derived.Test.YtljmmhihdcnbaaaDoorPx
import Derived.Test.YtljmmhihdcnbaaaDoorPm
import Derived.Test.YtljmmhihdcnbaaaDoorGL
import Derived.Lib.ReplaceLaws
import Derived.Test.YtljmmhihdcnbaaaDoorG74
namespace Go.Proofs.YtljmmhihdcnbaaaDoor.G
open Go.RowKit Go.Proofs.YtljmmhihdcnbaaaDoorW.PrintWords Go.Proofs.YtljmmhihdcnbaaaDoorW.PrintLast Go.Proofs.YtljmmhihdcnbaaaDoorW.PrintMore
set_option linter.unusedVariables false
set_option linter.unusedSimpArgs false
theorem Blanks_alive : Ev (fun k => glazierlaw47_alive.f k) true := Ev.of (fun k => glazierlaw47_alive.mono k) (k := 60) (by decide +kernel)
def quoteL (l : List UInt8) : List UInt8 := l.flatMap fun c => if c = 123 then [123, 123] else [c]
theorem quoteL_app (a b : List UInt8) : quoteL (a ++ b) = quoteL a ++ quoteL b := by simp [quoteL]
theorem quoteL_free : ∀ {p : List UInt8}, 123 ∉ p → quoteL p = p
  | [], _ => rfl
  | c :: p, h => by
    have h1 : c ≠ 123 := fun e => h (by rw [e]; exact List.mem_cons_self)
    have h2 := quoteL_free (p := p) (fun hm => h (List.mem_cons_of_mem _ hm))
    unfold quoteL at h2 ⊢
    rw [List.flatMap_cons, if_neg h1, h2]; rfl
theorem quoteL_length : ∀ (l : List UInt8), (quoteL l).length ≤ 2 * l.length
  | [] => Nat.le_refl _
  | c :: l => by
    have := quoteL_length l
    unfold quoteL at this ⊢
    rw [List.flatMap_cons, List.length_append, List.length_cons]
    split <;> simp only [List.length_cons, List.length_nil] <;> omega
theorem tok_quote : ∀ l : List UInt8, tokL (quoteL l) = l.map fun c => ([c], false)
  | [] => by simp [quoteL, tokL]
  | c :: l => by
    have ih := tok_quote l
    by_cases h : c = 123
    · subst h
      have e : quoteL (123 :: l) = 123 :: 123 :: quoteL l := by simp [quoteL]
      have e2 : tokOne (123 :: quoteL l) = (([123], false), 2) := by simp [tokOne]
      rw [e, tokL_brace, e2]
      simp [ih]
    · have e : quoteL (c :: l) = c :: quoteL l := by simp [quoteL, h]
      rw [e, tokL_text c _ h, ih]; rfl
theorem replace_quote (l : List UInt8) : Go.Lib.replaceK [123] [123, 123] (Go.Lib.count l [123]) l = quoteL l := by
  rcases idx_spec 123 l with ⟨h1, h2⟩ | ⟨i, h1, h2, h3, h4⟩
  · have hi : Go.Lib.index l [123] = -1 := by rw [Go.Lib.index_one, h1]
    rw [Go.Lib.count_miss hi, quoteL_free h2]
    rfl
  · have hi : Go.Lib.index l [123] = (i : Int) := by rw [Go.Lib.index_one, h1]
    have ih := replace_quote (l.drop (i + 1))
    rw [Go.Lib.count_hit (by simp) hi, Nat.add_comm 1, Go.Lib.replaceK_hit _ _ _ _ _ hi, show ([123] : List UInt8).length = 1 from rfl, ih]
    have e : l = l.take i ++ ([123] ++ l.drop (i + 1)) := by
      conv => lhs; rw [← List.take_append_drop i l, h2]
      rfl
    conv => rhs; rw [e, quoteL_app, quoteL_app, quoteL_free h3]
    rw [List.append_assoc]
    rfl
  termination_by l.length
  decreasing_by rw [List.length_drop]; omega
theorem Quote_eq (a : ByteArray) (ha : a.size ≤ 1048576) : blanks_Quote.f a = some (bytesA (quoteL a.data.toList)) := by
  unfold blanks_Quote.f strings_ReplaceAll.f
  have h1 := Go.Lib.countB_mul_le (⟨#[123]⟩ : ByteArray) (by decide) a.size a (Nat.le_refl _)
  rw [show (⟨#[123]⟩ : ByteArray).size = 1 from rfl] at h1
  rw [if_pos ⟨by omega, by decide, by rw [show (⟨#[123, 123]⟩ : ByteArray).size = 2 from rfl]; omega⟩, Option.bind_some]
  have e : Go.Lib.replaceAll a.data.toList [123] [123, 123] = quoteL a.data.toList := by
    unfold Go.Lib.replaceAll Go.Lib.replace
    rw [if_neg (by decide)]
    unfold Go.Lib.replaceNum
    rw [if_pos (Or.inl (by decide))]
    exact replace_quote _
  show some (⟨(Go.Lib.replaceAll a.data.toList [123] [123, 123]).toArray⟩ : ByteArray) = _
  rw [e]
  rfl
theorem Fill_spec2 (x : ByteArray) (l0 : List S32) (h : Fine l0) (hx : x.size ≤ 10485760) (hT : ((tokL x.data.toList).flatMap (dn (valL l0))).length ≤ 1099511627776) : Ev (fun k => blanks_Fill.f k x l0) (canon ((tokL x.data.toList).flatMap (dn (valL l0)))) := by
  obtain ⟨ps, hA, hl, hE⟩ := pieces_spec x (by omega)
  unfold blanks_Fill.f
  refine Ev.bind hE ?_
  have e := hA.1 (valL l0)
  refine Fill_loop l0 h ps (by omega) (fun p hp => by have := piece_size hA p hp; rw [size_list] at this; omega) _ hT ps.length 0 [] (by omega) (fun _ h => by cases h) (by simp) ?_
  rw [← e]
  rfl
theorem none_blank {ps : List S69} {l : List UInt8} (h : Alike (ps.map toP) (tokL (quoteL l))) : ∀ p ∈ ps, p.f1 = false := by
  have h2 := h.2
  rw [tok_quote] at h2
  have h3 : namesL (l.map fun c => ([c], false)) = [] := by
    unfold namesL
    rw [List.map_eq_nil_iff, List.filter_eq_nil_iff]
    intro p hp
    obtain ⟨c, _, rfl⟩ := List.mem_map.1 hp
    simp
  rw [h3] at h2
  unfold namesL at h2
  rw [List.map_eq_nil_iff, List.filter_eq_nil_iff] at h2
  intro p hp
  have := h2 (toP p) (List.mem_map_of_mem hp)
  simpa [toP] using this
theorem quote_count (ps : List S69) (hf : ∀ p ∈ ps, p.f1 = false) (hn : ps.length ≤ 1099511627776) : ∀ (d i : Nat), i + d = ps.length → Ev (fun k => blanks_Count.l0 k 0 ps (ps.length : Int) (i : Int)) 0 := by
  intro d
  induction d with
  | zero =>
    intro i hi
    refine Ev.step1 (Ev.now _) (fun k => ?_)
    simp only [blanks_Count.l0]
    rw [if_neg (by omega)]
  | succ d ih =>
    intro i hi
    have hlt : i < ps.length := by omega
    refine Ev.step1 (ih (i + 1) (by omega)) (fun k => ?_)
    simp only [blanks_Count.l0]
    rw [if_pos (by omega), if_pos (by omega), if_pos (by omega), rdT69 hlt, hf _ (List.getElem_mem hlt), w64 (x := (i : Int) + 1) (by omega) (by omega)]
    rfl
theorem quote_names (ps : List S69) (hf : ∀ p ∈ ps, p.f1 = false) (hn : ps.length ≤ 1099511627776) : ∀ (d i : Nat), i + d = ps.length → Ev (fun k => blanks_Names.l0 k [] ps (ps.length : Int) (i : Int)) [] := by
  intro d
  induction d with
  | zero =>
    intro i hi
    refine Ev.step1 (Ev.now _) (fun k => ?_)
    simp only [blanks_Names.l0]
    rw [if_neg (by omega)]
  | succ d ih =>
    intro i hi
    have hlt : i < ps.length := by omega
    refine Ev.step1 (ih (i + 1) (by omega)) (fun k => ?_)
    simp only [blanks_Names.l0]
    rw [if_pos (by omega), if_pos (by omega), if_pos (by omega), rdT69 hlt, hf _ (List.getElem_mem hlt), w64 (x := (i : Int) + 1) (by omega) (by omega)]
    rfl
theorem fill_quote (l0 : List S32) : ∀ l : List UInt8, (tokL (quoteL l)).flatMap (dn (valL l0)) = allO l 0 := by
  intro l
  rw [tok_quote]
  induction l with
  | nil => rfl
  | cons c l ih =>
    rw [List.map_cons, List.flatMap_cons, ih]
    rfl
theorem BlanksQuote_spec (a : ByteArray) (l1 : List S32) (ha : a.size ≤ 1048576) (h : Fine l1) : Ev (fun k => glazierlaw47_BlanksQuote.f k a l1) true := by
  have hs := size_list a
  have hq := quoteL_length a.data.toList
  have hqs : (bytesA (quoteL a.data.toList)).size = (quoteL a.data.toList).length := bytesA_size _
  have hqd := bytesA_data (quoteL a.data.toList)
  have hT : (allO a.data.toList 0).length = a.size := by unfold allO; rw [List.length_map, hs]
  unfold glazierlaw47_BlanksQuote.f
  refine Ev.bind Blanks_alive ?_
  simp only [if_true, Quote_eq a ha, Option.bind_some]
  have hF := Fill_spec2 (bytesA (quoteL a.data.toList)) l1 h (by omega) (by rw [hqd, fill_quote]; omega)
  rw [hqd, fill_quote] at hF
  refine Ev.bind hF ?_
  simp only [Of_spec a 0 (by omega), Option.bind_some]
  have hc := canon_size (allO a.data.toList 0)
  have hr := canon_runs (allO a.data.toList 0)
  refine Ev.bind (Same_spec _ _ _ _ rfl (by omega) (by omega) (by omega)) ?_
  simp only [if_true]
  obtain ⟨ps, hA, hl, hE⟩ := pieces_spec (bytesA (quoteL a.data.toList)) (by omega)
  rw [hqd] at hA
  have hf := none_blank hA
  refine Ev.bind (a := 0) ?_ ?_
  · unfold blanks_Count.f
    exact Ev.bind hE (quote_count ps hf (by omega) _ 0 (Nat.zero_add _))
  · simp only [if_true]
    refine Ev.bind (a := []) ?_ (Ev.now _)
    unfold blanks_Names.f
    exact Ev.bind hE (quote_names ps hf (by omega) _ 0 (Nat.zero_add _))
theorem BlanksQuote_pure (a : ByteArray) (l1 : List S32) (ha : a.size ≤ 1048576) (h : (l1.map wt32).sum + 1 ≤ 1048576) : ∃ k, glazierlaw47_BlanksQuote.f k a l1 = some true := (BlanksQuote_spec a l1 ha (fine_of h)).rounds
end Go.Proofs.YtljmmhihdcnbaaaDoor.G
