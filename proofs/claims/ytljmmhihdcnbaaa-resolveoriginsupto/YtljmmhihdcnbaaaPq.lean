/- Labelled texts made lower, trimmed; where a byte stands first. -/
import Derived.Test.YtljmmhihdcnbaaaPa
import Derived.Test.YtljmmhihdcnbaaaG14
import Derived.Test.YtljmmhihdcnbaaaG6
namespace Go.Proofs.Ytljmmhihdcnbaaa.G
open Go.RowKit Go.Proofs.YtljmmhihdcnbaaaW.PrintWords Go.Proofs.YtljmmhihdcnbaaaW.PrintLast Go.Proofs.YtljmmhihdcnbaaaW.PrintMore
set_option linter.unusedVariables false
set_option linter.unusedSimpArgs false
/-! ### Lower -/
def lowL (l : List Lc) : List Lc := l.map fun c => (lowB c.1, c.2)
theorem lowL_ok {l : List Lc} (h : Okl l) : Okl (lowL l) := by
  intro c hc
  obtain ⟨x, hx, rfl⟩ := List.mem_map.1 hc
  exact h x hx
theorem lowS_size (t : ByteArray) : (lowS t).size = t.size := by
  have e : lowS t = bytesA (t.data.toList.map lowB) := rfl
  rw [e, bytesA_size, List.length_map, size_list]
theorem La_lowS (t : ByteArray) (rs : List S85) : La (lowS t) rs = lowL (La t rs) := by
  unfold La lowL
  rw [lowS_size]
  have : (lowS t).data.toList = t.data.toList.map lowB := by simp [lowS]
  rw [this, List.zip_map_left]
  rfl
theorem Lower_spec (t : ByteArray) (rs : List S85) (ht : t.size ≤ 1099511627776) (hr : rs.length ≤ 1099511627776) : Ev (fun k => fold_Lower.f k t rs) (canon (lowL (La t rs))) := by
  have h := Fix_spec (lowS t) rs (by rw [lowS_size]; exact ht) hr
  rw [La_lowS] at h
  refine Ev.eq h (fun k => ?_)
  unfold fold_Lower.f
  rw [if_pos (by omega)]
/-! ### Trim -/
def trimL (p : UInt8 → Bool) (l : List Lc) : List Lc := (((l.dropWhile fun c => p c.1).reverse).dropWhile fun c => p c.1).reverse
theorem dropWhile_drop {α : Type} (p : α → Bool) (l : List α) : l.dropWhile p = l.drop (l.takeWhile p).length := by
  induction l with
  | nil => rfl
  | cons a l ih =>
    rw [List.dropWhile_cons, List.takeWhile_cons]
    split
    · simp [ih]
    · simp
theorem takeWhile_app {α : Type} (p : α → Bool) (a b : List α) (h : ∃ x ∈ a, p x = false) : (a ++ b).takeWhile p = a.takeWhile p := by
  induction a with
  | nil => obtain ⟨x, hx, _⟩ := h; cases hx
  | cons y a ih =>
    rw [List.cons_append, List.takeWhile_cons, List.takeWhile_cons]
    split
    · rename_i hy
      obtain ⟨x, hx, hp⟩ := h
      rcases List.mem_cons.1 hx with rfl | hx
      · rw [hp] at hy; cases hy
      · rw [ih ⟨x, hx, hp⟩]
    · rfl
theorem all_takeWhile {α : Type} (p : α → Bool) : ∀ (l : List α) (x : α), x ∈ l.takeWhile p → p x = true
  | [], x, h => by cases h
  | a :: l, x, h => by
    rw [List.takeWhile_cons] at h
    split at h
    · rename_i ha
      rcases List.mem_cons.1 h with rfl | h
      · exact ha
      · exact all_takeWhile p l x h
    · cases h
theorem trim_cut {α : Type} (p : α → Bool) (l : List α) : (l.take (max (l.takeWhile p).length (l.length - (l.reverse.takeWhile p).length))).drop (l.takeWhile p).length = (((l.dropWhile p).reverse).dropWhile p).reverse := by
  have hle := (List.takeWhile_prefix p (l := l)).length_le
  by_cases hall : (l.takeWhile p).length = l.length
  · have e : l.dropWhile p = [] := by rw [dropWhile_drop, hall]; simp
    rw [e, List.drop_eq_nil_of_le (by rw [List.length_take]; omega)]
    rfl
  · have hlt : (l.takeWhile p).length < l.length := by omega
    have hd : l.dropWhile p = l.drop (l.takeWhile p).length := dropWhile_drop p l
    have hx : ∃ x ∈ (l.dropWhile p).reverse, p x = false := by
      have hne : l.dropWhile p ≠ [] := by
        intro h
        have := congrArg List.length (hd.symm.trans h)
        rw [List.length_drop, List.length_nil] at this
        omega
      refine ⟨(l.dropWhile p).head hne, List.mem_reverse.2 (List.head_mem hne), ?_⟩
      have h3 := List.head_dropWhile_not p hne
      simpa using h3
    have hr : l.reverse.takeWhile p = (l.dropWhile p).reverse.takeWhile p := by
      have e : l.reverse = (l.dropWhile p).reverse ++ (l.takeWhile p).reverse := by rw [← List.reverse_append, List.takeWhile_append_dropWhile]
      rw [e, takeWhile_app p _ _ hx]
    have hm := (List.takeWhile_prefix p (l := (l.dropWhile p).reverse)).length_le
    have hm2 : ((l.dropWhile p).reverse.takeWhile p).length < (l.dropWhile p).length := by
      rcases Nat.lt_or_ge ((l.dropWhile p).reverse.takeWhile p).length (l.dropWhile p).length with h | h
      · exact h
      · obtain ⟨x, hx, hp⟩ := hx
        have e := List.IsPrefix.eq_of_length_le (List.takeWhile_prefix p (l := (l.dropWhile p).reverse)) (by rw [List.length_reverse]; exact h)
        have := all_takeWhile p _ x (by rw [e]; exact hx : x ∈ (l.dropWhile p).reverse.takeWhile p)
        rw [hp] at this
        cases this
    rw [hr, dropWhile_drop p (l.dropWhile p).reverse]
    have hdl : (l.dropWhile p).length = l.length - (l.takeWhile p).length := by rw [hd, List.length_drop]
    rw [Nat.max_eq_right (by omega), List.drop_take, ← hd, List.reverse_drop, List.length_reverse, List.reverse_reverse]
    congr 1
    omega
theorem takeWhile_map {α β : Type} (f : α → β) (p : β → Bool) (l : List α) : (l.map f).takeWhile p = (l.takeWhile (fun x => p (f x))).map f := by
  induction l with
  | nil => rfl
  | cons a l ih => rw [List.map_cons, List.takeWhile_cons, List.takeWhile_cons]; split <;> simp [*]
theorem trim_of_cut (p : UInt8 → Bool) (t : ByteArray) (rs : List S85) : cutL (La t rs) (inFrom p t : Int) (inTo p t : Int) = trimL p (La t rs) := by
  have hlen := La_length t rs
  have h1 : inFrom p t = ((La t rs).takeWhile fun c => p c.1).length := by
    unfold inFrom
    rw [← La_fst t rs, takeWhile_map, List.length_map]
  have h2 : inTo p t = max ((La t rs).takeWhile fun c => p c.1).length ((La t rs).length - ((La t rs).reverse.takeWhile fun c => p c.1).length) := by
    unfold inTo
    rw [h1, hlen, ← La_fst t rs, ← List.map_reverse, takeWhile_map, List.length_map]
  rw [cutL_nat _ _ _ (by rw [hlen]; exact inTo_le p t) (by rw [hlen]; exact inFrom_le p t), h1, h2, trim_cut]
  rfl
theorem mem_trimL {p : UInt8 → Bool} {l : List Lc} {c : Lc} (h : c ∈ trimL p l) : c ∈ l := by
  unfold trimL at h
  have h1 := List.mem_reverse.1 h
  have h2 := List.mem_reverse.1 ((List.dropWhile_suffix _).mem h1)
  exact (List.dropWhile_suffix _).mem h2
theorem trimL_ok {p : UInt8 → Bool} {l : List Lc} (h : Okl l) : Okl (trimL p l) := h.sub fun _ hc => mem_trimL hc
theorem trimL_length (p : UInt8 → Bool) (l : List Lc) : (trimL p l).length ≤ l.length := by
  unfold trimL
  rw [List.length_reverse]
  have h1 := (List.dropWhile_suffix (fun c : Lc => p c.1) (l := (l.dropWhile fun c => p c.1).reverse)).length_le
  have h2 := (List.dropWhile_suffix (fun c : Lc => p c.1) (l := l)).length_le
  rw [List.length_reverse] at h1
  omega
def ws : ByteArray := ⟨#[9, 10, 12, 13, 32]⟩
theorem Lower_canon {l : List Lc} (h : Okl l) (hl : l.length ≤ 1099511627776) : Ev (fun k => fold_Lower.f k (canon l).1 (canon l).2) (canon (lowL l)) := by
  have hc := canon_runs l
  have := Lower_spec (canon l).1 (canon l).2 (by rw [canon_size]; exact hl) (by omega)
  rwa [La_canon h] at this
theorem Cut_canon {l : List Lc} (h : Okl l) (hl : l.length ≤ 1099511627776) (a b : Int) : Ev (fun k => mark_Cut.f k (canon l).1 (canon l).2 a b) (canon (cutL l a b)) := by
  have hc := canon_runs l
  have := Cut_spec (canon l).1 (canon l).2 a b (by rw [canon_size]; exact hl) (by omega)
  rwa [La_canon h] at this
theorem cutL_length (l : List Lc) (a b : Int) : (cutL l a b).length ≤ l.length := by unfold cutL; rw [List.length_drop, List.length_take]; omega
theorem dropWhile_none {α : Type} (p : α → Bool) (l : List α) (h : ∀ x, l.head? = some x → p x = false) : l.dropWhile p = l := by
  cases l with
  | nil => rfl
  | cons a l => rw [List.dropWhile_cons, h a rfl]; rfl
theorem head_dropWhile {α : Type} (p : α → Bool) (l : List α) (x : α) (h : (l.dropWhile p).head? = some x) : p x = false := by
  induction l with
  | nil => cases h
  | cons a l ih =>
    rw [List.dropWhile_cons] at h
    split at h
    · exact ih h
    · rename_i ha
      simp at h
      subst h
      simpa using ha
theorem trimL_none (p : UInt8 → Bool) (l : List Lc) (h1 : ∀ c, l.head? = some c → p c.1 = false) (h2 : ∀ c, l.getLast? = some c → p c.1 = false) : trimL p l = l := by
  unfold trimL
  rw [dropWhile_none _ l h1, dropWhile_none _ l.reverse (fun c hc => h2 c (by rw [List.head?_reverse] at hc; exact hc)), List.reverse_reverse]
theorem trimL_ends (p : UInt8 → Bool) (l : List Lc) : (∀ c, (trimL p l).head? = some c → p c.1 = false) ∧ (∀ c, (trimL p l).getLast? = some c → p c.1 = false) := by
  constructor
  · intro c hc
    unfold trimL at hc
    rw [List.head?_reverse] at hc
    have hs : ((l.dropWhile fun c => p c.1).reverse.dropWhile fun c => p c.1) ≠ [] := by intro h; rw [h] at hc; cases hc
    have hsuf := List.dropWhile_suffix (fun c : Lc => p c.1) (l := (l.dropWhile fun c => p c.1).reverse)
    have hl : (l.dropWhile fun c => p c.1).reverse.getLast? = some c := by
      obtain ⟨a, ha⟩ := hsuf
      rw [← ha, List.getLast?_append, hc]
      rfl
    rw [List.getLast?_reverse] at hl
    exact head_dropWhile (fun c : Lc => p c.1) l c hl
  · intro c hc
    unfold trimL at hc
    rw [List.getLast?_reverse] at hc
    exact head_dropWhile (fun c : Lc => p c.1) _ c hc
/-- The first place of a byte; all: there is none. -/
def atL (c : UInt8) (R : List Lc) : Nat := R.findIdx fun x => x.1 == c
theorem atL_le (c : UInt8) (R : List Lc) : atL c R ≤ R.length := List.findIdx_le_length
theorem indexByte_at (c : UInt8) : ∀ R : List Lc, Go.Lib.indexByte (R.map (·.1)) c = if atL c R < R.length then (atL c R : Int) else -1
  | [] => rfl
  | x :: R => by
    have ih := indexByte_at c R
    have hle := atL_le c R
    unfold atL at ih hle ⊢
    rw [List.map_cons, List.findIdx_cons]
    unfold Go.Lib.indexByte
    by_cases h : x.1 = c
    · have h1 : (x.1 == c) = true := beq_iff_eq.2 h
      rw [h1]
      simp
    · have h1 : (x.1 == c) = false := beq_eq_false_iff_ne.2 h
      rw [h1, ih]
      simp only [Bool.false_eq_true, if_false, cond_false, List.length_cons]
      by_cases h2 : R.findIdx (fun x => x.1 == c) < R.length
      · have h3 : (((R.findIdx (fun x => x.1 == c) : Nat) : Int) == -1) = false := beq_eq_false_iff_ne.2 (by omega)
        rw [if_pos h2, h3, if_neg (by simp), if_pos (by omega)]
        omega
      · rw [if_neg h2, if_pos (show ((-1 : Int) == -1) = true from rfl), if_neg (by omega)]
def aheadL (c : UInt8) (R : List Lc) : List Lc := R.take (atL c R)
def behindL (c : UInt8) (R : List Lc) : List Lc := if atL c R < R.length then R.drop (atL c R + 1) else []
theorem aheadL_ok {c : UInt8} {R : List Lc} (h : Okl R) : Okl (aheadL c R) := h.sub fun _ hc => List.mem_of_mem_take hc
theorem behindL_ok {c : UInt8} {R : List Lc} (h : Okl R) : Okl (behindL c R) := by
  unfold behindL
  split
  · exact h.sub fun _ hc => List.mem_of_mem_drop hc
  · exact Okl.nil
theorem aheadL_length (c : UInt8) (R : List Lc) : (aheadL c R).length = atL c R := by
  have := atL_le c R
  unfold aheadL
  rw [List.length_take]
  omega
theorem behindL_length (c : UInt8) (R : List Lc) : (behindL c R).length ≤ R.length := by
  unfold behindL
  split
  · rw [List.length_drop]; omega
  · simp
end Go.Proofs.Ytljmmhihdcnbaaa.G
