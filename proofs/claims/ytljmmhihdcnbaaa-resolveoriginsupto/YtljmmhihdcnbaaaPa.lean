/- Labelled texts: cut, laid end to end, byte by byte: what all the laws' pure texts share. -/
import Derived.Test.YtljmmhihdcnbaaaPc
namespace Go.Proofs.Ytljmmhihdcnbaaa.G
open Go.RowKit Go.Proofs.YtljmmhihdcnbaaaW.PrintWords Go.Proofs.YtljmmhihdcnbaaaW.PrintLast Go.Proofs.YtljmmhihdcnbaaaW.PrintMore
set_option linter.unusedVariables false
set_option linter.unusedSimpArgs false
theorem bt_nat {t : ByteArray} {i : Nat} (h : i < t.data.toList.length) : bt t (i : Int) = (t.data.toList[i].toNat : Int) := by
  have h' : i < t.size := by simpa using h
  unfold bt
  rw [dif_pos (by simpa using h')]
  rfl
def mkS (l : List Lc) : S24 := ⟨(canon l).1, (canon l).2⟩
theorem ls_mkS {l : List Lc} (h : Okl l) : ls (mkS l) = l := La_canon h
theorem flat_mkS {Xs : List (List Lc)} (h : ∀ X ∈ Xs, Okl X) : (Xs.map mkS).flatMap ls = Xs.flatten := by
  induction Xs with
  | nil => rfl
  | cons X Xs ih => rw [List.map_cons, List.flatMap_cons, ls_mkS (h X (by simp)), ih (fun Y hY => h Y (by simp [hY])), List.flatten_cons]
theorem flat_snoc (Xs : List (List Lc)) (X : List Lc) : (Xs ++ [X]).flatten = Xs.flatten ++ X := by simp
theorem mem_flatten_length {Xs : List (List Lc)} {X : List Lc} (h : X ∈ Xs) : X.length ≤ Xs.flatten.length := by
  induction Xs with
  | nil => cases h
  | cons Y Xs ih =>
    rw [List.flatten_cons, List.length_append]
    rcases List.mem_cons.1 h with rfl | h
    · omega
    · have := ih h; omega
theorem Cat_mk (Xs : List (List Lc)) (h : ∀ X ∈ Xs, Okl X) (hn : Xs.length ≤ 2199023255552) (hb : Xs.flatten.length ≤ 1099511627776) : Ev (fun k => mark_Cat.f k (Xs.map mkS)) (canon Xs.flatten) := by
  have e := flat_mkS h
  have := Cat_spec (Xs.map mkS) (by rw [List.length_map]; exact hn) (fun s hs => by
    obtain ⟨X, hX, rfl⟩ := List.mem_map.1 hs
    have h1 := canon_runs X
    have h2 := mem_flatten_length hX
    show (canon X).2.length ≤ _
    omega) (by rw [e]; exact hb)
  rw [e] at this
  exact this
theorem La_get {t : ByteArray} {rs : List S85} {i : Nat} (h : i < (La t rs).length) : bt t (i : Int) = ((La t rs)[i].1.toNat : Int) := by
  have hl : i < t.data.toList.length := by rw [size_list, ← La_length t rs]; exact h
  rw [bt_nat hl]
  have : (La t rs)[i].1 = t.data.toList[i] := by
    simp [La]
  rw [this]
theorem Okl.app {a b : List Lc} (ha : Okl a) (hb : Okl b) : Okl (a ++ b) := fun c hc => by
  rcases List.mem_append.1 hc with h | h
  · exact ha c h
  · exact hb c h
theorem Okl.sub {a b : List Lc} (ha : Okl a) (h : ∀ c ∈ b, c ∈ a) : Okl b := fun c hc => ha c (h c hc)
theorem Okl.one {c : Lc} (h : 0 ≤ c.2 ∧ c.2 ≤ 65536) : Okl [c] := fun x hx => by rw [List.mem_singleton] at hx; subst hx; exact h
theorem Okl.nil : Okl [] := fun _ h => by cases h
theorem Okl.get {l : List Lc} (h : Okl l) {i : Nat} (hi : i < l.length) : 0 ≤ l[i].2 ∧ l[i].2 ≤ 65536 := h _ (List.getElem_mem hi)
theorem Okl.cut {l : List Lc} (h : Okl l) (a b : Int) : Okl (cutL l a b) := h.sub fun c hc => List.mem_of_mem_take (List.mem_of_mem_drop hc)
theorem cut_one {l : List Lc} {i : Nat} (h : i < l.length) : cutL l (i : Int) ((i : Int) + 1) = [l[i]] := by
  have := cutL_nat l i (i + 1) (by omega) (by omega)
  rw [show (((i + 1 : Nat)) : Int) = (i : Int) + 1 from by omega] at this
  rw [this, List.take_succ_eq_append_getElem h, List.drop_append, List.drop_eq_nil_of_le (by rw [List.length_take]; omega), List.length_take, Nat.min_eq_left (by omega), Nat.sub_self]
  rfl
theorem cut_two {l : List Lc} {i : Nat} (h : i + 1 < l.length) : cutL l (i : Int) ((i : Int) + 2) = [l[i], l[i + 1]] := by
  have := cutL_nat l i (i + 2) (by omega) (by omega)
  rw [show (((i + 2 : Nat)) : Int) = (i : Int) + 2 from by omega] at this
  have h0 : i < l.length := by omega
  rw [this, List.take_succ_eq_append_getElem h, List.take_succ_eq_append_getElem h0, List.append_assoc, List.drop_append, List.drop_eq_nil_of_le (by rw [List.length_take]; omega), List.length_take, Nat.min_eq_left (by omega), Nat.sub_self]
  rfl
theorem labO_canon {l : List Lc} (h : Okl l) : labO (canon l).1.size (canon l).2 = l.map (·.2) := by
  rw [← La_snd, La_canon h]
theorem Worst_canon {l : List Lc} (h : Okl l) (hl : l.length ≤ 1099511627776) : Ev (fun k => mark_Worst.f k (canon l).1 (canon l).2) (worst (l.map (·.2))) := by
  have hc := canon_runs l
  have := Worst_spec (canon l).1 (canon l).2 (by rw [canon_size]; exact hl) (by omega)
  rwa [labO_canon h] at this
theorem of_one (b : UInt8) (o : Int) (h : 0 ≤ o ∧ o ≤ 65536) : mark_Of.f ⟨#[b]⟩ o = some (canon [(b, o)]) := by
  rw [Of_spec ⟨#[b]⟩ o (by show 1 ≤ 1099511627776; decide)]
  unfold allO
  simp only [List.map_cons, List.map_nil, nr_of h.1 h.2]
theorem u8_eq {b : UInt8} {n : Nat} (hn : n < 256) : ((b.toNat : Int) = (n : Int)) ↔ b = UInt8.ofNat n := by
  constructor
  · intro h
    have h' : b.toNat = n := by omega
    rw [← h']
    simp
  · rintro rfl
    simp [Nat.mod_eq_of_lt hn]
/-! ### bytes -/
theorem byte_all (p : UInt8 → Bool) (h : (List.range 256).all (fun n => p (UInt8.ofNat n)) = true) (c : UInt8) : p c = true := by
  have := List.all_eq_true.1 h c.toNat (List.mem_range.2 c.toNat_lt)
  simpa using this
def inB (bs : ByteArray) (b : UInt8) : Bool := bs.data.toList.contains b
theorem indexByte_in (l : List UInt8) (c : UInt8) : decide (Go.Lib.indexByte l c ≥ 0) = l.contains c := by
  induction l with
  | nil => rfl
  | cons b l ih =>
    have hge := Go.Lib.indexByte_ge l c
    rw [List.contains_cons]
    unfold Go.Lib.indexByte
    by_cases e : b = c
    · subst e; simp
    · have e1 : (b == c) = false := beq_eq_false_iff_ne.2 e
      have e2 : (c == b) = false := beq_eq_false_iff_ne.2 (Ne.symm e)
      rw [e1, e2, Bool.false_or, ← ih]
      simp only [Bool.false_eq_true, if_false]
      by_cases h : Go.Lib.indexByte l c = -1
      · rw [h]; rfl
      · rw [if_neg (by simpa using h)]
        congr 1
        apply propext
        omega
theorem take_snoc' {α : Type} {l : List α} {i : Nat} (h : i < l.length) : l.take (i + 1) = l.take i ++ [l[i]] := List.take_succ_eq_append_getElem h
end Go.Proofs.Ytljmmhihdcnbaaa.G
