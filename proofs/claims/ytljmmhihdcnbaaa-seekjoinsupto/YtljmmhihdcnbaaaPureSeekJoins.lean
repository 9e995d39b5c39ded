/- SeekJoins: the pieces with the separator between them, laid end to end. -/
import Derived.Test.YtljmmhihdcnbaaaPe
import Derived.Test.YtljmmhihdcnbaaaRd
import Derived.Test.YtljmmhihdcnbaaaG87
import Derived.Test.YtljmmhihdcnbaaaG68
import Derived.Test.YtljmmhihdcnbaaaG112
import Derived.Test.YtljmmhihdcnbaaaG114
namespace Go.Proofs.Ytljmmhihdcnbaaa.G
open Go.RowKit Go.Proofs.YtljmmhihdcnbaaaW.PrintWords Go.Proofs.YtljmmhihdcnbaaaW.PrintLast Go.Proofs.YtljmmhihdcnbaaaW.PrintMore
set_option linter.unusedVariables false
set_option linter.unusedSimpArgs false
theorem Seek_alive : Ev (fun k => glazierlaw04_alive.f k) true := Ev.of (fun k => glazierlaw04_alive.mono k) (k := 60) (by decide +kernel)
theorem RefCat (a b : List S29) (h : a.length + b.length < 8796093022208) : glazierref01_Cat.f a b = some (a ++ b) := by
  unfold glazierref01_Cat.f
  simp only [Option.bind_some, List.nil_append, List.length_nil]
  rw [if_pos (by omega), if_pos (by omega)]
/-- The pieces from the i-th on, each but the very first behind a separator. -/
def jn (s : S24) : Nat → List S24 → List S24
  | _, [] => []
  | i, x :: l => (if 0 < i then [s, x] else [x]) ++ jn s (i + 1) l
theorem jn_length (s : S24) : ∀ (l : List S24) (i : Nat), (jn s i l).length ≤ 2 * l.length
  | [], i => by simp [jn]
  | x :: l, i => by
    have := jn_length s l (i + 1)
    rw [jn, List.length_append, List.length_cons]
    split <;> simp <;> omega
theorem jn_mem (s : S24) : ∀ (l : List S24) (i : Nat) (x : S24), x ∈ jn s i l → x = s ∨ x ∈ l
  | [], i, x, h => by simp [jn] at h
  | y :: l, i, x, h => by
    rw [jn, List.mem_append] at h
    rcases h with h | h
    · split at h
      · simp only [List.mem_cons, List.not_mem_nil, or_false] at h
        rcases h with h | h
        · exact .inl h
        · exact .inr (by simp [h])
      · simp only [List.mem_cons, List.not_mem_nil, or_false] at h
        exact .inr (by simp [h])
    · rcases jn_mem s l (i + 1) x h with h | h
      · exact .inl h
      · exact .inr (by simp [h])
theorem flat_le (n : Nat) : ∀ (l : List S24), (∀ x ∈ l, x.f0.size ≤ n) → (l.flatMap ls).length ≤ l.length * n
  | [], _ => by simp
  | x :: l, h => by
    have h1 := h x (by simp)
    have h2 := flat_le n l (fun y hy => h y (by simp [hy]))
    have h3 : (ls x).length = x.f0.size := La_length _ _
    rw [List.flatMap_cons, List.length_append, List.length_cons, Nat.add_mul, Nat.one_mul]
    omega
theorem Join_loop (ss : List S24) (s : S24) (r : ByteArray × List S85) (hn : ss.length ≤ 1099511627776) : ∀ (d i : Nat) (acc : List S24), i + d = ss.length → acc.length ≤ 2 * i → Ev (fun k => mark_Cat.f k (acc ++ jn s i (ss.drop i))) r →
    Ev (fun k => seek_Join.l0 k acc ss (ss.length : Int) (i : Int) s.f0 s.f1) r := by
  intro d
  induction d with
  | zero =>
    intro i acc hi ha h
    rw [List.drop_eq_nil_of_le (by omega), jn, List.append_nil] at h
    refine Ev.step1 (f := fun k => (mark_Cat.f k acc).bind fun b => some (b.1, b.2)) (Ev.bind h (Ev.now _)) (fun k => ?_)
    simp only [seek_Join.l0]
    rw [if_neg (by omega)]
  | succ d ih =>
    intro i acc hi ha h
    have hlt : i < ss.length := by omega
    rw [List.drop_eq_getElem_cons hlt, jn, ← List.append_assoc] at h
    by_cases h0 : 0 < i
    · rw [if_pos h0] at h
      have h2 := ih (i + 1) (acc ++ [s, ss[i]]) (by omega) (by simp; omega) h
      refine Ev.step1 h2 (fun k => ?_)
      simp only [seek_Join.l0]
      rw [if_pos (by omega), if_pos (by omega), if_pos (by omega), if_pos (by omega), if_pos (by omega), Option.bind_some, if_pos (by simp; omega), rdT24 hlt, w64 (by omega) (by omega), List.append_assoc]
      rfl
    · rw [if_neg h0] at h
      have h2 := ih (i + 1) (acc ++ [ss[i]]) (by omega) (by simp; omega) h
      refine Ev.step1 h2 (fun k => ?_)
      simp only [seek_Join.l0]
      rw [if_pos (by omega), if_pos (by omega), if_pos (by omega), if_neg (by omega), if_pos (by omega), rdT24 hlt, w64 (by omega) (by omega)]
      rfl
theorem SeekJoins_loop (ss : List S24) (s : S24) (hn : ss.length ≤ 30) (hs : s.f0.size ≤ 1048576 ∧ s.f1.length ≤ 1048576) (hx : ∀ x ∈ ss, x.f0.size ≤ 1048576 ∧ x.f1.length ≤ 1048576) (T : List Lc) (h : Ev (fun k => (seek_Join.f k ss s.f0 s.f1).bind fun b => (glazierref01_Is.f k b.1 b.2 (T.map toC)).bind fun t => some t) true) : ∀ (d i : Nat) (w : List Lc), i + d = ss.length → w.length ≤ 2 * i * 1048576 → w ++ (jn s i (ss.drop i)).flatMap ls = T →
    Ev (fun k => glazierlaw04_SeekJoins.l0 k ss (w.map toC) (i : Int) s.f0 s.f1) true := by
  intro d
  induction d with
  | zero =>
    intro i w hi hw hT
    rw [List.drop_eq_nil_of_le (by omega), jn, List.flatMap_nil, List.append_nil] at hT
    subst hT
    refine Ev.step1 h (fun k => ?_)
    simp only [glazierlaw04_SeekJoins.l0]
    rw [if_neg (by omega)]
  | succ d ih =>
    intro i w hi hw hT
    have hlt : i < ss.length := by omega
    have hxi := hx ss[i] (List.getElem_mem hlt)
    have hl1 : (ls ss[i]).length = ss[i].f0.size := La_length _ _
    have hl2 : (ls s).length = s.f0.size := La_length _ _
    have e1 : (La ss[i].f0 ss[i].f1) = ls ss[i] := rfl
    have e2 : (La s.f0 s.f1) = ls s := rfl
    rw [List.drop_eq_getElem_cons hlt, jn, List.flatMap_append, ← List.append_assoc] at hT
    by_cases h0 : 0 < i
    · rw [if_pos h0] at hT
      have h2 := ih (i + 1) _ (by omega) (by simp; omega) hT
      refine Ev.step1 (f := fun k => (glazierref01_Of.f k s.f0 s.f1).bind fun a => (glazierref01_Cat.f (w.map toC) a).bind fun b => (glazierref01_Of.f k ss[i].f0 ss[i].f1).bind fun c => (glazierref01_Cat.f b c).bind fun e => glazierlaw04_SeekJoins.l0 k ss e ((i : Int) + 1) s.f0 s.f1) ?_ (fun k => by
        simp only [glazierlaw04_SeekJoins.l0]
        rw [if_pos (by omega), if_pos (by omega)]
        simp only [if_pos (show (0 : Int) ≤ (i : Int) by omega), rdT24 hlt, w64 (x := (i : Int) + 1) (by omega) (by omega)])
      refine Ev.bind (RefOf_spec _ _ (by omega) (by omega)) ?_
      rw [e2]
      simp only [RefCat (w.map toC) ((ls s).map toC) (by rw [List.length_map, List.length_map]; omega), Option.bind_some]
      refine Ev.bind (RefOf_spec _ _ (by omega) (by omega)) ?_
      rw [e1]
      simp only [RefCat (w.map toC ++ (ls s).map toC) ((ls ss[i]).map toC) (by rw [List.length_append, List.length_map, List.length_map, List.length_map]; omega), Option.bind_some]
      simpa using h2
    · rw [if_neg h0] at hT
      have h2 := ih (i + 1) _ (by omega) (by simp; omega) hT
      refine Ev.step1 (f := fun k => (glazierref01_Of.f k ss[i].f0 ss[i].f1).bind fun c => (glazierref01_Cat.f (w.map toC) c).bind fun e => glazierlaw04_SeekJoins.l0 k ss e ((i : Int) + 1) s.f0 s.f1) ?_ (fun k => by
        simp only [glazierlaw04_SeekJoins.l0]
        rw [if_pos (by omega), if_neg (by omega), if_pos (by omega), rdT24 hlt, w64 (by omega) (by omega)])
      refine Ev.bind (RefOf_spec _ _ (by omega) (by omega)) ?_
      rw [e1]
      simp only [RefCat (w.map toC) ((ls ss[i]).map toC) (by rw [List.length_map, List.length_map]; omega), Option.bind_some]
      simpa using h2
theorem Join_spec (ss : List S24) (s : S24) (hn : ss.length ≤ 30) (hs : s.f0.size ≤ 1048576 ∧ s.f1.length ≤ 1048576) (hx : ∀ x ∈ ss, x.f0.size ≤ 1048576 ∧ x.f1.length ≤ 1048576) : Ev (fun k => seek_Join.f k ss s.f0 s.f1) (canon ((jn s 0 ss).flatMap ls)) := by
  have hm : ∀ x ∈ jn s 0 ss, x.f0.size ≤ 1048576 ∧ x.f1.length ≤ 1048576 := fun x h => by
    rcases jn_mem s ss 0 x h with rfl | h
    · exact hs
    · exact hx x h
  have hl := jn_length s ss 0
  have hf := flat_le 1048576 (jn s 0 ss) (fun x h => (hm x h).1)
  have hc := Cat_spec (jn s 0 ss) (by omega) (fun x h => by have := hm x h; omega) (by have : (jn s 0 ss).length * 1048576 ≤ 60 * 1048576 := Nat.mul_le_mul_right _ (by omega); omega)
  exact Join_loop ss s _ (by omega) ss.length 0 [] (by omega) (by simp) hc
theorem SeekJoins_pure (l : List S24) (t : ByteArray) (rs : List S85) (hl : (l.map wt24).sum ≤ 1048576) (ht : t.size ≤ 1048576) (hr : rs.length ≤ 1048576) : ∃ k, glazierlaw04_SeekJoins.f k l t rs = some true := by
  refine Ev.rounds ?_
  have hx : ∀ x ∈ l, x.f0.size ≤ 1048576 ∧ x.f1.length ≤ 1048576 := fun x h => by
    have h1 := sum_mem l wt24 h
    have h2 := wt24_le x
    omega
  have key : ∀ ss : List S24, ss.length ≤ 30 → (∀ x ∈ ss, x ∈ l) → Ev (fun k => glazierlaw04_SeekJoins.j0 k ss t rs) true := by
    intro ss hn hm
    have hx' : ∀ x ∈ ss, x.f0.size ≤ 1048576 ∧ x.f1.length ≤ 1048576 := fun x h => hx x (hm x h)
    have hl := jn_length ⟨t, rs⟩ ss 0
    have hj := Join_spec ss ⟨t, rs⟩ hn ⟨ht, hr⟩ hx'
    have hf := flat_le 1048576 (jn ⟨t, rs⟩ 0 ss) (fun x h => by
      rcases jn_mem ⟨t, rs⟩ ss 0 x h with rfl | h
      · exact ht
      · exact (hx' x h).1)
    have h60 : (jn ⟨t, rs⟩ 0 ss).length * 1048576 ≤ 60 * 1048576 := Nat.mul_le_mul_right _ (by omega)
    refine Ev.step1 (SeekJoins_loop ss ⟨t, rs⟩ hn ⟨ht, hr⟩ hx' _ (Ev.bind hj (Ev.bind (Is_spec _ (by omega)) (Ev.now _))) ss.length 0 [] (by omega) (by simp) rfl) (fun k => ?_)
    simp only [glazierlaw04_SeekJoins.j0]
    rfl
  unfold glazierlaw04_SeekJoins.f
  refine Ev.bind Seek_alive ?_
  simp only [if_true]
  by_cases h : (l.length : Int) > 30
  · simp only [if_pos h]
    simp only [if_pos (show (30 : Int) ≤ (l.length : Int) by omega)]
    exact key _ (by rw [List.length_take]; omega) (fun x h => List.mem_of_mem_take h)
  · simp only [if_neg h]
    exact key l (by omega) (fun x h => h)
end Go.Proofs.Ytljmmhihdcnbaaa.G
