/- Labelled texts cut at bytes, their fields and words, and joined. -/
import Derived.Test.YtljmmhihdcnbaaaPa
import Derived.Test.YtljmmhihdcnbaaaG10
import Derived.Test.YtljmmhihdcnbaaaG23
import Derived.Test.YtljmmhihdcnbaaaG25
namespace Go.Proofs.Ytljmmhihdcnbaaa.G
open Go.RowKit Go.Proofs.YtljmmhihdcnbaaaW.PrintWords Go.Proofs.YtljmmhihdcnbaaaW.PrintLast Go.Proofs.YtljmmhihdcnbaaaW.PrintMore
set_option linter.unusedVariables false
set_option linter.unusedSimpArgs false
section
variable {α : Type}
/-- The parts between what p takes; cur: the part begun. -/
def cutsA (p : α → Bool) : List α → List α → List (List α)
  | cur, [] => [cur]
  | cur, c :: l => if p c = true then cur :: cutsA p [] l else cutsA p (cur ++ [c]) l
theorem cutsA_free (p : α → Bool) : ∀ (w cur l : List α), (∀ c ∈ w, p c = false) → cutsA p cur (w ++ l) = cutsA p (cur ++ w) l
  | [], cur, l, _ => by simp
  | c :: w, cur, l, h => by
    have hc := h c (by simp)
    rw [List.cons_append, cutsA, if_neg (by rw [hc]; simp), cutsA_free p w _ l (fun x hx => h x (by simp [hx]))]
    simp
theorem cutsA_sep (p : α → Bool) (cur l : List α) (c : α) (h : p c = true) : cutsA p cur (c :: l) = cur :: cutsA p [] l := by rw [cutsA, if_pos h]
theorem cutsA_mem (p : α → Bool) : ∀ (l cur : List α), (∀ c ∈ cur, p c = false) → ∀ x ∈ cutsA p cur l, ∀ c ∈ x, p c = false ∧ (c ∈ cur ∨ c ∈ l)
  | [], cur, h, x, hx, c, hc => by
    rw [cutsA, List.mem_singleton] at hx
    subst hx
    exact ⟨h c hc, .inl hc⟩
  | d :: l, cur, h, x, hx, c, hc => by
    rw [cutsA] at hx
    split at hx
    · rcases List.mem_cons.1 hx with rfl | hx
      · exact ⟨h c hc, .inl hc⟩
      · obtain ⟨h1, h2⟩ := cutsA_mem p l [] (fun _ h => by cases h) x hx c hc
        exact ⟨h1, by rcases h2 with h2 | h2; · cases h2
                      · exact .inr (by simp [h2])⟩
    · rename_i hd
      obtain ⟨h1, h2⟩ := cutsA_mem p l (cur ++ [d]) (fun y hy => by
        rcases List.mem_append.1 hy with hy | hy
        · exact h y hy
        · rw [List.mem_singleton] at hy; subst hy; simpa using hd) x hx c hc
      refine ⟨h1, ?_⟩
      rcases h2 with h2 | h2
      · rcases List.mem_append.1 h2 with h2 | h2
        · exact .inl h2
        · rw [List.mem_singleton] at h2; subst h2; exact .inr (by simp)
      · exact .inr (by simp [h2])
theorem cutsA_length (p : α → Bool) : ∀ (l cur : List α), (cutsA p cur l).length = l.countP p + 1
  | [], cur => by simp [cutsA]
  | c :: l, cur => by
    rw [cutsA, List.countP_cons]
    split
    · rw [List.length_cons, cutsA_length p l]
    · rw [cutsA_length p l]
/-- Laid end to end, with something between. -/
def joinA (b : List α) : List (List α) → List α
  | [] => []
  | [x] => x
  | x :: y :: l => x ++ b ++ joinA b (y :: l)
theorem joinA_cons (b x : List α) (l : List (List α)) (h : l ≠ []) : joinA b (x :: l) = x ++ b ++ joinA b l := by
  cases l with
  | nil => exact absurd rfl h
  | cons y l => rfl
theorem cutsA_ne (p : α → Bool) (l cur : List α) : cutsA p cur l ≠ [] := by
  intro h
  have := cutsA_length p l cur
  rw [h] at this
  simp at this
/-- Cut at the bytes v, and joined by v: what it was, as far as f sees. -/
theorem joinA_cuts {β : Type} (p : α → Bool) (f : α → β) (b : α) (hb : ∀ c, p c = true → f c = f b) : ∀ (l cur : List α), (joinA [b] (cutsA p cur l)).map f = (cur ++ l).map f
  | [], cur => by simp [cutsA, joinA]
  | c :: l, cur => by
    rw [cutsA]
    split
    · rename_i hc
      rw [joinA_cons _ _ _ (cutsA_ne p l []), List.map_append, joinA_cuts p f b hb l [], List.nil_append, List.map_append, List.map_append, List.map_cons, List.map_cons, hb c hc]
      simp
    · rw [joinA_cuts p f b hb l]
      simp
theorem cutsA_join (p : α → Bool) (b : α) (hb : p b = true) : ∀ (ws : List (List α)), (∀ x ∈ ws, ∀ c ∈ x, p c = false) → ws ≠ [] → cutsA p [] (joinA [b] ws) = ws
  | [], _, h => absurd rfl h
  | [x], h, _ => by
    have := cutsA_free p x [] [] (h x (by simp))
    rw [List.append_nil, List.nil_append] at this
    rw [joinA, this, cutsA]
  | x :: y :: l, h, _ => by
    rw [joinA, List.append_assoc, cutsA_free p x [] _ (h x (by simp)), List.nil_append, List.singleton_append, cutsA_sep p _ _ _ hb, cutsA_join p b hb (y :: l) (fun z hz => h z (by simp [hz])) (by simp)]
/-- The parts that are not empty. -/
def fieldsA (p : α → Bool) (l : List α) : List (List α) := (cutsA p [] l).filter fun x => !x.isEmpty
theorem fieldsA_mem {p : α → Bool} {l x : List α} (h : x ∈ fieldsA p l) : x ≠ [] ∧ ∀ c ∈ x, p c = false ∧ c ∈ l := by
  obtain ⟨h1, h2⟩ := List.mem_filter.1 h
  refine ⟨by simpa using h2, fun c hc => ?_⟩
  obtain ⟨h3, h4⟩ := cutsA_mem p l [] (fun _ h => by cases h) x h1 c hc
  rcases h4 with h4 | h4
  · cases h4
  · exact ⟨h3, h4⟩
theorem fieldsA_join (p : α → Bool) (b : α) (hb : p b = true) (ws : List (List α)) (h : ∀ x ∈ ws, x ≠ [] ∧ ∀ c ∈ x, p c = false) : fieldsA p (joinA [b] ws) = ws := by
  unfold fieldsA
  rcases Classical.em (ws = []) with rfl | hn
  · simp [joinA, cutsA]
  · rw [cutsA_join p b hb ws (fun x hx => (h x hx).2) hn]
    exact List.filter_eq_self.2 (fun x hx => by simpa using (h x hx).1)
theorem fieldsA_one {p : α → Bool} {x : List α} (h : x ≠ []) (hp : ∀ c ∈ x, p c = false) : fieldsA p x = [x] := by
  have := cutsA_free p x [] [] hp
  rw [List.append_nil, List.nil_append] at this
  unfold fieldsA
  rw [this, cutsA]
  simpa using h
/-- The total length of the parts. -/
theorem cutsA_total (p : α → Bool) : ∀ (l cur : List α), ((cutsA p cur l).map List.length).sum ≤ cur.length + l.length
  | [], cur => by simp [cutsA]
  | c :: l, cur => by
    rw [cutsA]
    split
    · have := cutsA_total p l []
      rw [List.map_cons, List.sum_cons, List.length_cons]
      simp at this
      omega
    · have := cutsA_total p l (cur ++ [c])
      rw [List.length_append] at this
      simp at this ⊢
      omega
/-- The first place of what p takes. -/
theorem cutsA_flat (p : α → Bool) : ∀ (l cur : List α), (cutsA p cur l).flatten.length ≤ cur.length + l.length := by
  intro l cur
  rw [List.length_flatten]
  exact cutsA_total p l cur
end
/-- The bytes alone. -/
def bsL (l : List Lc) : List UInt8 := l.map (·.1)
/-- Each once, by what f sees of it. -/
def onceA (f : List Lc → List UInt8) : List (List Lc) → List (List Lc) → List (List Lc)
  | acc, [] => acc
  | acc, x :: l => if acc.any (fun y => f y == f x) = true then onceA f acc l else onceA f (acc ++ [x]) l
section
variable (f : List Lc → List UInt8)
theorem onceA_mem : ∀ (l acc : List (List Lc)), ∀ x ∈ onceA f acc l, x ∈ acc ∨ x ∈ l
  | [], acc, x, h => .inl h
  | y :: l, acc, x, h => by
    rw [onceA] at h
    split at h
    · rcases onceA_mem l acc x h with h | h
      · exact .inl h
      · exact .inr (by simp [h])
    · rcases onceA_mem l _ x h with h | h
      · rcases List.mem_append.1 h with h | h
        · exact .inl h
        · rw [List.mem_singleton] at h; subst h; exact .inr (by simp)
      · exact .inr (by simp [h])
theorem onceA_length : ∀ (l acc : List (List Lc)), (onceA f acc l).length ≤ acc.length + l.length
  | [], acc => by simp [onceA]
  | y :: l, acc => by
    rw [onceA]
    split
    · have := onceA_length l acc; simp; omega
    · have := onceA_length l (acc ++ [y]); simp at this ⊢; omega
/-- No two look alike. -/
def Apart (l : List (List Lc)) : Prop := l.Pairwise fun a b => f a ≠ f b
theorem onceA_apart : ∀ (l acc : List (List Lc)), Apart f acc → Apart f (onceA f acc l)
  | [], acc, h => h
  | y :: l, acc, h => by
    rw [onceA]
    split
    · exact onceA_apart l acc h
    · rename_i hy
      refine onceA_apart l _ (List.pairwise_append.2 ⟨h, by simp, fun a ha b hb => ?_⟩)
      rw [List.mem_singleton] at hb
      subst hb
      intro e
      exact hy (List.any_eq_true.2 ⟨a, ha, by simp [e]⟩)
theorem onceA_self : ∀ (l acc : List (List Lc)), Apart f (acc ++ l) → onceA f acc l = acc ++ l
  | [], acc, _ => by simp [onceA]
  | y :: l, acc, h => by
    have hy : ¬ (acc.any (fun z => f z == f y) = true) := fun e => by
      obtain ⟨z, hz, he⟩ := List.any_eq_true.1 e
      exact (List.pairwise_append.1 h).2.2 z hz y (by simp) (by simpa using he)
    rw [onceA, if_neg hy, onceA_self l _ (by simpa using h)]
    simp
theorem apart_filter {l : List (List Lc)} (h : Apart f l) (q : List Lc → Bool) : Apart f (l.filter q) := List.Pairwise.filter q h
theorem apart_snoc {l : List (List Lc)} (h : Apart f l) (x : List Lc) (hx : ∀ y ∈ l, f y ≠ f x) : Apart f (l ++ [x]) :=
  List.pairwise_append.2 ⟨h, by simp, fun a ha b hb => by rw [List.mem_singleton] at hb; subst hb; exact hx a ha⟩
/-- Without the one that looks so there is one less. -/
theorem apart_drop : ∀ (l : List (List Lc)) (v : List UInt8), Apart f l → (∃ x ∈ l, f x = v) → (l.filter fun x => !(f x == v)).length + 1 = l.length
  | [], v, _, ⟨x, hx, _⟩ => by cases hx
  | y :: l, v, h, ⟨x, hx, he⟩ => by
    rw [Apart, List.pairwise_cons] at h
    by_cases hy : f y = v
    · have hl : l.filter (fun x => !(f x == v)) = l := List.filter_eq_self.2 (fun z hz => by
        have := h.1 z hz
        rw [hy] at this
        simp [Ne.symm this])
      rw [List.filter_cons_of_neg (by simp [hy]), hl, List.length_cons]
    · have hx' : x ∈ l := by
        rcases List.mem_cons.1 hx with rfl | hx
        · exact absurd he hy
        · exact hx
      have := apart_drop l v h.2 ⟨x, hx', he⟩
      rw [List.filter_cons_of_pos (by simp [hy]), List.length_cons, List.length_cons, this]
end
/-! ### what the packages compute -/
theorem mkS_snoc (Xs : List (List Lc)) (X : List Lc) : (Xs ++ [X]).map mkS = Xs.map mkS ++ [(⟨(canon X).1, (canon X).2⟩ : S24)] := by rw [List.map_append]; rfl
def qB (bs : ByteArray) (c : Lc) : Bool := inB bs c.1
theorem cuts_loop (t : ByteArray) (rs : List S85) (bs : ByteArray) (ht : t.size ≤ 1099511627776) (hr : rs.length ≤ 1099511627776) : ∀ (d i fr : Nat) (Xs : List (List Lc)), i + d = (La t rs).length → fr ≤ i → Xs.length ≤ i →
    Ev (fun k => seek_cuts.l0 k bs (Xs.map mkS) (fr : Int) (t.size : Int) (i : Int) t rs) ((Xs ++ cutsA (qB bs) (((La t rs).take i).drop fr) ((La t rs).drop i)).map mkS) := by
  intro d
  have hn := La_length t rs
  induction d with
  | zero =>
    intro i fr Xs hi hf hXl
    have e1 : (La t rs).take i = La t rs := List.take_of_length_le (by omega)
    rw [List.drop_eq_nil_of_le (show (La t rs).length ≤ i by omega), e1, cutsA, mkS_snoc]
    have hc : cutL (La t rs) (fr : Int) (t.size : Int) = (La t rs).drop fr := by
      rw [← hn, cutL_nat _ _ _ (Nat.le_refl _) (by omega), List.take_of_length_le (Nat.le_refl _)]
    refine Ev.step1 (f := fun k => (mark_Cut.f k t rs (fr : Int) (t.size : Int)).bind fun b => (if (Xs.map mkS).length < 3518437208883 then some (Xs.map mkS ++ [(⟨b.1, b.2⟩ : S24)]) else none)) ?_ (fun k => by
      simp only [seek_cuts.l0]
      rw [if_neg (by omega)])
    refine Ev.bind (Cut_spec t rs _ _ ht hr) ?_
    simp only [if_pos (show (Xs.map mkS).length < 3518437208883 from by rw [List.length_map]; omega)]
    rw [hc]
    exact Ev.now _
  | succ d ih =>
    intro i fr Xs hi hf hXl
    have hlt : i < (La t rs).length := by omega
    have hb := La_get hlt
    have e3 : ((La t rs)[i].1.toNat : Int).toNat.toUInt8 = (La t rs)[i].1 := by simp
    have hidx := indexByte_in bs.data.toList (La t rs)[i].1
    rw [List.drop_eq_getElem_cons hlt, cutsA]
    cases hin : inB bs (La t rs)[i].1 with
    | true =>
      have hge : Go.Lib.indexByte bs.data.toList (La t rs)[i].1 ≥ 0 := of_decide_eq_true (hidx.trans hin)
      have hc : cutL (La t rs) (fr : Int) (i : Int) = ((La t rs).take i).drop fr := cutL_nat _ _ _ (by omega) (by omega)
      have h2 := ih (i + 1) (i + 1) (Xs ++ [((La t rs).take i).drop fr]) (by omega) (by omega) (by simp; omega)
      rw [List.drop_eq_nil_of_le (show ((La t rs).take (i + 1)).length ≤ i + 1 by rw [List.length_take]; omega), List.append_assoc, List.singleton_append, mkS_snoc] at h2
      rw [if_pos (show qB bs (La t rs)[i] = true from hin)]
      refine Ev.step1 (f := fun k => (mark_Cut.f k t rs (fr : Int) (i : Int)).bind fun b => (if (Xs.map mkS).length < 3518437208883 then seek_cuts.l0 k bs (Xs.map mkS ++ [(⟨b.1, b.2⟩ : S24)]) ((i : Int) + 1) (t.size : Int) ((i : Int) + 1) t rs else none)) ?_ (fun k => by
        simp only [seek_cuts.l0]
        rw [if_pos (by omega), if_pos (by omega), if_pos (by omega), hb]
        unfold strings_IndexByte.f
        rw [e3, Option.bind_some, if_pos hge, w64 (by omega) (by omega)])
      refine Ev.bind (Cut_spec t rs _ _ ht hr) ?_
      simp only [if_pos (show (Xs.map mkS).length < 3518437208883 from by rw [List.length_map]; omega), hc]
      exact h2
    | false =>
      have hge : ¬ Go.Lib.indexByte bs.data.toList (La t rs)[i].1 ≥ 0 := of_decide_eq_false (hidx.trans hin)
      have h2 := ih (i + 1) fr Xs (by omega) (by omega) (by omega)
      rw [take_snoc' hlt, List.drop_append, List.length_take, show fr - min i (La t rs).length = 0 from by omega, List.drop_zero] at h2
      rw [if_neg (show ¬ qB bs (La t rs)[i] = true from by rw [show qB bs (La t rs)[i] = false from hin]; simp)]
      refine Ev.step1 h2 (fun k => ?_)
      simp only [seek_cuts.l0]
      rw [if_pos (by omega), if_pos (by omega), if_pos (by omega), hb]
      unfold strings_IndexByte.f
      rw [e3, Option.bind_some, if_neg hge, w64 (by omega) (by omega)]
      rfl
theorem cuts_spec (t : ByteArray) (rs : List S85) (bs : ByteArray) (ht : t.size ≤ 1099511627776) (hr : rs.length ≤ 1099511627776) : Ev (fun k => seek_cuts.f k t rs bs) ((cutsA (qB bs) [] (La t rs)).map mkS) := by
  have h := cuts_loop t rs bs ht hr (La t rs).length 0 0 [] (by omega) (by omega) (by simp)
  rw [List.take_zero, List.drop_nil, List.drop_zero, List.nil_append] at h
  exact h
theorem cutsA_ok {bs : ByteArray} {l : List Lc} (h : Okl l) : ∀ X ∈ cutsA (qB bs) [] l, Okl X := fun X hX => h.sub fun c hc => by
  rcases (cutsA_mem (qB bs) l [] (fun _ h => by cases h) X hX c hc).2 with h | h
  · cases h
  · exact h
theorem cutsA_len {p : Lc → Bool} {l X : List Lc} (hX : X ∈ cutsA p [] l) : X.length ≤ l.length := by
  have h1 := mem_flatten_length hX
  have h2 : (cutsA p [] l).flatten.length ≤ 0 + l.length := cutsA_flat p l []
  omega
def sps : ByteArray := ⟨#[9, 10, 12, 13, 32]⟩
def fieldsL (l : List Lc) : List (List Lc) := fieldsA (qB sps) l
theorem fieldsL_ok {l : List Lc} (h : Okl l) : ∀ X ∈ fieldsL l, Okl X := fun X hX => cutsA_ok h X (List.mem_filter.1 hX).1
theorem fieldsL_len {l X : List Lc} (hX : X ∈ fieldsL l) : X.length ≤ l.length := cutsA_len (List.mem_filter.1 hX).1
theorem fieldsL_num (l : List Lc) : (fieldsL l).length ≤ l.length + 1 := by
  have h1 := List.length_filter_le (fun x : List Lc => !x.isEmpty) (cutsA (qB sps) [] l)
  have h2 := cutsA_length (qB sps) l []
  have h3 : l.countP (qB sps) ≤ l.length := List.countP_le_length
  show ((cutsA (qB sps) [] l).filter fun x => !x.isEmpty).length ≤ _
  omega
theorem mkS_nil (X : List Lc) : (mkS X).f0.toList = [] ↔ X = [] := by
  rw [ByteArray.toList_eq]
  show (bytesA (X.map (·.1))).data.toList = [] ↔ _
  simp [bytesA]
/-! ### joined -/
/-- The pieces from the i-th on, each but the very first behind a separator. -/
def jnL (b : List Lc) : Nat → List (List Lc) → List (List Lc)
  | _, [] => []
  | i, x :: l => (if 0 < i then [b, x] else [x]) ++ jnL b (i + 1) l
theorem jnL_length (b : List Lc) : ∀ (l : List (List Lc)) (i : Nat), (jnL b i l).length ≤ 2 * l.length
  | [], i => by simp [jnL]
  | x :: l, i => by
    have := jnL_length b l (i + 1)
    rw [jnL, List.length_append, List.length_cons]
    split <;> simp <;> omega
theorem jnL_mem (b : List Lc) : ∀ (l : List (List Lc)) (i : Nat) (x : List Lc), x ∈ jnL b i l → x = b ∨ x ∈ l
  | [], i, x, h => by simp [jnL] at h
  | y :: l, i, x, h => by
    rw [jnL, List.mem_append] at h
    rcases h with h | h
    · split at h
      · simp only [List.mem_cons, List.not_mem_nil, or_false] at h
        rcases h with h | h
        · exact .inl h
        · exact .inr (by simp [h])
      · simp only [List.mem_cons, List.not_mem_nil, or_false] at h
        exact .inr (by simp [h])
    · rcases jnL_mem b l (i + 1) x h with h | h
      · exact .inl h
      · exact .inr (by simp [h])
theorem jnL_behind (b : List Lc) : ∀ (l : List (List Lc)) (i : Nat), 0 < i → (jnL b i l).flatten = (l.map fun x => b ++ x).flatten
  | [], i, h => by simp [jnL]
  | x :: l, i, h => by
    rw [jnL, if_pos h, List.flatten_append, jnL_behind b l (i + 1) (by omega)]
    simp
theorem joinA_behind (b : List Lc) : ∀ (l : List (List Lc)) (x : List Lc), joinA b (x :: l) = x ++ (l.map fun x => b ++ x).flatten
  | [], x => by simp [joinA]
  | y :: l, x => by
    rw [joinA, joinA_behind b l y]
    simp
theorem jnL_flat (b : List Lc) : ∀ (l : List (List Lc)), (jnL b 0 l).flatten = joinA b l
  | [] => rfl
  | x :: l => by
    rw [jnL, if_neg (by omega), List.flatten_append, jnL_behind b l 1 (by omega), joinA_behind]
    simp
theorem JoinA_loop (Cs : List (List Lc)) (b : List Lc) (r : ByteArray × List S85) (hn : Cs.length ≤ 1099511627777) : ∀ (d i : Nat) (acc : List (List Lc)), i + d = Cs.length → acc.length ≤ 2 * i → Ev (fun k => mark_Cat.f k ((acc ++ jnL b i (Cs.drop i)).map mkS)) r →
    Ev (fun k => seek_Join.l0 k (acc.map mkS) (Cs.map mkS) ((Cs.map mkS).length : Int) (i : Int) (canon b).1 (canon b).2) r := by
  intro d
  have hm : (Cs.map mkS).length = Cs.length := List.length_map _
  induction d with
  | zero =>
    intro i acc hi ha h
    rw [List.drop_eq_nil_of_le (by omega), jnL, List.append_nil] at h
    refine Ev.step1 (f := fun k => (mark_Cat.f k (acc.map mkS)).bind fun b => some (b.1, b.2)) (Ev.bind h (Ev.now _)) (fun k => ?_)
    simp only [seek_Join.l0]
    rw [if_neg (by omega)]
  | succ d ih =>
    intro i acc hi ha h
    have hlt : i < Cs.length := by omega
    have e : rd_T24 (Cs.map mkS) (i : Int) = mkS Cs[i] := by rw [rdT24 (by omega)]; simp
    have hal : (acc.map mkS).length = acc.length := List.length_map _
    rw [List.drop_eq_getElem_cons hlt, jnL, ← List.append_assoc] at h
    by_cases h0 : 0 < i
    · rw [if_pos h0] at h
      have h2 := ih (i + 1) (acc ++ [b, Cs[i]]) (by omega) (by simp; omega) h
      rw [show acc ++ [b, Cs[i]] = (acc ++ [b]) ++ [Cs[i]] by simp, mkS_snoc, mkS_snoc] at h2
      refine Ev.step1 h2 (fun k => ?_)
      simp only [seek_Join.l0]
      rw [if_pos (by omega), if_pos (by omega), if_pos (by omega), if_pos (by omega), if_pos (by omega), Option.bind_some, if_pos (by simp; omega), e, w64 (by omega) (by omega)]
      rfl
    · rw [if_neg h0] at h
      have h2 := ih (i + 1) (acc ++ [Cs[i]]) (by omega) (by simp; omega) h
      rw [mkS_snoc] at h2
      refine Ev.step1 h2 (fun k => ?_)
      simp only [seek_Join.l0]
      rw [if_pos (by omega), if_pos (by omega), if_pos (by omega), if_neg (by omega), if_pos (by omega), e, w64 (by omega) (by omega)]
      rfl
theorem JoinA_spec (Cs : List (List Lc)) (b : List Lc) (hn : Cs.length ≤ 1099511627776) (hb : Okl b) (hC : ∀ X ∈ Cs, Okl X) (hl : (joinA b Cs).length ≤ 1099511627776) : Ev (fun k => seek_Join.f k (Cs.map mkS) (canon b).1 (canon b).2) (canon (joinA b Cs)) := by
  have hl2 := jnL_length b Cs 0
  have h := Cat_mk (jnL b 0 Cs) (fun X hX => by
    rcases jnL_mem b Cs 0 X hX with rfl | h
    · exact hb
    · exact hC X h) (by omega) (by rw [jnL_flat]; exact hl)
  rw [jnL_flat] at h
  exact JoinA_loop Cs b _ (by omega) Cs.length 0 [] (by omega) (by simp) h
theorem joinA_ok {b : List Lc} (hb : Okl b) {Cs : List (List Lc)} (hC : ∀ X ∈ Cs, Okl X) : Okl (joinA b Cs) := fun c hc => by
  rw [← jnL_flat] at hc
  obtain ⟨X, hX, hcX⟩ := List.mem_flatten.1 hc
  rcases jnL_mem b Cs 0 X hX with h | h
  · exact hb c (h ▸ hcX)
  · exact hC X h c hcX
theorem joinA_length (b : List Lc) : ∀ (Cs : List (List Lc)), (joinA b Cs).length ≤ Cs.flatten.length + Cs.length * b.length
  | [] => by simp [joinA]
  | [x] => by simp [joinA]
  | x :: y :: l => by
    have := joinA_length b (y :: l)
    rw [joinA, List.length_append, List.length_append]
    simp only [List.flatten_cons, List.length_append, List.length_cons] at this ⊢
    have e : (l.length + 1 + 1) * b.length = (l.length + 1) * b.length + b.length := by rw [Nat.add_mul (l.length + 1), Nat.one_mul]
    omega
end Go.Proofs.Ytljmmhihdcnbaaa.G
