/- Labelled texts as plain lists: what the packages mark and glazierref01 compute on them. -/
import Derived.Test.YtljmmhihdcnbaaaG3
import Derived.Test.YtljmmhihdcnbaaaG2
namespace Go.Proofs.Ytljmmhihdcnbaaa.G
open Go.RowKit Go.Proofs.YtljmmhihdcnbaaaW.PrintWords Go.Proofs.YtljmmhihdcnbaaaW.PrintLast Go.Proofs.YtljmmhihdcnbaaaW.PrintMore
set_option linter.unusedVariables false
set_option linter.unusedSimpArgs false

theorem w64 {x : Int} (h0 : -9223372036854775808 ≤ x) (h1 : x ≤ 9223372036854775807) : wrap64 x = x := by
  unfold wrap64
  omega
theorem mx_eq (a b : Int) : mx a b = max a b := by unfold mx; omega
theorem mn_eq (a b : Int) : mn a b = min a b := by unfold mn; omega

/-- A byte and its origin. -/
abbrev Lc := UInt8 × Int
def nr (o : Int) : Int := min (max o 0) 65536
theorem nr_range (o : Int) : 0 ≤ nr o ∧ nr o ≤ 65536 := by unfold nr; omega
theorem nr_of {o : Int} (h0 : 0 ≤ o) (h1 : o ≤ 65536) : nr o = o := by unfold nr; omega
def labO : Nat → List S85 → List Int
  | n, [] => List.replicate n 65536
  | n, r :: rs => List.replicate (min (max r.f0 0) (n : Int)).toNat (nr r.f1) ++ labO (n - (min (max r.f0 0) (n : Int)).toNat) rs
theorem labO_length : ∀ (rs : List S85) (n : Nat), (labO n rs).length = n
  | [], n => by simp [labO]
  | r :: rs, n => by
    rw [labO, List.length_append, List.length_replicate, labO_length rs]
    omega
theorem labO_range : ∀ (rs : List S85) (n : Nat) (o : Int), o ∈ labO n rs → 0 ≤ o ∧ o ≤ 65536
  | [], n, o, h => by
    obtain ⟨_, rfl⟩ := List.mem_replicate.1 h
    omega
  | r :: rs, n, o, h => by
    rw [labO, List.mem_append] at h
    rcases h with h | h
    · obtain ⟨_, rfl⟩ := List.mem_replicate.1 h
      exact nr_range _
    · exact labO_range rs _ o h

/-- So many bytes more, of an origin. -/
def putp (l : List S85) (n o : Int) : List S85 :=
  if n < 1 then l else
  match l.getLast? with
  | none => [⟨n, o⟩]
  | some r => if r.f1 = o then l.dropLast ++ [⟨r.f0 + n, o⟩] else l ++ [⟨n, o⟩]
theorem putp_zero (l : List S85) (n o : Int) (h : n < 1) : putp l n o = l := by unfold putp; rw [if_pos h]
theorem putp_nil (n o : Int) (h : 1 ≤ n) : putp [] n o = [⟨n, o⟩] := by unfold putp; rw [if_neg (by omega)]; rfl
theorem putp_snoc (l : List S85) (r : S85) (n o : Int) (h : 1 ≤ n) : putp (l ++ [r]) n o = if r.f1 = o then l ++ [⟨r.f0 + n, o⟩] else l ++ [r] ++ [⟨n, o⟩] := by
  unfold putp
  rw [if_neg (by omega), List.getLast?_concat, List.dropLast_concat]
theorem snoc_cases {α : Type} (l : List α) : l = [] ∨ ∃ a x, l = a ++ [x] := by
  rcases List.eq_nil_or_concat l with h | ⟨a, x, h⟩
  · exact .inl h
  · exact .inr ⟨a, x, by simpa using h⟩
theorem putp_put (l : List S85) (n m o : Int) (hn : 0 ≤ n) (hm : 0 ≤ m) : putp (putp l n o) m o = putp l (n + m) o := by
  rcases Int.lt_or_le n 1 with h | h
  · rw [putp_zero l n o h, show n + m = m from by omega]
  rcases Int.lt_or_le m 1 with h' | h'
  · rw [putp_zero _ m o h', show n + m = n from by omega]
  rcases snoc_cases l with rfl | ⟨a, r, rfl⟩
  · rw [putp_nil n o h, putp_nil (n + m) o (by omega)]
    have := putp_snoc [] ⟨n, o⟩ m o h'
    simpa using this
  · rw [putp_snoc a r n o h, putp_snoc a r (n + m) o (by omega)]
    by_cases e : r.f1 = o
    · rw [if_pos e, if_pos e, putp_snoc _ _ m o h', if_pos rfl]
      simp [Int.add_assoc]
    · rw [if_neg e, if_neg e, putp_snoc _ _ m o h', if_pos rfl]
def rle (os : List Int) : List S85 := os.foldl (fun l o => putp l 1 o) []
theorem rle_snoc (os : List Int) (o : Int) : rle (os ++ [o]) = putp (rle os) 1 o := by simp [rle]
theorem rle_rep (os : List Int) (o : Int) : ∀ n : Nat, rle (os ++ List.replicate n o) = putp (rle os) (n : Int) o
  | 0 => by rw [List.replicate_zero, List.append_nil, putp_zero _ _ _ (by omega)]
  | n + 1 => by
    rw [List.replicate_succ', ← List.append_assoc, rle_snoc, rle_rep os o n, putp_put _ _ _ _ (by omega) (by omega)]
    congr 1
/-- The origins that runs tell. -/
def dec (l : List S85) : List Int := l.flatMap fun r => List.replicate r.f0.toNat r.f1
theorem dec_cons (r : S85) (l : List S85) : dec (r :: l) = List.replicate r.f0.toNat r.f1 ++ dec l := by simp [dec]
theorem dec_append (a b : List S85) : dec (a ++ b) = dec a ++ dec b := by simp [dec]
theorem dec_snoc (l : List S85) (r : S85) : dec (l ++ [r]) = dec l ++ List.replicate r.f0.toNat r.f1 := by simp [dec]
/-- Runs as they are written: none empty. -/
def Full (l : List S85) : Prop := ∀ r ∈ l, 1 ≤ r.f0
theorem Full.put {l : List S85} (h : Full l) (n o : Int) : Full (putp l n o) := by
  rcases Int.lt_or_le n 1 with h1 | h1
  · rw [putp_zero _ _ _ h1]; exact h
  rcases snoc_cases l with rfl | ⟨a, r, rfl⟩
  · rw [putp_nil n o h1]
    intro r hr
    rw [List.mem_singleton] at hr
    subst hr
    exact h1
  · have hr := h r (by simp)
    have ha : Full a := fun x hx => h x (by simp [hx])
    rw [putp_snoc a r n o h1]
    split
    · intro x hx
      rw [List.mem_append, List.mem_singleton] at hx
      rcases hx with hx | rfl
      · exact ha x hx
      · show 1 ≤ r.f0 + n
        omega
    · intro x hx
      rw [List.mem_append, List.mem_singleton] at hx
      rcases hx with hx | rfl
      · exact h x hx
      · exact h1
theorem dec_put {l : List S85} (h : Full l) (n o : Int) : dec (putp l n o) = dec l ++ List.replicate n.toNat o := by
  rcases Int.lt_or_le n 1 with h1 | h1
  · rw [putp_zero _ _ _ h1, show n.toNat = 0 from by omega]; simp
  rcases snoc_cases l with rfl | ⟨a, r, rfl⟩
  · rw [putp_nil n o h1]; simp [dec]
  · have hr := h r (by simp)
    rw [putp_snoc a r n o h1]
    split
    · rename_i e
      rw [dec_snoc, dec_snoc, List.append_assoc, e, List.append_cancel_left_eq, show (r.f0 + n).toNat = r.f0.toNat + n.toNat from by omega, List.replicate_append_replicate]
    · rw [dec_snoc]
theorem rle_full (os : List Int) : Full (rle os) := by
  have key : ∀ (xs : List Int) (l : List S85), Full l → Full (xs.foldl (fun l o => putp l 1 o) l) := by
    intro xs
    induction xs with
    | nil => intro l h; exact h
    | cons x xs ih => intro l h; exact ih _ (h.put 1 x)
  exact key os [] (fun _ h => by cases h)
theorem dec_rle (os : List Int) : dec (rle os) = os := by
  have key : ∀ (xs : List Int) (l : List S85), Full l → dec (xs.foldl (fun l o => putp l 1 o) l) = dec l ++ xs := by
    intro xs
    induction xs with
    | nil => intro l h; simp
    | cons x xs ih => intro l h; rw [List.foldl_cons, ih _ (h.put 1 x), dec_put h]; simp
  rw [rle, key os [] (fun _ h => by cases h)]
  rfl
theorem rle_inj {a b : List Int} (h : rle a = rle b) : a = b := by rw [← dec_rle a, ← dec_rle b, h]
theorem dec_length {l : List S85} (h : Full l) : l.length ≤ (dec l).length := by
  induction l with
  | nil => simp
  | cons r l ih =>
    have h1 := h r (by simp)
    have h2 := ih (fun x hx => h x (by simp [hx]))
    simp only [dec, List.flatMap_cons, List.length_append, List.length_replicate, List.length_cons]
    simp only [dec] at h2
    omega
theorem rle_length (os : List Int) : (rle os).length ≤ os.length := by
  have := dec_length (rle_full os)
  rwa [dec_rle] at this
theorem rle_mem {os : List Int} {r : S85} (h : r ∈ rle os) : 1 ≤ r.f0 ∧ r.f0 ≤ os.length ∧ r.f1 ∈ os := by
  have h1 := rle_full os r h
  have h2 : ∀ x ∈ List.replicate r.f0.toNat r.f1, x ∈ os := fun x hx => by
    rw [← dec_rle os]
    exact List.mem_flatMap.2 ⟨r, h, hx⟩
  have h3 : r.f0.toNat ≤ os.length := by
    obtain ⟨a, b, e⟩ := List.append_of_mem h
    have e2 := dec_rle os
    rw [e] at e2
    have : (dec (a ++ r :: b)).length = os.length := by rw [e2]
    simp only [dec, List.flatMap_append, List.flatMap_cons, List.length_append, List.length_replicate] at this
    omega
  exact ⟨h1, by omega, h2 r.f1 (List.mem_replicate.2 ⟨by omega, rfl⟩)⟩
theorem labO_dec : ∀ (l : List S85) (n : Nat), Full l → (dec l).length = n → (∀ r ∈ l, 0 ≤ r.f1 ∧ r.f1 ≤ 65536) → labO n l = dec l
  | [], n, _, h, _ => by
    have : n = 0 := by simpa [dec] using h.symm
    subst this
    rfl
  | r :: l, n, hf, h, ho => by
    have h1 := hf r (by simp)
    have h2 := ho r (by simp)
    have e : dec (r :: l) = List.replicate r.f0.toNat r.f1 ++ dec l := by simp [dec]
    rw [e, List.length_append, List.length_replicate] at h
    rw [labO, e, show (min (max r.f0 0) (n : Int)).toNat = r.f0.toNat from by omega, nr_of h2.1 h2.2, labO_dec l (n - r.f0.toNat) (fun x hx => hf x (by simp [hx])) (by omega) (fun x hx => ho x (by simp [hx]))]
theorem labO_rle {os : List Int} (h : ∀ o ∈ os, 0 ≤ o ∧ o ≤ 65536) : labO os.length (rle os) = os := by
  rw [labO_dec (rle os) os.length (rle_full os) (by rw [dec_rle]) (fun r hr => h _ (rle_mem hr).2.2), dec_rle]

/-! ### put -/
theorem rd_last (l : List S85) (r : S85) : rd_T85 (l ++ [r]) (wrap64 (((l ++ [r]).length : Int) - 1)) = r ∨ 9223372036854775807 < (l.length : Int) := by
  by_cases h : 9223372036854775807 < (l.length : Int)
  · exact .inr h
  · left
    rw [w64 (by rw [List.length_append, List.length_singleton]; omega) (by rw [List.length_append, List.length_singleton]; omega)]
    have : ((((l ++ [r]).length : Int) - 1).toNat) = l.length := by rw [List.length_append]; simp
    unfold rd_T85
    rw [this]
    simp
theorem put_eq (l : List S85) (n o : Int) (hl : l.length < 8796093022208) (hb : ∀ r ∈ l, 0 ≤ r.f0 ∧ r.f0 + n ≤ 9223372036854775807) : mark_put.f l n o = some (putp l n o) := by
  unfold mark_put.f
  rcases Int.lt_or_le n 1 with h1 | h1
  · rw [if_pos h1, putp_zero _ _ _ h1]
  rw [if_neg (by omega)]
  rcases snoc_cases l with rfl | ⟨a, r, rfl⟩
  · rw [if_neg (by rw [List.length_nil, w64 (by decide) (by decide)]; decide), putp_nil n o h1]
    rfl
  · have hr := hb r (by simp)
    have hal : a.length < 8796093022208 := by simp at hl; omega
    have hd := (rd_last a r).resolve_right (by omega)
    have hw : wrap64 (((a ++ [r]).length : Int) - 1) = (a.length : Int) := by rw [w64 (by rw [List.length_append, List.length_singleton]; omega) (by rw [List.length_append, List.length_singleton]; omega)]; simp
    rw [if_pos (by rw [hw]; omega), if_pos (by rw [hw]; omega), if_pos (by rw [hw]; simp; omega), hd, putp_snoc a r n o h1]
    by_cases e : r.f1 = o
    · rw [if_pos e, if_pos e, w64 (by omega) hr.2, hw]
      congr 1
      rw [show ((a.length : Int).toNat) = a.length from by simp, List.set_append_right _ _ (Nat.le_refl _)]
      simp [e]
    · rw [if_neg e, if_neg e, if_pos hl]
theorem put_rle (os : List Int) (n o : Int) (h : (os.length : Int) + n ≤ 1099511627776) (h0 : os.length ≤ 1099511627776) : mark_put.f (rle os) n o = some (rle (os ++ List.replicate n.toNat o)) := by
  have hl := rle_length os
  rw [put_eq _ _ _ (by omega) (fun r hr => by have := rle_mem hr; omega)]
  congr 1
  rcases Int.lt_or_le n 1 with h1 | h1
  · rw [putp_zero _ _ _ h1, show n.toNat = 0 from by omega]; simp
  · rw [rle_rep, show ((n.toNat : Nat) : Int) = n from by omega]
theorem near_eq (o : Int) : mark_near.f o = some (nr o) := by unfold mark_near.f nr; rw [mn_eq, mx_eq]
/-! ### labelled texts -/
def La (t : ByteArray) (rs : List S85) : List Lc := t.data.toList.zip (labO t.size rs)
def bytesA (l : List UInt8) : ByteArray := ⟨l.toArray⟩
def canon (l : List Lc) : ByteArray × List S85 := (bytesA (l.map (·.1)), rle (l.map (·.2)))
def Okl (l : List Lc) : Prop := ∀ c ∈ l, 0 ≤ c.2 ∧ c.2 ≤ 65536
theorem bytesA_size (l : List UInt8) : (bytesA l).size = l.length := by simp [bytesA, ByteArray.size]
theorem canon_size (l : List Lc) : (canon l).1.size = l.length := by simp [canon, bytesA_size]
theorem canon_runs (l : List Lc) : (canon l).2.length ≤ l.length := by have := rle_length (l.map (·.2)); simpa [canon] using this
theorem size_list (t : ByteArray) : t.data.toList.length = t.size := by simp
theorem La_length (t : ByteArray) (rs : List S85) : (La t rs).length = t.size := by
  unfold La
  rw [List.length_zip, labO_length, size_list]
  omega
theorem La_fst (t : ByteArray) (rs : List S85) : (La t rs).map (·.1) = t.data.toList := by
  unfold La
  rw [List.map_fst_zip]
  rw [labO_length, size_list]
  exact Nat.le_refl _
theorem La_snd (t : ByteArray) (rs : List S85) : (La t rs).map (·.2) = labO t.size rs := by
  unfold La
  rw [List.map_snd_zip]
  rw [labO_length, size_list]
  exact Nat.le_refl _
theorem La_ok (t : ByteArray) (rs : List S85) : Okl (La t rs) := by
  intro c hc
  have : c.2 ∈ (La t rs).map (·.2) := List.mem_map.2 ⟨c, hc, rfl⟩
  rw [La_snd] at this
  exact labO_range rs _ _ this
theorem bytesA_list (t : ByteArray) : bytesA t.data.toList = t := rfl
theorem canon_La (t : ByteArray) (rs : List S85) : canon (La t rs) = (t, rle (labO t.size rs)) := by unfold canon; rw [La_fst, La_snd]; rfl
theorem zip_maps (l : List Lc) : (l.map (·.1)).zip (l.map (·.2)) = l := by
  induction l with
  | nil => rfl
  | cons c l ih => simp [ih]
theorem La_canon {l : List Lc} (h : Okl l) : La (canon l).1 (canon l).2 = l := by
  unfold La
  rw [canon_size]
  show (bytesA (l.map (·.1))).data.toList.zip (labO l.length (rle (l.map (·.2)))) = l
  have e : labO l.length (rle (l.map (·.2))) = l.map (·.2) := by
    have := labO_rle (os := l.map (·.2)) (fun o ho => by
      obtain ⟨c, hc, rfl⟩ := List.mem_map.1 ho
      exact h c hc)
    simpa using this
  rw [e]
  exact zip_maps l
theorem canon_inj {a b : List Lc} (h : canon a = canon b) : a = b := by
  unfold canon at h
  simp only [Prod.mk.injEq] at h
  have h1 : a.map (·.1) = b.map (·.1) := by
    have := congrArg (fun x : ByteArray => x.data.toList) h.1
    simpa [bytesA] using this
  have h2 := rle_inj h.2
  rw [← zip_maps a, ← zip_maps b, h1, h2]

/-! ### Ev -/
theorem Ev.step1 {α : Type} {g : Nat → Option α} {r : α} {f : Nat → Option α} (k : Ev f r) (h : ∀ k, g (k + 1) = f k) : Ev g r := Ev.step h k
theorem Ev.eq {α : Type} {g f : Nat → Option α} {r : α} (k : Ev f r) (h : ∀ k, g k = f k) : Ev g r := Ev.congr h k
theorem Ev.all {α : Type} {g : Nat → Option α} {r : α} (h : ∀ k, g k = some r) : Ev g r := ⟨0, fun k _ => h k⟩

/-! ### Fix -/
theorem Fix_loop (t : ByteArray) (rs : List S85) (hr : rs.length ≤ 1099511627776) : ∀ (d i : Nat) (x : Nat) (os : List Int), i + d = rs.length → os.length + x ≤ 1099511627776 →
    Ev (fun k => mark_Fix.l0 k (x : Int) rs (rs.length : Int) (i : Int) t (rle os)) (t, rle (os ++ labO x (rs.drop i))) := by
  intro d
  induction d with
  | zero =>
    intro i x os hi hx
    refine Ev.step1 (f := fun _ => some (t, rle (os ++ labO x (rs.drop i)))) (Ev.now _) (fun k => ?_)
    simp only [mark_Fix.l0]
    rw [if_neg (by omega), put_rle os _ _ (by omega) (by omega), List.drop_eq_nil_of_le (by omega)]
    rfl
  | succ d ih =>
    intro i x os hi hx
    have hlt : i < rs.length := by omega
    have hg : rd_T85 rs (i : Int) = rs[i] := by simp [rd_T85, hlt]
    have hm : mn (mx rs[i].f0 0) (x : Int) = min (max rs[i].f0 0) (x : Int) := by rw [mn_eq, mx_eq]
    have hd : rs.drop i = rs[i] :: rs.drop (i + 1) := List.drop_eq_getElem_cons hlt
    rw [hd, labO, ← List.append_assoc]
    refine Ev.step1 (ih (i + 1) (x - (min (max rs[i].f0 0) (x : Int)).toNat) (os ++ List.replicate (min (max rs[i].f0 0) (x : Int)).toNat (nr rs[i].f1)) (by omega) (by simp; omega)) (fun k => ?_)
    · simp only [mark_Fix.l0]
      rw [if_pos (by omega), if_pos (by omega), if_pos (by omega), hg, near_eq, Option.bind_some, hm, put_rle _ _ _ (by omega) (by omega), Option.bind_some, w64 (by omega) (by omega), w64 (by omega) (by omega)]
      congr 1
      omega
theorem Fix_spec (t : ByteArray) (rs : List S85) (ht : t.size ≤ 1099511627776) (hr : rs.length ≤ 1099511627776) : Ev (fun k => mark_Fix.f k t rs) (canon (La t rs)) := by
  have h := Fix_loop t rs hr rs.length 0 t.size [] (by omega) (by simpa using ht)
  rw [canon_La]
  simpa [mark_Fix.f, rle] using h
end Go.Proofs.Ytljmmhihdcnbaaa.G
