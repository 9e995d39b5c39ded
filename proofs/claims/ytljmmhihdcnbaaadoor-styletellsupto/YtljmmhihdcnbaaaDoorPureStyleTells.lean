import Derived.Test.YtljmmhihdcnbaaaDoorG5
import Derived.Test.YtljmmhihdcnbaaaDoorG4
import Derived.Test.YtljmmhihdcnbaaaDoorG61
import Derived.Test.YtljmmhihdcnbaaaDoorG24
import Derived.Test.YtljmmhihdcnbaaaDoorG52
import Derived.Test.YtljmmhihdcnbaaaDoorG26
import Derived.Test.YtljmmhihdcnbaaaDoorG6
import Derived.Test.YtljmmhihdcnbaaaDoorG20
import Derived.Test.YtljmmhihdcnbaaaDoorG22
import Derived.Test.YtljmmhihdcnbaaaDoorG57
import Derived.Test.YtljmmhihdcnbaaaDoorG9
import Derived.Test.YtljmmhihdcnbaaaDoorG10
import Derived.Test.YtljmmhihdcnbaaaDoorG53
import Derived.Test.YtljmmhihdcnbaaaDoorG18
import Derived.Test.YtljmmhihdcnbaaaDoorG11
import Derived.Test.YtljmmhihdcnbaaaDoorG23
import Derived.Test.YtljmmhihdcnbaaaDoorGC
import Derived.Test.YtljmmhihdcnbaaaDoorG56
import Derived.Test.YtljmmhihdcnbaaaDoorG58
import Derived.Test.YtljmmhihdcnbaaaDoorG67
import Derived.Test.YtljmmhihdcnbaaaDoorG62
import Derived.Test.YtljmmhihdcnbaaaDoorGQ
import Derived.Test.YtljmmhihdcnbaaaDoorGP
import Derived.Test.YtljmmhihdcnbaaaDoorG60
import Derived.Test.YtljmmhihdcnbaaaDoorTS
/- Labelled texts as plain lists: what the packages mark and glazierref01 compute on them. -/
namespace Go.Proofs.YtljmmhihdcnbaaaDoor.G
open Go.RowKit Go.Proofs.YtljmmhihdcnbaaaDoorW.PrintWords Go.Proofs.YtljmmhihdcnbaaaDoorW.PrintLast Go.Proofs.YtljmmhihdcnbaaaDoorW.PrintMore
set_option linter.unusedVariables false
set_option linter.unusedSimpArgs false

theorem w64 {x : Int} (h0 : -9223372036854775808 ≤ x) (h1 : x ≤ 9223372036854775807) : wrap64 x = x := by
  unfold wrap64
  omega
theorem mx_eq (a b : Int) : mx a b = max a b := by unfold mx; omega
theorem mn_eq (a b : Int) : mn a b = min a b := by unfold mn; omega

/-- A byte and its origin. -/
abbrev Lc := UInt8 × Int
def nr (o : Int) : Int := min (max o 0) 65536
theorem nr_range (o : Int) : 0 ≤ nr o ∧ nr o ≤ 65536 := by unfold nr; omega
theorem nr_of {o : Int} (h0 : 0 ≤ o) (h1 : o ≤ 65536) : nr o = o := by unfold nr; omega
def labO : Nat → List S56 → List Int
  | n, [] => List.replicate n 65536
  | n, r :: rs => List.replicate (min (max r.f0 0) (n : Int)).toNat (nr r.f1) ++ labO (n - (min (max r.f0 0) (n : Int)).toNat) rs
theorem labO_length : ∀ (rs : List S56) (n : Nat), (labO n rs).length = n
  | [], n => by simp [labO]
  | r :: rs, n => by
    rw [labO, List.length_append, List.length_replicate, labO_length rs]
    omega
theorem labO_range : ∀ (rs : List S56) (n : Nat) (o : Int), o ∈ labO n rs → 0 ≤ o ∧ o ≤ 65536
  | [], n, o, h => by
    obtain ⟨_, rfl⟩ := List.mem_replicate.1 h
    omega
  | r :: rs, n, o, h => by
    rw [labO, List.mem_append] at h
    rcases h with h | h
    · obtain ⟨_, rfl⟩ := List.mem_replicate.1 h
      exact nr_range _
    · exact labO_range rs _ o h

/-- So many bytes more, of an origin. -/
def putp (l : List S56) (n o : Int) : List S56 :=
  if n < 1 then l else
  match l.getLast? with
  | none => [⟨n, o⟩]
  | some r => if r.f1 = o then l.dropLast ++ [⟨r.f0 + n, o⟩] else l ++ [⟨n, o⟩]
theorem putp_zero (l : List S56) (n o : Int) (h : n < 1) : putp l n o = l := by unfold putp; rw [if_pos h]
theorem putp_nil (n o : Int) (h : 1 ≤ n) : putp [] n o = [⟨n, o⟩] := by unfold putp; rw [if_neg (by omega)]; rfl
theorem putp_snoc (l : List S56) (r : S56) (n o : Int) (h : 1 ≤ n) : putp (l ++ [r]) n o = if r.f1 = o then l ++ [⟨r.f0 + n, o⟩] else l ++ [r] ++ [⟨n, o⟩] := by
  unfold putp
  rw [if_neg (by omega), List.getLast?_concat, List.dropLast_concat]
theorem snoc_cases {α : Type} (l : List α) : l = [] ∨ ∃ a x, l = a ++ [x] := by
  rcases List.eq_nil_or_concat l with h | ⟨a, x, h⟩
  · exact .inl h
  · exact .inr ⟨a, x, by simpa using h⟩
theorem putp_put (l : List S56) (n m o : Int) (hn : 0 ≤ n) (hm : 0 ≤ m) : putp (putp l n o) m o = putp l (n + m) o := by
  rcases Int.lt_or_le n 1 with h | h
  · rw [putp_zero l n o h, show n + m = m from by omega]
  rcases Int.lt_or_le m 1 with h' | h'
  · rw [putp_zero _ m o h', show n + m = n from by omega]
  rcases snoc_cases l with rfl | ⟨a, r, rfl⟩
  · rw [putp_nil n o h, putp_nil (n + m) o (by omega)]
    have := putp_snoc [] ⟨n, o⟩ m o h'
    simpa using this
  · rw [putp_snoc a r n o h, putp_snoc a r (n + m) o (by omega)]
    by_cases e : r.f1 = o
    · rw [if_pos e, if_pos e, putp_snoc _ _ m o h', if_pos rfl]
      simp [Int.add_assoc]
    · rw [if_neg e, if_neg e, putp_snoc _ _ m o h', if_pos rfl]
def rle (os : List Int) : List S56 := os.foldl (fun l o => putp l 1 o) []
theorem rle_snoc (os : List Int) (o : Int) : rle (os ++ [o]) = putp (rle os) 1 o := by simp [rle]
theorem rle_rep (os : List Int) (o : Int) : ∀ n : Nat, rle (os ++ List.replicate n o) = putp (rle os) (n : Int) o
  | 0 => by rw [List.replicate_zero, List.append_nil, putp_zero _ _ _ (by omega)]
  | n + 1 => by
    rw [List.replicate_succ', ← List.append_assoc, rle_snoc, rle_rep os o n, putp_put _ _ _ _ (by omega) (by omega)]
    congr 1
/-- The origins that runs tell. -/
def dec (l : List S56) : List Int := l.flatMap fun r => List.replicate r.f0.toNat r.f1
theorem dec_cons (r : S56) (l : List S56) : dec (r :: l) = List.replicate r.f0.toNat r.f1 ++ dec l := by simp [dec]
theorem dec_append (a b : List S56) : dec (a ++ b) = dec a ++ dec b := by simp [dec]
theorem dec_snoc (l : List S56) (r : S56) : dec (l ++ [r]) = dec l ++ List.replicate r.f0.toNat r.f1 := by simp [dec]
/-- Runs as they are written: none empty. -/
def Full (l : List S56) : Prop := ∀ r ∈ l, 1 ≤ r.f0
theorem Full.put {l : List S56} (h : Full l) (n o : Int) : Full (putp l n o) := by
  rcases Int.lt_or_le n 1 with h1 | h1
  · rw [putp_zero _ _ _ h1]; exact h
  rcases snoc_cases l with rfl | ⟨a, r, rfl⟩
  · rw [putp_nil n o h1]
    intro r hr
    rw [List.mem_singleton] at hr
    subst hr
    exact h1
  · have hr := h r (by simp)
    have ha : Full a := fun x hx => h x (by simp [hx])
    rw [putp_snoc a r n o h1]
    split
    · intro x hx
      rw [List.mem_append, List.mem_singleton] at hx
      rcases hx with hx | rfl
      · exact ha x hx
      · show 1 ≤ r.f0 + n
        omega
    · intro x hx
      rw [List.mem_append, List.mem_singleton] at hx
      rcases hx with hx | rfl
      · exact h x hx
      · exact h1
theorem dec_put {l : List S56} (h : Full l) (n o : Int) : dec (putp l n o) = dec l ++ List.replicate n.toNat o := by
  rcases Int.lt_or_le n 1 with h1 | h1
  · rw [putp_zero _ _ _ h1, show n.toNat = 0 from by omega]; simp
  rcases snoc_cases l with rfl | ⟨a, r, rfl⟩
  · rw [putp_nil n o h1]; simp [dec]
  · have hr := h r (by simp)
    rw [putp_snoc a r n o h1]
    split
    · rename_i e
      rw [dec_snoc, dec_snoc, List.append_assoc, e, List.append_cancel_left_eq, show (r.f0 + n).toNat = r.f0.toNat + n.toNat from by omega, List.replicate_append_replicate]
    · rw [dec_snoc]
theorem rle_full (os : List Int) : Full (rle os) := by
  have key : ∀ (xs : List Int) (l : List S56), Full l → Full (xs.foldl (fun l o => putp l 1 o) l) := by
    intro xs
    induction xs with
    | nil => intro l h; exact h
    | cons x xs ih => intro l h; exact ih _ (h.put 1 x)
  exact key os [] (fun _ h => by cases h)
theorem dec_rle (os : List Int) : dec (rle os) = os := by
  have key : ∀ (xs : List Int) (l : List S56), Full l → dec (xs.foldl (fun l o => putp l 1 o) l) = dec l ++ xs := by
    intro xs
    induction xs with
    | nil => intro l h; simp
    | cons x xs ih => intro l h; rw [List.foldl_cons, ih _ (h.put 1 x), dec_put h]; simp
  rw [rle, key os [] (fun _ h => by cases h)]
  rfl
theorem dec_length {l : List S56} (h : Full l) : l.length ≤ (dec l).length := by
  induction l with
  | nil => simp
  | cons r l ih =>
    have h1 := h r (by simp)
    have h2 := ih (fun x hx => h x (by simp [hx]))
    simp only [dec, List.flatMap_cons, List.length_append, List.length_replicate, List.length_cons]
    simp only [dec] at h2
    omega
theorem rle_length (os : List Int) : (rle os).length ≤ os.length := by
  have := dec_length (rle_full os)
  rwa [dec_rle] at this
theorem rle_mem {os : List Int} {r : S56} (h : r ∈ rle os) : 1 ≤ r.f0 ∧ r.f0 ≤ os.length ∧ r.f1 ∈ os := by
  have h1 := rle_full os r h
  have h2 : ∀ x ∈ List.replicate r.f0.toNat r.f1, x ∈ os := fun x hx => by
    rw [← dec_rle os]
    exact List.mem_flatMap.2 ⟨r, h, hx⟩
  have h3 : r.f0.toNat ≤ os.length := by
    obtain ⟨a, b, e⟩ := List.append_of_mem h
    have e2 := dec_rle os
    rw [e] at e2
    have : (dec (a ++ r :: b)).length = os.length := by rw [e2]
    simp only [dec, List.flatMap_append, List.flatMap_cons, List.length_append, List.length_replicate] at this
    omega
  exact ⟨h1, by omega, h2 r.f1 (List.mem_replicate.2 ⟨by omega, rfl⟩)⟩
theorem labO_dec : ∀ (l : List S56) (n : Nat), Full l → (dec l).length = n → (∀ r ∈ l, 0 ≤ r.f1 ∧ r.f1 ≤ 65536) → labO n l = dec l
  | [], n, _, h, _ => by
    have : n = 0 := by simpa [dec] using h.symm
    subst this
    rfl
  | r :: l, n, hf, h, ho => by
    have h1 := hf r (by simp)
    have h2 := ho r (by simp)
    have e : dec (r :: l) = List.replicate r.f0.toNat r.f1 ++ dec l := by simp [dec]
    rw [e, List.length_append, List.length_replicate] at h
    rw [labO, e, show (min (max r.f0 0) (n : Int)).toNat = r.f0.toNat from by omega, nr_of h2.1 h2.2, labO_dec l (n - r.f0.toNat) (fun x hx => hf x (by simp [hx])) (by omega) (fun x hx => ho x (by simp [hx]))]
theorem labO_rle {os : List Int} (h : ∀ o ∈ os, 0 ≤ o ∧ o ≤ 65536) : labO os.length (rle os) = os := by
  rw [labO_dec (rle os) os.length (rle_full os) (by rw [dec_rle]) (fun r hr => h _ (rle_mem hr).2.2), dec_rle]

/-! ### put -/
theorem rd_last (l : List S56) (r : S56) : rd_T56 (l ++ [r]) (wrap64 (((l ++ [r]).length : Int) - 1)) = r ∨ 9223372036854775807 < (l.length : Int) := by
  by_cases h : 9223372036854775807 < (l.length : Int)
  · exact .inr h
  · left
    rw [w64 (by rw [List.length_append, List.length_singleton]; omega) (by rw [List.length_append, List.length_singleton]; omega)]
    have : ((((l ++ [r]).length : Int) - 1).toNat) = l.length := by rw [List.length_append]; simp
    unfold rd_T56
    rw [this]
    simp
theorem put_eq (l : List S56) (n o : Int) (hl : l.length < 8796093022208) (hb : ∀ r ∈ l, 0 ≤ r.f0 ∧ r.f0 + n ≤ 9223372036854775807) : mark_put.f l n o = some (putp l n o) := by
  unfold mark_put.f
  rcases Int.lt_or_le n 1 with h1 | h1
  · rw [if_pos h1, putp_zero _ _ _ h1]
  rw [if_neg (by omega)]
  rcases snoc_cases l with rfl | ⟨a, r, rfl⟩
  · rw [if_neg (by rw [List.length_nil, w64 (by decide) (by decide)]; decide), putp_nil n o h1]
    rfl
  · have hr := hb r (by simp)
    have hal : a.length < 8796093022208 := by simp at hl; omega
    have hd := (rd_last a r).resolve_right (by omega)
    have hw : wrap64 (((a ++ [r]).length : Int) - 1) = (a.length : Int) := by rw [w64 (by rw [List.length_append, List.length_singleton]; omega) (by rw [List.length_append, List.length_singleton]; omega)]; simp
    rw [if_pos (by rw [hw]; omega), if_pos (by rw [hw]; omega), if_pos (by rw [hw]; simp; omega), hd, putp_snoc a r n o h1]
    by_cases e : r.f1 = o
    · rw [if_pos e, if_pos e, w64 (by omega) hr.2, hw]
      congr 1
      rw [show ((a.length : Int).toNat) = a.length from by simp, List.set_append_right _ _ (Nat.le_refl _)]
      simp [e]
    · rw [if_neg e, if_neg e, if_pos hl]
theorem put_rle (os : List Int) (n o : Int) (h : (os.length : Int) + n ≤ 1099511627776) (h0 : os.length ≤ 1099511627776) : mark_put.f (rle os) n o = some (rle (os ++ List.replicate n.toNat o)) := by
  have hl := rle_length os
  rw [put_eq _ _ _ (by omega) (fun r hr => by have := rle_mem hr; omega)]
  congr 1
  rcases Int.lt_or_le n 1 with h1 | h1
  · rw [putp_zero _ _ _ h1, show n.toNat = 0 from by omega]; simp
  · rw [rle_rep, show ((n.toNat : Nat) : Int) = n from by omega]
theorem near_eq (o : Int) : mark_near.f o = some (nr o) := by unfold mark_near.f nr; rw [mn_eq, mx_eq]
theorem refnear_eq (o : Int) : glazierref01_near.f o = some (nr o) := by unfold glazierref01_near.f nr; rw [mn_eq, mx_eq]

/-! ### labelled texts -/
def La (t : ByteArray) (rs : List S56) : List Lc := t.data.toList.zip (labO t.size rs)
def bytesA (l : List UInt8) : ByteArray := ⟨l.toArray⟩
def canon (l : List Lc) : ByteArray × List S56 := (bytesA (l.map (·.1)), rle (l.map (·.2)))
def Okl (l : List Lc) : Prop := ∀ c ∈ l, 0 ≤ c.2 ∧ c.2 ≤ 65536
theorem bytesA_size (l : List UInt8) : (bytesA l).size = l.length := by simp [bytesA, ByteArray.size]
theorem canon_size (l : List Lc) : (canon l).1.size = l.length := by simp [canon, bytesA_size]
theorem canon_runs (l : List Lc) : (canon l).2.length ≤ l.length := by have := rle_length (l.map (·.2)); simpa [canon] using this
theorem size_list (t : ByteArray) : t.data.toList.length = t.size := by simp
theorem La_length (t : ByteArray) (rs : List S56) : (La t rs).length = t.size := by
  unfold La
  rw [List.length_zip, labO_length, size_list]
  omega
theorem La_fst (t : ByteArray) (rs : List S56) : (La t rs).map (·.1) = t.data.toList := by
  unfold La
  rw [List.map_fst_zip]
  rw [labO_length, size_list]
  exact Nat.le_refl _
theorem La_snd (t : ByteArray) (rs : List S56) : (La t rs).map (·.2) = labO t.size rs := by
  unfold La
  rw [List.map_snd_zip]
  rw [labO_length, size_list]
  exact Nat.le_refl _
theorem La_ok (t : ByteArray) (rs : List S56) : Okl (La t rs) := by
  intro c hc
  have : c.2 ∈ (La t rs).map (·.2) := List.mem_map.2 ⟨c, hc, rfl⟩
  rw [La_snd] at this
  exact labO_range rs _ _ this
theorem bytesA_list (t : ByteArray) : bytesA t.data.toList = t := rfl
theorem canon_La (t : ByteArray) (rs : List S56) : canon (La t rs) = (t, rle (labO t.size rs)) := by unfold canon; rw [La_fst, La_snd]; rfl
theorem zip_maps (l : List Lc) : (l.map (·.1)).zip (l.map (·.2)) = l := by
  induction l with
  | nil => rfl
  | cons c l ih => simp [ih]
theorem La_canon {l : List Lc} (h : Okl l) : La (canon l).1 (canon l).2 = l := by
  unfold La
  rw [canon_size]
  show (bytesA (l.map (·.1))).data.toList.zip (labO l.length (rle (l.map (·.2)))) = l
  have e : labO l.length (rle (l.map (·.2))) = l.map (·.2) := by
    have := labO_rle (os := l.map (·.2)) (fun o ho => by
      obtain ⟨c, hc, rfl⟩ := List.mem_map.1 ho
      exact h c hc)
    simpa using this
  rw [e]
  exact zip_maps l
/-! ### Ev -/
theorem Ev.step1 {α : Type} {g : Nat → Option α} {r : α} {f : Nat → Option α} (k : Ev f r) (h : ∀ k, g (k + 1) = f k) : Ev g r := Ev.step h k
theorem Ev.eq {α : Type} {g f : Nat → Option α} {r : α} (k : Ev f r) (h : ∀ k, g k = f k) : Ev g r := Ev.congr h k
theorem Ev.all {α : Type} {g : Nat → Option α} {r : α} (h : ∀ k, g k = some r) : Ev g r := ⟨0, fun k _ => h k⟩

/-! ### Fix -/
theorem Fix_loop (t : ByteArray) (rs : List S56) (hr : rs.length ≤ 1099511627776) : ∀ (d i : Nat) (x : Nat) (os : List Int), i + d = rs.length → os.length + x ≤ 1099511627776 →
    Ev (fun k => mark_Fix.l0 k (x : Int) rs (rs.length : Int) (i : Int) t (rle os)) (t, rle (os ++ labO x (rs.drop i))) := by
  intro d
  induction d with
  | zero =>
    intro i x os hi hx
    refine Ev.step1 (f := fun _ => some (t, rle (os ++ labO x (rs.drop i)))) (Ev.now _) (fun k => ?_)
    simp only [mark_Fix.l0]
    rw [if_neg (by omega), put_rle os _ _ (by omega) (by omega), List.drop_eq_nil_of_le (by omega)]
    rfl
  | succ d ih =>
    intro i x os hi hx
    have hlt : i < rs.length := by omega
    have hg : rd_T56 rs (i : Int) = rs[i] := by simp [rd_T56, hlt]
    have hm : mn (mx rs[i].f0 0) (x : Int) = min (max rs[i].f0 0) (x : Int) := by rw [mn_eq, mx_eq]
    have hd : rs.drop i = rs[i] :: rs.drop (i + 1) := List.drop_eq_getElem_cons hlt
    rw [hd, labO, ← List.append_assoc]
    refine Ev.step1 (ih (i + 1) (x - (min (max rs[i].f0 0) (x : Int)).toNat) (os ++ List.replicate (min (max rs[i].f0 0) (x : Int)).toNat (nr rs[i].f1)) (by omega) (by simp; omega)) (fun k => ?_)
    · simp only [mark_Fix.l0]
      rw [if_pos (by omega), if_pos (by omega), if_pos (by omega), hg, near_eq, Option.bind_some, hm, put_rle _ _ _ (by omega) (by omega), Option.bind_some, w64 (by omega) (by omega), w64 (by omega) (by omega)]
      congr 1
      omega
theorem Fix_spec (t : ByteArray) (rs : List S56) (ht : t.size ≤ 1099511627776) (hr : rs.length ≤ 1099511627776) : Ev (fun k => mark_Fix.f k t rs) (canon (La t rs)) := by
  have h := Fix_loop t rs hr rs.length 0 t.size [] (by omega) (by simpa using ht)
  rw [canon_La]
  simpa [mark_Fix.f, rle] using h
end Go.Proofs.YtljmmhihdcnbaaaDoor.G
/- What the functions of mark and glazierref01 compute, as functions on labelled texts. -/
namespace Go.Proofs.YtljmmhihdcnbaaaDoor.G
open Go.RowKit Go.Proofs.YtljmmhihdcnbaaaDoorW.PrintWords Go.Proofs.YtljmmhihdcnbaaaDoorW.PrintLast Go.Proofs.YtljmmhihdcnbaaaDoorW.PrintMore
set_option linter.unusedVariables false
set_option linter.unusedSimpArgs false

def worst (os : List Int) : Int := os.foldl max 0
theorem foldl_max_rep (o : Int) : ∀ (n : Nat) (a : Int), 0 < n → (List.replicate n o).foldl max a = max a o
  | 0, a, h => absurd h (by omega)
  | 1, a, _ => rfl
  | n + 2, a, _ => by
    rw [List.replicate_succ, List.foldl_cons, foldl_max_rep o (n + 1) _ (by omega)]
    omega
theorem foldl_max_dec : ∀ (l : List S56) (a : Int), Full l → (l.map (·.f1)).foldl max a = (dec l).foldl max a
  | [], a, _ => rfl
  | r :: l, a, h => by
    have h1 := h r (by simp)
    have e : dec (r :: l) = List.replicate r.f0.toNat r.f1 ++ dec l := by simp [dec]
    rw [e, List.foldl_append, foldl_max_rep _ _ _ (by omega), List.map_cons, List.foldl_cons, foldl_max_dec l _ (fun x hx => h x (by simp [hx]))]
theorem rdT56 {l : List S56} {i : Nat} (h : i < l.length) : rd_T56 l (i : Int) = l[i] := by simp [rd_T56, h]
theorem rdT24 {l : List S24} {i : Nat} (h : i < l.length) : rd_T24 l (i : Int) = l[i] := by simp [rd_T24, h]
theorem rdT45 {l : List S45} {i : Nat} (h : i < l.length) : rd_T45 l (i : Int) = l[i] := by simp [rd_T45, h]
theorem Worst_loop (l : List S56) (hl : l.length ≤ 1099511627776) : ∀ (d i : Nat) (a : Int), i + d = l.length →
    Ev (fun k => mark_Worst.l0 k a l (l.length : Int) (i : Int)) (((l.drop i).map (·.f1)).foldl max a) := by
  intro d
  induction d with
  | zero =>
    intro i a hi
    refine Ev.step1 (Ev.now _) (fun k => ?_)
    simp only [mark_Worst.l0]
    rw [if_neg (by omega), List.drop_eq_nil_of_le (by omega)]
    rfl
  | succ d ih =>
    intro i a hi
    have hlt : i < l.length := by omega
    rw [List.drop_eq_getElem_cons hlt, List.map_cons, List.foldl_cons]
    refine Ev.step1 (ih (i + 1) (max a l[i].f1) (by omega)) (fun k => ?_)
    simp only [mark_Worst.l0]
    rw [if_pos (by omega), if_pos (by omega), if_pos (by omega), rdT56 hlt, mx_eq, w64 (by omega) (by omega)]
    rfl
theorem Worst_spec (t : ByteArray) (rs : List S56) (ht : t.size ≤ 1099511627776) (hr : rs.length ≤ 1099511627776) : Ev (fun k => mark_Worst.f k t rs) (worst (labO t.size rs)) := by
  unfold mark_Worst.f
  refine Ev.bind (Fix_spec t rs ht hr) ?_
  have hc := canon_runs (La t rs)
  rw [La_length] at hc
  have h := Worst_loop (canon (La t rs)).2 (by omega) (canon (La t rs)).2.length 0 0 (by omega)
  rw [List.drop_zero, foldl_max_dec (canon (La t rs)).2 0 (rle_full _)] at h
  have e : (dec (canon (La t rs)).2) = labO t.size rs := by rw [canon_La]; exact dec_rle _
  rw [e] at h
  exact h

/-! ### Of -/
theorem rle_replicate (n : Nat) (o : Int) : rle (List.replicate n o) = putp [] (n : Int) o := by
  have := rle_rep [] o n
  simpa [rle] using this
def allO (t : List UInt8) (o : Int) : List Lc := t.map fun b => (b, nr o)
theorem Of_spec (t : ByteArray) (o : Int) (ht : t.size ≤ 1099511627776) : mark_Of.f t o = some (canon (allO t.data.toList o)) := by
  unfold mark_Of.f
  rw [near_eq, Option.bind_some, put_eq [] _ _ (by simp) (by simp), Option.bind_some]
  congr 1
  unfold canon allO
  rw [List.map_map, List.map_map]
  have e1 : t.data.toList.map ((fun c : Lc => c.1) ∘ fun b => (b, nr o)) = t.data.toList := by
    have : ((fun c : Lc => c.1) ∘ fun b => (b, nr o)) = id := rfl
    rw [this, List.map_id]
  have e2 : t.data.toList.map ((fun c : Lc => c.2) ∘ fun b => (b, nr o)) = List.replicate t.size (nr o) := by
    have : ((fun c : Lc => c.2) ∘ fun b => (b, nr o)) = fun _ => nr o := rfl
    rw [this, List.map_const', size_list]
  rw [e1, e2, rle_replicate]
  rfl

/-! ### Cat -/
def ls (s : S24) : List Lc := La s.f0 s.f1
theorem bytesOf_list (s : ByteArray) : bytesOf s = s.data.toList.map fun b => (b.toNat : Int) := by
  unfold bytesOf
  simp
theorem strOfNums_map (l : List UInt8) : strOfNums (l.map fun b => (b.toNat : Int)) = bytesA l := by
  unfold strOfNums bytesA
  congr 2
  rw [List.map_map]
  have : ((fun n : Int => UInt8.ofNat n.toNat) ∘ fun b : UInt8 => (b.toNat : Int)) = id := by funext b; simp
  rw [this, List.map_id]
theorem Cat_inner (ss : List S24) (x4 : List Int) (i : Int) (fr : List S56) (hf : Full fr) (t0 : ByteArray) (r : ByteArray × List S56) (hl : fr.length ≤ 1099511627776) : ∀ (d j : Nat) (os : List Int), j + d = fr.length → os.length + (dec (fr.drop j)).length ≤ 1099511627776 →
    Ev (fun k => mark_Cat.l0 k x4 ss (ss.length : Int) (wrap64 (i + 1)) t0 (rle (os ++ dec (fr.drop j)))) r →
    Ev (fun k => mark_Cat.l1 k x4 ss (ss.length : Int) i fr (fr.length : Int) (j : Int) t0 (rle os)) r := by
  intro d
  induction d with
  | zero =>
    intro j os hj hb h
    refine Ev.step1 h (fun k => ?_)
    simp only [mark_Cat.l1]
    rw [if_neg (by omega), List.drop_eq_nil_of_le (by omega)]
    simp [dec]
  | succ d ih =>
    intro j os hj hb h
    have hlt : j < fr.length := by omega
    have e : dec (fr.drop j) = List.replicate fr[j].f0.toNat fr[j].f1 ++ dec (fr.drop (j + 1)) := by rw [List.drop_eq_getElem_cons hlt, dec_cons]
    have hp := hf fr[j] (List.getElem_mem hlt)
    rw [e] at hb h
    rw [← List.append_assoc] at h
    rw [List.length_append, List.length_replicate] at hb
    refine Ev.step1 (ih (j + 1) (os ++ List.replicate fr[j].f0.toNat fr[j].f1) (by omega) (by simp; omega) h) (fun k => ?_)
    simp only [mark_Cat.l1]
    rw [if_pos (by omega), if_pos (by omega), if_pos (by omega), rdT56 hlt, put_rle _ _ _ (by omega) (by omega), Option.bind_some, w64 (by omega) (by omega)]
    rfl
theorem Cat_loop (ss : List S24) (hs : ss.length ≤ 2199023255552) (hq : ∀ s ∈ ss, s.f1.length ≤ 1099511627776) (t0 : ByteArray) : ∀ (d i : Nat) (acc : List Lc), i + d = ss.length → acc.length + ((ss.drop i).flatMap ls).length ≤ 1099511627776 →
    Ev (fun k => mark_Cat.l0 k (acc.map fun c => (c.1.toNat : Int)) ss (ss.length : Int) (i : Int) t0 (rle (acc.map (·.2)))) (canon (acc ++ (ss.drop i).flatMap ls)) := by
  intro d
  induction d with
  | zero =>
    intro i acc hi hb
    refine Ev.step1 (Ev.now _) (fun k => ?_)
    simp only [mark_Cat.l0]
    rw [if_neg (by omega), List.drop_eq_nil_of_le (by omega), List.flatMap_nil, List.append_nil]
    congr 2
    have := strOfNums_map (acc.map (·.1))
    rw [List.map_map] at this
    exact this
  | succ d ih =>
    intro i acc hi hb
    have hlt : i < ss.length := by omega
    have e : (ss.drop i).flatMap ls = ls ss[i] ++ (ss.drop (i + 1)).flatMap ls := by rw [List.drop_eq_getElem_cons hlt, List.flatMap_cons]
    rw [e] at hb ⊢
    rw [List.length_append] at hb
    have hls : (ls ss[i]).length = ss[i].f0.size := La_length _ _
    have h2 := ih (i + 1) (acc ++ ls ss[i]) (by omega) (by simp only [List.length_append]; omega)
    rw [List.append_assoc] at h2
    have hcr := canon_runs (ls ss[i])
    have h3 := Cat_inner ss ((acc ++ ls ss[i]).map fun c => (c.1.toNat : Int)) (i : Int) (canon (ls ss[i])).2 (rle_full _) t0 _ (by omega) (canon (ls ss[i])).2.length 0 (acc.map (·.2)) (by omega) (by
      rw [List.drop_zero]
      show _ + (dec (rle _)).length ≤ _
      rw [dec_rle, List.length_map, List.length_map]
      omega) (by
      rw [List.drop_zero, w64 (by omega) (by omega)]
      show Ev (fun k => mark_Cat.l0 k _ ss (ss.length : Int) ((i : Int) + 1) t0 (rle (_ ++ dec (rle _)))) _
      rw [dec_rle, ← List.map_append]
      exact h2)
    refine Ev.step1 (f := fun k => (mark_Fix.f k ss[i].f0 ss[i].f1).bind fun b => mark_Cat.l1 k ((acc.map fun c => (c.1.toNat : Int)) ++ bytesOf ss[i].f0) ss (ss.length : Int) (i : Int) b.2 (b.2.length : Int) 0 t0 (rle (acc.map (·.2)))) ?_ (fun k => ?_)
    · refine Ev.bind (Fix_spec _ _ (by omega) (hq _ (List.getElem_mem hlt))) ?_
      have e2 : (acc.map fun c => (c.1.toNat : Int)) ++ bytesOf ss[i].f0 = (acc ++ ls ss[i]).map fun c => (c.1.toNat : Int) := by
        rw [List.map_append, bytesOf_list, ← La_fst ss[i].f0 ss[i].f1, List.map_map]
        rfl
      rw [e2]
      exact h3
    · simp only [mark_Cat.l0]
      rw [if_pos (by omega), if_pos (by omega), if_pos (by omega), rdT24 hlt, if_pos (by rw [List.length_map]; omega)]
theorem Cat_spec (ss : List S24) (hs : ss.length ≤ 2199023255552) (hq : ∀ s ∈ ss, s.f1.length ≤ 1099511627776) (hb : (ss.flatMap ls).length ≤ 1099511627776) : Ev (fun k => mark_Cat.f k ss) (canon (ss.flatMap ls)) := by
  have h := Cat_loop ss hs hq ⟨#[]⟩ ss.length 0 [] (by omega) (by simpa using hb)
  simpa [mark_Cat.f, rle] using h

/-! ### Cut -/
theorem take_drop_rep (f t : Nat) (p : List Int) (m : Nat) (o : Int) : ((p ++ List.replicate m o).take t).drop f = (p.take t).drop f ++ List.replicate (min (p.length + m) t - max p.length f) o := by
  rw [List.take_append, List.drop_append, List.take_replicate, List.drop_replicate, List.length_take]
  congr 2
  omega
theorem Cut_loop (fr : List S56) (hf : Full fr) (hl : (dec fr).length ≤ 1099511627776) (f t : Nat) (ht : t ≤ (dec fr).length) (hft : f ≤ t) (tx : ByteArray) : ∀ (d j : Nat), j + d = fr.length →
    Ev (fun k => mark_Cut.l0 k (f : Int) (t : Int) ((dec (fr.take j)).length : Int) fr (fr.length : Int) (j : Int) tx (rle (((dec (fr.take j)).take t).drop f))) (tx, rle (((dec fr).take t).drop f)) := by
  intro d
  have hfl := dec_length hf
  induction d with
  | zero =>
    intro j hj
    refine Ev.step1 (Ev.now _) (fun k => ?_)
    simp only [mark_Cut.l0]
    rw [if_neg (by omega), show fr.take j = fr from List.take_of_length_le (by omega)]
  | succ d ih =>
    intro j hj
    have hlt : j < fr.length := by omega
    have e : dec (fr.take (j + 1)) = dec (fr.take j) ++ List.replicate fr[j].f0.toNat fr[j].f1 := by rw [List.take_succ_eq_append_getElem hlt, dec_snoc]
    have hp := hf fr[j] (List.getElem_mem hlt)
    have hle : (dec (fr.take (j + 1))).length ≤ (dec fr).length := by
      have : dec fr = dec (fr.take (j + 1)) ++ dec (fr.drop (j + 1)) := by
        rw [← dec_append, List.take_append_drop]
      rw [this, List.length_append]
      omega
    have h2 := ih (j + 1) (by omega)
    rw [e, take_drop_rep, List.length_append, List.length_replicate] at h2
    rw [e, List.length_append, List.length_replicate] at hle
    have hdl : (((dec (fr.take j)).take t).drop f).length ≤ (dec (fr.take j)).length := by rw [List.length_drop, List.length_take]; omega
    refine Ev.step1 h2 (fun k => ?_)
    simp only [mark_Cut.l0]
    rw [if_pos (by omega), if_pos (by omega), if_pos (by omega), rdT56 hlt, mn_eq, mx_eq, w64 (x := ((dec (fr.take j)).length : Int) + fr[j].f0) (by omega) (by omega), w64 (x := min _ _ - max _ _) (by omega) (by omega), put_rle _ _ _ (by omega) (by omega), Option.bind_some, w64 (by omega) (by omega)]
    rw [show (((dec (fr.take j)).length + fr[j].f0.toNat : Nat) : Int) = ((dec (fr.take j)).length : Int) + fr[j].f0 from by omega,
      show (min (((dec (fr.take j)).length : Int) + fr[j].f0) (t : Int) - max ((dec (fr.take j)).length : Int) (f : Int)).toNat = min ((dec (fr.take j)).length + fr[j].f0.toNat) t - max (dec (fr.take j)).length f from by omega]
    rfl
/-- Some of it. -/
def cutL (l : List Lc) (a b : Int) : List Lc := (l.take (min (max b 0) (l.length : Int)).toNat).drop (min (max a 0) (l.length : Int)).toNat
theorem cutL_nat (l : List Lc) (a b : Nat) (hb : b ≤ l.length) (ha : a ≤ l.length) : cutL l (a : Int) (b : Int) = (l.take b).drop a := by
  unfold cutL
  congr 2 <;> omega
theorem extract_list (s : ByteArray) (a b : Nat) : (s.extract a b).data.toList = (s.data.toList.take b).drop a := by
  simp [ByteArray.data_extract, List.drop_take]
theorem Cut_spec (t : ByteArray) (rs : List S56) (a b : Int) (ht : t.size ≤ 1099511627776) (hr : rs.length ≤ 1099511627776) : Ev (fun k => mark_Cut.f k t rs a b) (canon (cutL (La t rs) a b)) := by
  have hlen := La_length t rs
  by_cases hab : min (max b 0) (t.size : Int) ≤ min (max a 0) (t.size : Int)
  · refine Ev.all (fun k => ?_)
    unfold mark_Cut.f
    rw [mn_eq, mx_eq, mn_eq, mx_eq, if_pos hab]
    congr 1
    have : cutL (La t rs) a b = [] := by
      unfold cutL
      rw [hlen]
      apply List.drop_eq_nil_of_le
      rw [List.length_take]
      omega
    rw [this]
    rfl
  · have e : ∀ k, mark_Cut.f k t rs a b = (mark_Fix.f k t rs).bind fun bt153 => (mark_Cut.l0 k ((min (max a 0) (t.size : Int)).toNat : Int) ((min (max b 0) (t.size : Int)).toNat : Int) 0 bt153.2 (bt153.2.length : Int) 0 (t.extract (min (max a 0) (t.size : Int)).toNat (min (max b 0) (t.size : Int)).toNat) ([] : List (S56))) := by
      intro k
      unfold mark_Cut.f
      rw [mn_eq, mx_eq, mn_eq, mx_eq, if_neg hab, if_pos (by omega), if_pos (by omega), if_pos (by omega), show ((min (max a 0) (t.size : Int)).toNat : Int) = min (max a 0) (t.size : Int) from by omega, show ((min (max b 0) (t.size : Int)).toNat : Int) = min (max b 0) (t.size : Int) from by omega]
    refine Ev.eq (Ev.bind (Fix_spec t rs ht hr) ?_) e
    have hd : dec (canon (La t rs)).2 = labO t.size rs := by rw [canon_La]; exact dec_rle _
    have hdl : (dec (canon (La t rs)).2).length = t.size := by rw [hd, labO_length]
    have h := Cut_loop (canon (La t rs)).2 (rle_full _) (by omega) (min (max a 0) (t.size : Int)).toNat (min (max b 0) (t.size : Int)).toNat (by omega) (by omega) (t.extract (min (max a 0) (t.size : Int)).toNat (min (max b 0) (t.size : Int)).toNat) (canon (La t rs)).2.length 0 (by omega)
    rw [hd] at h
    have e2 : canon (cutL (La t rs) a b) = (t.extract (min (max a 0) (t.size : Int)).toNat (min (max b 0) (t.size : Int)).toNat, rle (((labO t.size rs).take (min (max b 0) (t.size : Int)).toNat).drop (min (max a 0) (t.size : Int)).toNat)) := by
      unfold cutL canon
      rw [hlen, List.map_drop, List.map_take, List.map_drop, List.map_take, La_fst, La_snd]
      congr 1
      rw [← bytesA_list (t.extract _ _), extract_list]
    rw [e2]
    simpa [dec, rle] using h

/-! ### At -/
end Go.Proofs.YtljmmhihdcnbaaaDoor.G
/- Labelled texts: cut, laid end to end, byte by byte: what all the laws' pure texts share. -/
namespace Go.Proofs.YtljmmhihdcnbaaaDoor.G
open Go.RowKit Go.Proofs.YtljmmhihdcnbaaaDoorW.PrintWords Go.Proofs.YtljmmhihdcnbaaaDoorW.PrintLast Go.Proofs.YtljmmhihdcnbaaaDoorW.PrintMore
set_option linter.unusedVariables false
set_option linter.unusedSimpArgs false
theorem bt_nat {t : ByteArray} {i : Nat} (h : i < t.data.toList.length) : bt t (i : Int) = (t.data.toList[i].toNat : Int) := by
  have h' : i < t.size := by simpa using h
  unfold bt
  rw [dif_pos (by simpa using h')]
  rfl
def mkS (l : List Lc) : S24 := ⟨(canon l).1, (canon l).2⟩
theorem ls_mkS {l : List Lc} (h : Okl l) : ls (mkS l) = l := La_canon h
theorem flat_mkS {Xs : List (List Lc)} (h : ∀ X ∈ Xs, Okl X) : (Xs.map mkS).flatMap ls = Xs.flatten := by
  induction Xs with
  | nil => rfl
  | cons X Xs ih => rw [List.map_cons, List.flatMap_cons, ls_mkS (h X (by simp)), ih (fun Y hY => h Y (by simp [hY])), List.flatten_cons]
theorem mem_flatten_length {Xs : List (List Lc)} {X : List Lc} (h : X ∈ Xs) : X.length ≤ Xs.flatten.length := by
  induction Xs with
  | nil => cases h
  | cons Y Xs ih =>
    rw [List.flatten_cons, List.length_append]
    rcases List.mem_cons.1 h with rfl | h
    · omega
    · have := ih h; omega
theorem Cat_mk (Xs : List (List Lc)) (h : ∀ X ∈ Xs, Okl X) (hn : Xs.length ≤ 2199023255552) (hb : Xs.flatten.length ≤ 1099511627776) : Ev (fun k => mark_Cat.f k (Xs.map mkS)) (canon Xs.flatten) := by
  have e := flat_mkS h
  have := Cat_spec (Xs.map mkS) (by rw [List.length_map]; exact hn) (fun s hs => by
    obtain ⟨X, hX, rfl⟩ := List.mem_map.1 hs
    have h1 := canon_runs X
    have h2 := mem_flatten_length hX
    show (canon X).2.length ≤ _
    omega) (by rw [e]; exact hb)
  rw [e] at this
  exact this
theorem La_get {t : ByteArray} {rs : List S56} {i : Nat} (h : i < (La t rs).length) : bt t (i : Int) = ((La t rs)[i].1.toNat : Int) := by
  have hl : i < t.data.toList.length := by rw [size_list, ← La_length t rs]; exact h
  rw [bt_nat hl]
  have : (La t rs)[i].1 = t.data.toList[i] := by
    simp [La]
  rw [this]
theorem Okl.sub {a b : List Lc} (ha : Okl a) (h : ∀ c ∈ b, c ∈ a) : Okl b := fun c hc => ha c (h c hc)
theorem Okl.one {c : Lc} (h : 0 ≤ c.2 ∧ c.2 ≤ 65536) : Okl [c] := fun x hx => by rw [List.mem_singleton] at hx; subst hx; exact h
theorem Okl.nil : Okl [] := fun _ h => by cases h
theorem labO_canon {l : List Lc} (h : Okl l) : labO (canon l).1.size (canon l).2 = l.map (·.2) := by
  rw [← La_snd, La_canon h]
theorem Worst_canon {l : List Lc} (h : Okl l) (hl : l.length ≤ 1099511627776) : Ev (fun k => mark_Worst.f k (canon l).1 (canon l).2) (worst (l.map (·.2))) := by
  have hc := canon_runs l
  have := Worst_spec (canon l).1 (canon l).2 (by rw [canon_size]; exact hl) (by omega)
  rwa [labO_canon h] at this
theorem of_one (b : UInt8) (o : Int) (h : 0 ≤ o ∧ o ≤ 65536) : mark_Of.f ⟨#[b]⟩ o = some (canon [(b, o)]) := by
  rw [Of_spec ⟨#[b]⟩ o (by show 1 ≤ 1099511627776; decide)]
  unfold allO
  simp only [List.map_cons, List.map_nil, nr_of h.1 h.2]
theorem u8_eq {b : UInt8} {n : Nat} (hn : n < 256) : ((b.toNat : Int) = (n : Int)) ↔ b = UInt8.ofNat n := by
  constructor
  · intro h
    have h' : b.toNat = n := by omega
    rw [← h']
    simp
  · rintro rfl
    simp [Nat.mod_eq_of_lt hn]
/-! ### bytes -/
theorem byte_all (p : UInt8 → Bool) (h : (List.range 256).all (fun n => p (UInt8.ofNat n)) = true) (c : UInt8) : p c = true := by
  have := List.all_eq_true.1 h c.toNat (List.mem_range.2 c.toNat_lt)
  simpa using this
def inB (bs : ByteArray) (b : UInt8) : Bool := bs.data.toList.contains b
theorem indexByte_in (l : List UInt8) (c : UInt8) : decide (Go.Lib.indexByte l c ≥ 0) = l.contains c := by
  induction l with
  | nil => rfl
  | cons b l ih =>
    have hge := Go.Lib.indexByte_ge l c
    rw [List.contains_cons]
    unfold Go.Lib.indexByte
    by_cases e : b = c
    · subst e; simp
    · have e1 : (b == c) = false := beq_eq_false_iff_ne.2 e
      have e2 : (c == b) = false := beq_eq_false_iff_ne.2 (Ne.symm e)
      rw [e1, e2, Bool.false_or, ← ih]
      simp only [Bool.false_eq_true, if_false]
      by_cases h : Go.Lib.indexByte l c = -1
      · rw [h]; rfl
      · rw [if_neg (by simpa using h)]
        congr 1
        apply propext
        omega
theorem take_snoc' {α : Type} {l : List α} {i : Nat} (h : i < l.length) : l.take (i + 1) = l.take i ++ [l[i]] := List.take_succ_eq_append_getElem h
end Go.Proofs.YtljmmhihdcnbaaaDoor.G
/- Labelled texts made lower, trimmed; where a byte stands first. -/
namespace Go.Proofs.YtljmmhihdcnbaaaDoor.G
open Go.RowKit Go.Proofs.YtljmmhihdcnbaaaDoorW.PrintWords Go.Proofs.YtljmmhihdcnbaaaDoorW.PrintLast Go.Proofs.YtljmmhihdcnbaaaDoorW.PrintMore
set_option linter.unusedVariables false
set_option linter.unusedSimpArgs false
theorem In_loop (bs : ByteArray) (hb : bs.size ≤ 1099511627776) (c : UInt8) : ∀ (d i : Nat), i + d = bs.size → Ev (fun k => glazierref01_In.l0 k (c.toNat : Int) bs (i : Int)) ((bs.data.toList.drop i).contains c) := by
  intro d
  induction d with
  | zero =>
    intro i hi
    refine Ev.step1 (Ev.now _) (fun k => ?_)
    simp only [glazierref01_In.l0]
    rw [if_neg (by omega), List.drop_eq_nil_of_le (by rw [size_list]; omega)]
    rfl
  | succ d ih =>
    intro i hi
    have hlt : i < bs.data.toList.length := by rw [size_list]; omega
    rw [List.drop_eq_getElem_cons hlt, List.contains_cons]
    by_cases e : c = bs.data.toList[i]
    · have e1 : (c == bs.data.toList[i]) = true := beq_iff_eq.2 e
      rw [e1, Bool.true_or]
      refine Ev.step1 (Ev.now _) (fun k => ?_)
      simp only [glazierref01_In.l0]
      rw [if_pos (by omega), if_pos (by omega), bt_nat hlt, if_pos (by rw [← e])]
    · have e1 : (c == bs.data.toList[i]) = false := beq_eq_false_iff_ne.2 e
      rw [e1, Bool.false_or]
      refine Ev.step1 (ih (i + 1) (by omega)) (fun k => ?_)
      simp only [glazierref01_In.l0]
      rw [if_pos (by omega), if_pos (by omega), bt_nat hlt, if_neg (fun h => e (UInt8.toNat_inj.1 (by omega))), w64 (by omega) (by omega)]
      rfl
theorem In_spec (bs : ByteArray) (hb : bs.size ≤ 1099511627776) (c : UInt8) : Ev (fun k => glazierref01_In.f k (c.toNat : Int) bs) (inB bs c) := by
  have := In_loop bs hb c bs.size 0 (by omega)
  rw [List.drop_zero] at this
  exact this
/-! ### Lower -/
def lowL (l : List Lc) : List Lc := l.map fun c => (lowB c.1, c.2)
theorem lowL_ok {l : List Lc} (h : Okl l) : Okl (lowL l) := by
  intro c hc
  obtain ⟨x, hx, rfl⟩ := List.mem_map.1 hc
  exact h x hx
theorem lowS_size (t : ByteArray) : (lowS t).size = t.size := by
  have e : lowS t = bytesA (t.data.toList.map lowB) := rfl
  rw [e, bytesA_size, List.length_map, size_list]
theorem La_lowS (t : ByteArray) (rs : List S56) : La (lowS t) rs = lowL (La t rs) := by
  unfold La lowL
  rw [lowS_size]
  have : (lowS t).data.toList = t.data.toList.map lowB := by simp [lowS]
  rw [this, List.zip_map_left]
  rfl
theorem Lower_spec (t : ByteArray) (rs : List S56) (ht : t.size ≤ 1099511627776) (hr : rs.length ≤ 1099511627776) : Ev (fun k => fold_Lower.f k t rs) (canon (lowL (La t rs))) := by
  have h := Fix_spec (lowS t) rs (by rw [lowS_size]; exact ht) hr
  rw [La_lowS] at h
  refine Ev.eq h (fun k => ?_)
  unfold fold_Lower.f
  rw [if_pos (by omega)]
/-! ### Trim -/
def trimL (p : UInt8 → Bool) (l : List Lc) : List Lc := (((l.dropWhile fun c => p c.1).reverse).dropWhile fun c => p c.1).reverse
theorem dropWhile_drop {α : Type} (p : α → Bool) (l : List α) : l.dropWhile p = l.drop (l.takeWhile p).length := by
  induction l with
  | nil => rfl
  | cons a l ih =>
    rw [List.dropWhile_cons, List.takeWhile_cons]
    split
    · simp [ih]
    · simp
theorem takeWhile_app {α : Type} (p : α → Bool) (a b : List α) (h : ∃ x ∈ a, p x = false) : (a ++ b).takeWhile p = a.takeWhile p := by
  induction a with
  | nil => obtain ⟨x, hx, _⟩ := h; cases hx
  | cons y a ih =>
    rw [List.cons_append, List.takeWhile_cons, List.takeWhile_cons]
    split
    · rename_i hy
      obtain ⟨x, hx, hp⟩ := h
      rcases List.mem_cons.1 hx with rfl | hx
      · rw [hp] at hy; cases hy
      · rw [ih ⟨x, hx, hp⟩]
    · rfl
theorem all_takeWhile {α : Type} (p : α → Bool) : ∀ (l : List α) (x : α), x ∈ l.takeWhile p → p x = true
  | [], x, h => by cases h
  | a :: l, x, h => by
    rw [List.takeWhile_cons] at h
    split at h
    · rename_i ha
      rcases List.mem_cons.1 h with rfl | h
      · exact ha
      · exact all_takeWhile p l x h
    · cases h
theorem trim_cut {α : Type} (p : α → Bool) (l : List α) : (l.take (max (l.takeWhile p).length (l.length - (l.reverse.takeWhile p).length))).drop (l.takeWhile p).length = (((l.dropWhile p).reverse).dropWhile p).reverse := by
  have hle := (List.takeWhile_prefix p (l := l)).length_le
  by_cases hall : (l.takeWhile p).length = l.length
  · have e : l.dropWhile p = [] := by rw [dropWhile_drop, hall]; simp
    rw [e, List.drop_eq_nil_of_le (by rw [List.length_take]; omega)]
    rfl
  · have hlt : (l.takeWhile p).length < l.length := by omega
    have hd : l.dropWhile p = l.drop (l.takeWhile p).length := dropWhile_drop p l
    have hx : ∃ x ∈ (l.dropWhile p).reverse, p x = false := by
      have hne : l.dropWhile p ≠ [] := by
        intro h
        have := congrArg List.length (hd.symm.trans h)
        rw [List.length_drop, List.length_nil] at this
        omega
      refine ⟨(l.dropWhile p).head hne, List.mem_reverse.2 (List.head_mem hne), ?_⟩
      have h3 := List.head_dropWhile_not p hne
      simpa using h3
    have hr : l.reverse.takeWhile p = (l.dropWhile p).reverse.takeWhile p := by
      have e : l.reverse = (l.dropWhile p).reverse ++ (l.takeWhile p).reverse := by rw [← List.reverse_append, List.takeWhile_append_dropWhile]
      rw [e, takeWhile_app p _ _ hx]
    have hm := (List.takeWhile_prefix p (l := (l.dropWhile p).reverse)).length_le
    have hm2 : ((l.dropWhile p).reverse.takeWhile p).length < (l.dropWhile p).length := by
      rcases Nat.lt_or_ge ((l.dropWhile p).reverse.takeWhile p).length (l.dropWhile p).length with h | h
      · exact h
      · obtain ⟨x, hx, hp⟩ := hx
        have e := List.IsPrefix.eq_of_length_le (List.takeWhile_prefix p (l := (l.dropWhile p).reverse)) (by rw [List.length_reverse]; exact h)
        have := all_takeWhile p _ x (by rw [e]; exact hx : x ∈ (l.dropWhile p).reverse.takeWhile p)
        rw [hp] at this
        cases this
    rw [hr, dropWhile_drop p (l.dropWhile p).reverse]
    have hdl : (l.dropWhile p).length = l.length - (l.takeWhile p).length := by rw [hd, List.length_drop]
    rw [Nat.max_eq_right (by omega), List.drop_take, ← hd, List.reverse_drop, List.length_reverse, List.reverse_reverse]
    congr 1
    omega
theorem takeWhile_map {α β : Type} (f : α → β) (p : β → Bool) (l : List α) : (l.map f).takeWhile p = (l.takeWhile (fun x => p (f x))).map f := by
  induction l with
  | nil => rfl
  | cons a l ih => rw [List.map_cons, List.takeWhile_cons, List.takeWhile_cons]; split <;> simp [*]
theorem trim_of_cut (p : UInt8 → Bool) (t : ByteArray) (rs : List S56) : cutL (La t rs) (inFrom p t : Int) (inTo p t : Int) = trimL p (La t rs) := by
  have hlen := La_length t rs
  have h1 : inFrom p t = ((La t rs).takeWhile fun c => p c.1).length := by
    unfold inFrom
    rw [← La_fst t rs, takeWhile_map, List.length_map]
  have h2 : inTo p t = max ((La t rs).takeWhile fun c => p c.1).length ((La t rs).length - ((La t rs).reverse.takeWhile fun c => p c.1).length) := by
    unfold inTo
    rw [h1, hlen, ← La_fst t rs, ← List.map_reverse, takeWhile_map, List.length_map]
  rw [cutL_nat _ _ _ (by rw [hlen]; exact inTo_le p t) (by rw [hlen]; exact inFrom_le p t), h1, h2, trim_cut]
  rfl
theorem mem_trimL {p : UInt8 → Bool} {l : List Lc} {c : Lc} (h : c ∈ trimL p l) : c ∈ l := by
  unfold trimL at h
  have h1 := List.mem_reverse.1 h
  have h2 := List.mem_reverse.1 ((List.dropWhile_suffix _).mem h1)
  exact (List.dropWhile_suffix _).mem h2
theorem trimL_ok {p : UInt8 → Bool} {l : List Lc} (h : Okl l) : Okl (trimL p l) := h.sub fun _ hc => mem_trimL hc
theorem trimL_length (p : UInt8 → Bool) (l : List Lc) : (trimL p l).length ≤ l.length := by
  unfold trimL
  rw [List.length_reverse]
  have h1 := (List.dropWhile_suffix (fun c : Lc => p c.1) (l := (l.dropWhile fun c => p c.1).reverse)).length_le
  have h2 := (List.dropWhile_suffix (fun c : Lc => p c.1) (l := l)).length_le
  rw [List.length_reverse] at h1
  omega
def ws : ByteArray := ⟨#[9, 10, 12, 13, 32]⟩
theorem trimP_ws : trimP = inB ws := by
  funext c
  have := indexByte_in ws.data.toList c
  exact this
theorem Trim_spec (t : ByteArray) (rs : List S56) (ht : t.size ≤ 1099511627776) (hr : rs.length ≤ 1099511627776) : Ev (fun k => fold_Trim.f k t rs) (canon (trimL (inB ws) (La t rs))) := by
  have h := Cut_spec t rs (inFrom trimP t : Int) (inTo trimP t : Int) ht hr
  rw [trim_of_cut, trimP_ws] at h
  refine Ev.eq h (fun k => ?_)
  unfold fold_Trim.f
  rw [if_pos (by omega), trimP_ws]
theorem Lower_canon {l : List Lc} (h : Okl l) (hl : l.length ≤ 1099511627776) : Ev (fun k => fold_Lower.f k (canon l).1 (canon l).2) (canon (lowL l)) := by
  have hc := canon_runs l
  have := Lower_spec (canon l).1 (canon l).2 (by rw [canon_size]; exact hl) (by omega)
  rwa [La_canon h] at this
theorem Cut_canon {l : List Lc} (h : Okl l) (hl : l.length ≤ 1099511627776) (a b : Int) : Ev (fun k => mark_Cut.f k (canon l).1 (canon l).2 a b) (canon (cutL l a b)) := by
  have hc := canon_runs l
  have := Cut_spec (canon l).1 (canon l).2 a b (by rw [canon_size]; exact hl) (by omega)
  rwa [La_canon h] at this
/-- The first place of a byte; all: there is none. -/
def atL (c : UInt8) (R : List Lc) : Nat := R.findIdx fun x => x.1 == c
theorem atL_le (c : UInt8) (R : List Lc) : atL c R ≤ R.length := List.findIdx_le_length
theorem indexByte_at (c : UInt8) : ∀ R : List Lc, Go.Lib.indexByte (R.map (·.1)) c = if atL c R < R.length then (atL c R : Int) else -1
  | [] => rfl
  | x :: R => by
    have ih := indexByte_at c R
    have hle := atL_le c R
    unfold atL at ih hle ⊢
    rw [List.map_cons, List.findIdx_cons]
    unfold Go.Lib.indexByte
    by_cases h : x.1 = c
    · have h1 : (x.1 == c) = true := beq_iff_eq.2 h
      rw [h1]
      simp
    · have h1 : (x.1 == c) = false := beq_eq_false_iff_ne.2 h
      rw [h1, ih]
      simp only [Bool.false_eq_true, if_false, cond_false, List.length_cons]
      by_cases h2 : R.findIdx (fun x => x.1 == c) < R.length
      · have h3 : (((R.findIdx (fun x => x.1 == c) : Nat) : Int) == -1) = false := beq_eq_false_iff_ne.2 (by omega)
        rw [if_pos h2, h3, if_neg (by simp), if_pos (by omega)]
        omega
      · rw [if_neg h2, if_pos (show ((-1 : Int) == -1) = true from rfl), if_neg (by omega)]
def aheadL (c : UInt8) (R : List Lc) : List Lc := R.take (atL c R)
def behindL (c : UInt8) (R : List Lc) : List Lc := if atL c R < R.length then R.drop (atL c R + 1) else []
theorem aheadL_ok {c : UInt8} {R : List Lc} (h : Okl R) : Okl (aheadL c R) := h.sub fun _ hc => List.mem_of_mem_take hc
theorem behindL_ok {c : UInt8} {R : List Lc} (h : Okl R) : Okl (behindL c R) := by
  unfold behindL
  split
  · exact h.sub fun _ hc => List.mem_of_mem_drop hc
  · exact Okl.nil
theorem aheadL_length (c : UInt8) (R : List Lc) : (aheadL c R).length = atL c R := by
  have := atL_le c R
  unfold aheadL
  rw [List.length_take]
  omega
theorem behindL_length (c : UInt8) (R : List Lc) : (behindL c R).length ≤ R.length := by
  unfold behindL
  split
  · rw [List.length_drop]; omega
  · simp
end Go.Proofs.YtljmmhihdcnbaaaDoor.G
/- Labelled texts cut at bytes, their fields and words, and joined. -/
namespace Go.Proofs.YtljmmhihdcnbaaaDoor.G
open Go.RowKit Go.Proofs.YtljmmhihdcnbaaaDoorW.PrintWords Go.Proofs.YtljmmhihdcnbaaaDoorW.PrintLast Go.Proofs.YtljmmhihdcnbaaaDoorW.PrintMore
set_option linter.unusedVariables false
set_option linter.unusedSimpArgs false
section
variable {α : Type}
/-- The parts between what p takes; cur: the part begun. -/
def cutsA (p : α → Bool) : List α → List α → List (List α)
  | cur, [] => [cur]
  | cur, c :: l => if p c = true then cur :: cutsA p [] l else cutsA p (cur ++ [c]) l
theorem cutsA_mem (p : α → Bool) : ∀ (l cur : List α), (∀ c ∈ cur, p c = false) → ∀ x ∈ cutsA p cur l, ∀ c ∈ x, p c = false ∧ (c ∈ cur ∨ c ∈ l)
  | [], cur, h, x, hx, c, hc => by
    rw [cutsA, List.mem_singleton] at hx
    subst hx
    exact ⟨h c hc, .inl hc⟩
  | d :: l, cur, h, x, hx, c, hc => by
    rw [cutsA] at hx
    split at hx
    · rcases List.mem_cons.1 hx with rfl | hx
      · exact ⟨h c hc, .inl hc⟩
      · obtain ⟨h1, h2⟩ := cutsA_mem p l [] (fun _ h => by cases h) x hx c hc
        exact ⟨h1, by rcases h2 with h2 | h2; · cases h2
                      · exact .inr (by simp [h2])⟩
    · rename_i hd
      obtain ⟨h1, h2⟩ := cutsA_mem p l (cur ++ [d]) (fun y hy => by
        rcases List.mem_append.1 hy with hy | hy
        · exact h y hy
        · rw [List.mem_singleton] at hy; subst hy; simpa using hd) x hx c hc
      refine ⟨h1, ?_⟩
      rcases h2 with h2 | h2
      · rcases List.mem_append.1 h2 with h2 | h2
        · exact .inl h2
        · rw [List.mem_singleton] at h2; subst h2; exact .inr (by simp)
      · exact .inr (by simp [h2])
theorem cutsA_length (p : α → Bool) : ∀ (l cur : List α), (cutsA p cur l).length = l.countP p + 1
  | [], cur => by simp [cutsA]
  | c :: l, cur => by
    rw [cutsA, List.countP_cons]
    split
    · rw [List.length_cons, cutsA_length p l]
    · rw [cutsA_length p l]
/-- Laid end to end, with something between. -/
def joinA (b : List α) : List (List α) → List α
  | [] => []
  | [x] => x
  | x :: y :: l => x ++ b ++ joinA b (y :: l)
theorem joinA_cons (b x : List α) (l : List (List α)) (h : l ≠ []) : joinA b (x :: l) = x ++ b ++ joinA b l := by
  cases l with
  | nil => exact absurd rfl h
  | cons y l => rfl
/-- The total length of the parts. -/
theorem cutsA_total (p : α → Bool) : ∀ (l cur : List α), ((cutsA p cur l).map List.length).sum ≤ cur.length + l.length
  | [], cur => by simp [cutsA]
  | c :: l, cur => by
    rw [cutsA]
    split
    · have := cutsA_total p l []
      rw [List.map_cons, List.sum_cons, List.length_cons]
      simp at this
      omega
    · have := cutsA_total p l (cur ++ [c])
      rw [List.length_append] at this
      simp at this ⊢
      omega
/-- The first place of what p takes. -/
theorem cutsA_flat (p : α → Bool) : ∀ (l cur : List α), (cutsA p cur l).flatten.length ≤ cur.length + l.length := by
  intro l cur
  rw [List.length_flatten]
  exact cutsA_total p l cur
end
/-- The bytes alone. -/
def bsL (l : List Lc) : List UInt8 := l.map (·.1)
section
variable (f : List Lc → List UInt8)
end
/-! ### what the packages compute -/
theorem mkS_snoc (Xs : List (List Lc)) (X : List Lc) : (Xs ++ [X]).map mkS = Xs.map mkS ++ [(⟨(canon X).1, (canon X).2⟩ : S24)] := by rw [List.map_append]; rfl
def qB (bs : ByteArray) (c : Lc) : Bool := inB bs c.1
theorem cuts_loop (t : ByteArray) (rs : List S56) (bs : ByteArray) (ht : t.size ≤ 1099511627776) (hr : rs.length ≤ 1099511627776) : ∀ (d i fr : Nat) (Xs : List (List Lc)), i + d = (La t rs).length → fr ≤ i → Xs.length ≤ i →
    Ev (fun k => seek_cuts.l0 k bs (Xs.map mkS) (fr : Int) (t.size : Int) (i : Int) t rs) ((Xs ++ cutsA (qB bs) (((La t rs).take i).drop fr) ((La t rs).drop i)).map mkS) := by
  intro d
  have hn := La_length t rs
  induction d with
  | zero =>
    intro i fr Xs hi hf hXl
    have e1 : (La t rs).take i = La t rs := List.take_of_length_le (by omega)
    rw [List.drop_eq_nil_of_le (show (La t rs).length ≤ i by omega), e1, cutsA, mkS_snoc]
    have hc : cutL (La t rs) (fr : Int) (t.size : Int) = (La t rs).drop fr := by
      rw [← hn, cutL_nat _ _ _ (Nat.le_refl _) (by omega), List.take_of_length_le (Nat.le_refl _)]
    refine Ev.step1 (f := fun k => (mark_Cut.f k t rs (fr : Int) (t.size : Int)).bind fun b => (if (Xs.map mkS).length < 3518437208883 then some (Xs.map mkS ++ [(⟨b.1, b.2⟩ : S24)]) else none)) ?_ (fun k => by
      simp only [seek_cuts.l0]
      rw [if_neg (by omega)])
    refine Ev.bind (Cut_spec t rs _ _ ht hr) ?_
    simp only [if_pos (show (Xs.map mkS).length < 3518437208883 from by rw [List.length_map]; omega)]
    rw [hc]
    exact Ev.now _
  | succ d ih =>
    intro i fr Xs hi hf hXl
    have hlt : i < (La t rs).length := by omega
    have hb := La_get hlt
    have e3 : ((La t rs)[i].1.toNat : Int).toNat.toUInt8 = (La t rs)[i].1 := by simp
    have hidx := indexByte_in bs.data.toList (La t rs)[i].1
    rw [List.drop_eq_getElem_cons hlt, cutsA]
    cases hin : inB bs (La t rs)[i].1 with
    | true =>
      have hge : Go.Lib.indexByte bs.data.toList (La t rs)[i].1 ≥ 0 := of_decide_eq_true (hidx.trans hin)
      have hc : cutL (La t rs) (fr : Int) (i : Int) = ((La t rs).take i).drop fr := cutL_nat _ _ _ (by omega) (by omega)
      have h2 := ih (i + 1) (i + 1) (Xs ++ [((La t rs).take i).drop fr]) (by omega) (by omega) (by simp; omega)
      rw [List.drop_eq_nil_of_le (show ((La t rs).take (i + 1)).length ≤ i + 1 by rw [List.length_take]; omega), List.append_assoc, List.singleton_append, mkS_snoc] at h2
      rw [if_pos (show qB bs (La t rs)[i] = true from hin)]
      refine Ev.step1 (f := fun k => (mark_Cut.f k t rs (fr : Int) (i : Int)).bind fun b => (if (Xs.map mkS).length < 3518437208883 then seek_cuts.l0 k bs (Xs.map mkS ++ [(⟨b.1, b.2⟩ : S24)]) ((i : Int) + 1) (t.size : Int) ((i : Int) + 1) t rs else none)) ?_ (fun k => by
        simp only [seek_cuts.l0]
        rw [if_pos (by omega), if_pos (by omega), if_pos (by omega), hb]
        unfold strings_IndexByte.f
        rw [e3, Option.bind_some, if_pos hge, w64 (by omega) (by omega)])
      refine Ev.bind (Cut_spec t rs _ _ ht hr) ?_
      simp only [if_pos (show (Xs.map mkS).length < 3518437208883 from by rw [List.length_map]; omega), hc]
      exact h2
    | false =>
      have hge : ¬ Go.Lib.indexByte bs.data.toList (La t rs)[i].1 ≥ 0 := of_decide_eq_false (hidx.trans hin)
      have h2 := ih (i + 1) fr Xs (by omega) (by omega) (by omega)
      rw [take_snoc' hlt, List.drop_append, List.length_take, show fr - min i (La t rs).length = 0 from by omega, List.drop_zero] at h2
      rw [if_neg (show ¬ qB bs (La t rs)[i] = true from by rw [show qB bs (La t rs)[i] = false from hin]; simp)]
      refine Ev.step1 h2 (fun k => ?_)
      simp only [seek_cuts.l0]
      rw [if_pos (by omega), if_pos (by omega), if_pos (by omega), hb]
      unfold strings_IndexByte.f
      rw [e3, Option.bind_some, if_neg hge, w64 (by omega) (by omega)]
      rfl
theorem cuts_spec (t : ByteArray) (rs : List S56) (bs : ByteArray) (ht : t.size ≤ 1099511627776) (hr : rs.length ≤ 1099511627776) : Ev (fun k => seek_cuts.f k t rs bs) ((cutsA (qB bs) [] (La t rs)).map mkS) := by
  have h := cuts_loop t rs bs ht hr (La t rs).length 0 0 [] (by omega) (by omega) (by simp)
  rw [List.take_zero, List.drop_nil, List.drop_zero, List.nil_append] at h
  exact h
theorem cutsA_ok {bs : ByteArray} {l : List Lc} (h : Okl l) : ∀ X ∈ cutsA (qB bs) [] l, Okl X := fun X hX => h.sub fun c hc => by
  rcases (cutsA_mem (qB bs) l [] (fun _ h => by cases h) X hX c hc).2 with h | h
  · cases h
  · exact h
theorem cutsA_len {p : Lc → Bool} {l X : List Lc} (hX : X ∈ cutsA p [] l) : X.length ≤ l.length := by
  have h1 := mem_flatten_length hX
  have h2 : (cutsA p [] l).flatten.length ≤ 0 + l.length := cutsA_flat p l []
  omega
/-! ### joined -/
/-- The pieces from the i-th on, each but the very first behind a separator. -/
def jnL (b : List Lc) : Nat → List (List Lc) → List (List Lc)
  | _, [] => []
  | i, x :: l => (if 0 < i then [b, x] else [x]) ++ jnL b (i + 1) l
theorem jnL_length (b : List Lc) : ∀ (l : List (List Lc)) (i : Nat), (jnL b i l).length ≤ 2 * l.length
  | [], i => by simp [jnL]
  | x :: l, i => by
    have := jnL_length b l (i + 1)
    rw [jnL, List.length_append, List.length_cons]
    split <;> simp <;> omega
theorem jnL_mem (b : List Lc) : ∀ (l : List (List Lc)) (i : Nat) (x : List Lc), x ∈ jnL b i l → x = b ∨ x ∈ l
  | [], i, x, h => by simp [jnL] at h
  | y :: l, i, x, h => by
    rw [jnL, List.mem_append] at h
    rcases h with h | h
    · split at h
      · simp only [List.mem_cons, List.not_mem_nil, or_false] at h
        rcases h with h | h
        · exact .inl h
        · exact .inr (by simp [h])
      · simp only [List.mem_cons, List.not_mem_nil, or_false] at h
        exact .inr (by simp [h])
    · rcases jnL_mem b l (i + 1) x h with h | h
      · exact .inl h
      · exact .inr (by simp [h])
theorem jnL_behind (b : List Lc) : ∀ (l : List (List Lc)) (i : Nat), 0 < i → (jnL b i l).flatten = (l.map fun x => b ++ x).flatten
  | [], i, h => by simp [jnL]
  | x :: l, i, h => by
    rw [jnL, if_pos h, List.flatten_append, jnL_behind b l (i + 1) (by omega)]
    simp
theorem joinA_behind (b : List Lc) : ∀ (l : List (List Lc)) (x : List Lc), joinA b (x :: l) = x ++ (l.map fun x => b ++ x).flatten
  | [], x => by simp [joinA]
  | y :: l, x => by
    rw [joinA, joinA_behind b l y]
    simp
theorem jnL_flat (b : List Lc) : ∀ (l : List (List Lc)), (jnL b 0 l).flatten = joinA b l
  | [] => rfl
  | x :: l => by
    rw [jnL, if_neg (by omega), List.flatten_append, jnL_behind b l 1 (by omega), joinA_behind]
    simp
theorem JoinA_loop (Cs : List (List Lc)) (b : List Lc) (r : ByteArray × List S56) (hn : Cs.length ≤ 1099511627777) : ∀ (d i : Nat) (acc : List (List Lc)), i + d = Cs.length → acc.length ≤ 2 * i → Ev (fun k => mark_Cat.f k ((acc ++ jnL b i (Cs.drop i)).map mkS)) r →
    Ev (fun k => seek_Join.l0 k (acc.map mkS) (Cs.map mkS) ((Cs.map mkS).length : Int) (i : Int) (canon b).1 (canon b).2) r := by
  intro d
  have hm : (Cs.map mkS).length = Cs.length := List.length_map _
  induction d with
  | zero =>
    intro i acc hi ha h
    rw [List.drop_eq_nil_of_le (by omega), jnL, List.append_nil] at h
    refine Ev.step1 (f := fun k => (mark_Cat.f k (acc.map mkS)).bind fun b => some (b.1, b.2)) (Ev.bind h (Ev.now _)) (fun k => ?_)
    simp only [seek_Join.l0]
    rw [if_neg (by omega)]
  | succ d ih =>
    intro i acc hi ha h
    have hlt : i < Cs.length := by omega
    have e : rd_T24 (Cs.map mkS) (i : Int) = mkS Cs[i] := by rw [rdT24 (by omega)]; simp
    have hal : (acc.map mkS).length = acc.length := List.length_map _
    rw [List.drop_eq_getElem_cons hlt, jnL, ← List.append_assoc] at h
    by_cases h0 : 0 < i
    · rw [if_pos h0] at h
      have h2 := ih (i + 1) (acc ++ [b, Cs[i]]) (by omega) (by simp; omega) h
      rw [show acc ++ [b, Cs[i]] = (acc ++ [b]) ++ [Cs[i]] by simp, mkS_snoc, mkS_snoc] at h2
      refine Ev.step1 h2 (fun k => ?_)
      simp only [seek_Join.l0]
      rw [if_pos (by omega), if_pos (by omega), if_pos (by omega), if_pos (by omega), if_pos (by omega), Option.bind_some, if_pos (by simp; omega), e, w64 (by omega) (by omega)]
      rfl
    · rw [if_neg h0] at h
      have h2 := ih (i + 1) (acc ++ [Cs[i]]) (by omega) (by simp; omega) h
      rw [mkS_snoc] at h2
      refine Ev.step1 h2 (fun k => ?_)
      simp only [seek_Join.l0]
      rw [if_pos (by omega), if_pos (by omega), if_pos (by omega), if_neg (by omega), if_pos (by omega), e, w64 (by omega) (by omega)]
      rfl
theorem JoinA_spec (Cs : List (List Lc)) (b : List Lc) (hn : Cs.length ≤ 1099511627776) (hb : Okl b) (hC : ∀ X ∈ Cs, Okl X) (hl : (joinA b Cs).length ≤ 1099511627776) : Ev (fun k => seek_Join.f k (Cs.map mkS) (canon b).1 (canon b).2) (canon (joinA b Cs)) := by
  have hl2 := jnL_length b Cs 0
  have h := Cat_mk (jnL b 0 Cs) (fun X hX => by
    rcases jnL_mem b Cs 0 X hX with rfl | h
    · exact hb
    · exact hC X h) (by omega) (by rw [jnL_flat]; exact hl)
  rw [jnL_flat] at h
  exact JoinA_loop Cs b _ (by omega) Cs.length 0 [] (by omega) (by simp) h
theorem joinA_length (b : List Lc) : ∀ (Cs : List (List Lc)), (joinA b Cs).length ≤ Cs.flatten.length + Cs.length * b.length
  | [] => by simp [joinA]
  | [x] => by simp [joinA]
  | x :: y :: l => by
    have := joinA_length b (y :: l)
    rw [joinA, List.length_append, List.length_append]
    simp only [List.flatten_cons, List.length_append, List.length_cons] at this ⊢
    have e : (l.length + 1 + 1) * b.length = (l.length + 1) * b.length + b.length := by rw [Nat.add_mul (l.length + 1), Nat.one_mul]
    omega
end Go.Proofs.YtljmmhihdcnbaaaDoor.G
/- Where a byte stands; what is split at a byte. -/
namespace Go.Proofs.YtljmmhihdcnbaaaDoor.G
open Go.RowKit Go.Proofs.YtljmmhihdcnbaaaDoorW.PrintWords Go.Proofs.YtljmmhihdcnbaaaDoorW.PrintLast Go.Proofs.YtljmmhihdcnbaaaDoorW.PrintMore
set_option linter.unusedVariables false
set_option linter.unusedSimpArgs false
theorem str_byte (c : UInt8) : strOfNums [(c.toNat : Int)] = bytesA [c] := strOfNums_map [c]
/-- The first place of a byte; -1: none. -/
theorem Index0 (s : ByteArray) (rs : List S56) (c : UInt8) (hs : s.size ≤ 1099511627776) : seek_Index.f s rs (bytesA [c]) 0 = some (Go.Lib.indexByte s.data.toList c) := by
  have hge := Go.Lib.indexByte_ge s.data.toList c
  have hlt : Go.Lib.indexByte s.data.toList c ≤ (s.size : Int) := by
    have : ∀ l : List UInt8, Go.Lib.indexByte l c ≤ (l.length : Int) := by
      intro l
      induction l with
      | nil => simp [Go.Lib.indexByte]
      | cons b l ih =>
        unfold Go.Lib.indexByte
        split
        · simp; omega
        · split
          · simp; omega
          · simp only [List.length_cons]; omega
    have := this s.data.toList
    rwa [size_list] at this
  have e0 : mn (mx 0 0) (s.size : Int) = 0 := by rw [mn_eq, mx_eq]; omega
  have e1 : s.extract 0 s.size = s := by simp
  unfold seek_Index.f
  rw [e0, if_pos (by omega), if_pos (by omega), show (0 : Int).toNat = 0 from rfl, e1]
  have e2 : strings_Index.f s (bytesA [c]) = some (Go.Lib.indexByte s.data.toList c) := rfl
  rw [e2, Option.bind_some]
  by_cases h : Go.Lib.indexByte s.data.toList c < 0
  · rw [if_pos h]
    congr 1
    omega
  · rw [if_neg h, Int.zero_add, w64 (by omega) (by omega)]
theorem Split_spec (t : ByteArray) (rs : List S56) (c : UInt8) (ht : t.size ≤ 1099511627776) (hr : rs.length ≤ 1099511627776) : Ev (fun k => seek_Split.f k t rs (c.toNat : Int)) ((cutsA (qB (bytesA [c])) [] (La t rs)).map mkS) := by
  unfold seek_Split.f
  rw [str_byte]
  exact Ev.bind (cuts_spec t rs (bytesA [c]) ht hr) (Ev.now _)
end Go.Proofs.YtljmmhihdcnbaaaDoor.G
/- style's Parse as plain lists. -/
namespace Go.Proofs.YtljmmhihdcnbaaaDoor.G
open Go.RowKit Go.Proofs.YtljmmhihdcnbaaaDoorW.PrintWords Go.Proofs.YtljmmhihdcnbaaaDoorW.PrintLast Go.Proofs.YtljmmhihdcnbaaaDoorW.PrintMore
set_option linter.unusedVariables false
set_option linter.unusedSimpArgs false
theorem rdT32 {l : List S32} {i : Nat} (h : i < l.length) : rd_T32 l (i : Int) = l[i] := by simp [rd_T32, h]
theorem Trim_canon {l : List Lc} (h : Okl l) (hl : l.length ≤ 1099511627776) : Ev (fun k => fold_Trim.f k (canon l).1 (canon l).2) (canon (trimL (inB ws) l)) := by
  have hc := canon_runs l
  have := Trim_spec (canon l).1 (canon l).2 (by rw [canon_size]; omega) (by omega)
  rwa [La_canon h] at this
/-- One declaration: its name and its value. -/
abbrev Dc := List Lc × List Lc
def mkD (d : Dc) : S32 := ⟨mkS d.1, mkS d.2⟩
def Okd (d : Dc) : Prop := Okl d.1 ∧ Okl d.2
def declL (X : List Lc) : Option Dc := if atL 58 X < X.length then some (lowL (trimL (inB ws) (aheadL 58 X)), trimL (inB ws) (behindL 58 X)) else none
def parseL (l : List Lc) : List Dc := (cutsA (qB (bytesA [59])) [] l).filterMap declL
theorem mkD_snoc (a : List Dc) (d : Dc) : (a ++ [d]).map mkD = a.map mkD ++ [(⟨(⟨(canon d.1).1, (canon d.1).2⟩ : S24), (⟨(canon d.2).1, (canon d.2).2⟩ : S24)⟩ : S32)] := by rw [List.map_append]; rfl
theorem mkS_bytes (X : List Lc) : (mkS X).f0.data.toList = X.map (·.1) := by simp [mkS, canon, bytesA]
theorem cut_ahead {X : List Lc} (h : atL 58 X < X.length) : cutL X 0 ((atL 58 X : Nat) : Int) = aheadL 58 X := by
  have := cutL_nat X 0 (atL 58 X) (by omega) (by omega)
  rw [show ((0 : Nat) : Int) = 0 from rfl] at this
  rw [this, List.drop_zero]; rfl
theorem cut_behind {X : List Lc} (h : atL 58 X < X.length) : cutL X ((atL 58 X : Int) + 1) (X.length : Int) = behindL 58 X := by
  have := cutL_nat X (atL 58 X + 1) X.length (by omega) (by omega)
  rw [Int.natCast_add, Int.natCast_one] at this
  rw [this, List.take_length]; unfold behindL; rw [if_pos h]
theorem Parse_loop (Cs : List (List Lc)) (hC : ∀ X ∈ Cs, Okl X ∧ X.length ≤ 1099511627775) (hl : Cs.length ≤ 1099511627777) : ∀ (d i : Nat) (acc : List Dc), i + d = Cs.length → acc.length ≤ i → Ev (fun k => style_Parse.l0 k (acc.map mkD) (Cs.map mkS) ((Cs.map mkS).length : Int) (i : Int)) ((acc ++ (Cs.drop i).filterMap declL).map mkD) := by
  intro d
  have hm : (Cs.map mkS).length = Cs.length := List.length_map _
  induction d with
  | zero =>
    intro i acc hi ha
    rw [List.drop_eq_nil_of_le (by omega), List.filterMap_nil, List.append_nil]
    refine Ev.step1 (Ev.now _) (fun k => ?_)
    simp only [style_Parse.l0]
    rw [if_neg (by omega)]
  | succ d ih =>
    intro i acc hi ha
    have hlt : i < Cs.length := by omega
    obtain ⟨hX, hX2⟩ := hC Cs[i] (List.getElem_mem hlt)
    have e : rd_T24 (Cs.map mkS) (i : Int) = mkS Cs[i] := by rw [rdT24 (by omega)]; simp
    have eI : seek_Index.f (mkS Cs[i]).f0 (mkS Cs[i]).f1 (⟨#[58]⟩ : ByteArray) 0 = some (Go.Lib.indexByte (mkS Cs[i]).f0.data.toList 58) := Index0 _ _ 58 (by rw [show (mkS Cs[i]).f0 = (canon Cs[i]).1 from rfl, canon_size]; omega)
    rw [mkS_bytes, indexByte_at] at eI
    rw [List.drop_eq_getElem_cons hlt]
    by_cases h : atL 58 Cs[i] < Cs[i].length
    · rw [if_pos h] at eI
      have hd : declL Cs[i] = some (lowL (trimL (inB ws) (aheadL 58 Cs[i])), trimL (inB ws) (behindL 58 Cs[i])) := if_pos h
      have h2 := ih (i + 1) (acc ++ [(lowL (trimL (inB ws) (aheadL 58 Cs[i])), trimL (inB ws) (behindL 58 Cs[i]))]) (by omega) (by simp; omega)
      rw [List.append_assoc, List.singleton_append, mkD_snoc] at h2
      rw [List.filterMap_cons_some hd]
      have ha1 : (aheadL 58 Cs[i]).length ≤ 1099511627775 := by rw [aheadL_length]; omega
      have hb1 := behindL_length 58 Cs[i]
      have ht1 := trimL_length (inB ws) (aheadL 58 Cs[i])
      refine Ev.step (f := ?ff) ?hh ?kk
      case hh =>
        intro k
        simp only [style_Parse.l0]
        rw [if_pos (by omega), if_pos (by omega), if_pos (by omega), e, eI, Option.bind_some, if_neg (by omega), w64 (by omega) (by omega), w64 (by omega) (by omega)]
      case kk =>
        have c1 := Cut_canon hX (by omega) 0 (atL 58 Cs[i] : Int)
        have c2 := Cut_canon hX (by omega) ((atL 58 Cs[i] : Int) + 1) (Cs[i].length : Int)
        rw [cut_ahead h] at c1
        rw [cut_behind h] at c2
        refine Ev.bind c1 ?_
        have es : ((mkS Cs[i]).f0.size : Int) = (Cs[i].length : Int) := by rw [show (mkS Cs[i]).f0 = (canon Cs[i]).1 from rfl, canon_size]
        simp only [es]
        refine Ev.bind c2 ?_
        refine Ev.bind (Trim_canon (aheadL_ok hX) (by omega)) ?_
        refine Ev.bind (Lower_canon (trimL_ok (aheadL_ok hX)) (by omega)) ?_
        refine Ev.bind (Trim_canon (behindL_ok hX) (by omega)) ?_
        refine Ev.eq h2 (fun k => ?_)
        rw [if_pos (by rw [List.length_map]; omega)]
        rfl
    · rw [if_neg h] at eI
      have h2 := ih (i + 1) acc (by omega) (by omega)
      have hd : declL Cs[i] = none := if_neg h
      rw [List.filterMap_cons_none hd]
      refine Ev.step1 h2 (fun k => ?_)
      simp only [style_Parse.l0]
      rw [if_pos (by omega), if_pos (by omega), if_pos (by omega), e, eI, Option.bind_some, if_pos (by omega), w64 (by omega) (by omega)]
      rfl
theorem Parse_spec (t : ByteArray) (rs : List S56) (ht : t.size ≤ 1099511627775) (hr : rs.length ≤ 1099511627776) : Ev (fun k => style_Parse.f k t rs) ((parseL (La t rs)).map mkD) := by
  have hn := La_length t rs
  unfold style_Parse.f
  refine Ev.bind (Split_spec t rs 59 (by omega) hr) ?_
  have h1 := cutsA_length (qB (bytesA [59])) (La t rs) []
  have h2 : (La t rs).countP (qB (bytesA [59])) ≤ (La t rs).length := List.countP_le_length
  have h := Parse_loop (cutsA (qB (bytesA [59])) [] (La t rs)) (fun X hX => ⟨cutsA_ok (La_ok t rs) X hX, by have := cutsA_len hX; omega⟩) (by omega) _ 0 [] (Nat.zero_add _) (by simp)
  rw [List.drop_zero, List.nil_append] at h
  exact h
end Go.Proofs.YtljmmhihdcnbaaaDoor.G
/- style's Clean as plain lists. -/
namespace Go.Proofs.YtljmmhihdcnbaaaDoor.G
open Go.RowKit Go.Proofs.YtljmmhihdcnbaaaDoorW.PrintWords Go.Proofs.YtljmmhihdcnbaaaDoorW.PrintLast Go.Proofs.YtljmmhihdcnbaaaDoorW.PrintMore
set_option linter.unusedVariables false
set_option linter.unusedSimpArgs false
def knownV (l : List UInt8) : Bool := ([[99, 111, 108, 111, 114], [109, 97, 114, 103, 105, 110], [112, 97, 100, 100, 105, 110, 103], [119, 105, 100, 116, 104], [104, 101, 105, 103, 104, 116], [100, 105, 115, 112, 108, 97, 121]] : List (List UInt8)).contains l
theorem Known_spec (a : ByteArray) : style_Known.f a = some (knownV a.data.toList) := by
  unfold style_Known.f
  simp only [ByteArray.toList_eq]
  generalize a.data.toList = l
  unfold knownV
  repeat' split
  all_goals simp_all
def pureV (l : List Lc) : Bool := worst (l.map (·.2)) == 0
theorem Pure_canon {l : List Lc} (h : Okl l) (hl : l.length ≤ 1099511627776) : Ev (fun k => mark_Pure.f k (canon l).1 (canon l).2) (pureV l) := by
  unfold mark_Pure.f
  exact Ev.bind (Worst_canon h hl) (Ev.now _)
def okD (d : Dc) : Bool := knownV (bsL d.1) && (pureV d.1 && plainV (bsL d.2))
def dropD (acc : List Dc) (n : List Lc) : List Dc := acc.filter fun x => !(bsL x.1 == bsL n)
def keepD (acc : List Dc) (d : Dc) : List Dc := if okD d = true then dropD acc d.1 ++ [d] else acc
def cleanD (ds : List Dc) : List Dc := ds.foldl keepD []
def lineL (d : Dc) : List Lc := [d.1, [(58, 0)], d.2].flatten
def cleanL (l : List Lc) : List Lc := joinA [(59, 0)] ((cleanD (parseL l)).map lineL)
theorem mkS_bsL (X : List Lc) : (mkS X).f0.data.toList = bsL X := mkS_bytes X
theorem Fix_canon {l : List Lc} (h : Okl l) (hl : l.length ≤ 1099511627776) : Ev (fun k => mark_Fix.f k (canon l).1 (canon l).2) (canon l) := by
  have hc := canon_runs l
  have := Fix_spec (canon l).1 (canon l).2 (by rw [canon_size]; omega) (by omega)
  rwa [La_canon h] at this
/-! ### Drop -/
theorem all_loop (ds : List Dc) (hd : ∀ d ∈ ds, Okd d ∧ d.1.length ≤ 1099511627776 ∧ d.2.length ≤ 1099511627776) (hl : ds.length ≤ 1099511627777) : ∀ (d i : Nat), i + d = ds.length → Ev (fun k => attrs_all.l0 k ((ds.take i).map mkD) (ds.map mkD) ((ds.map mkD).length : Int) (i : Int)) (ds.map mkD) := by
  intro d
  have hm : (ds.map mkD).length = ds.length := List.length_map _
  induction d with
  | zero =>
    intro i hi
    rw [List.take_of_length_le (by omega)]
    refine Ev.step1 (Ev.now _) (fun k => ?_)
    simp only [attrs_all.l0]
    rw [if_neg (by omega)]
  | succ d ih =>
    intro i hi
    have hlt : i < ds.length := by omega
    obtain ⟨⟨h1, h2⟩, h3, h4⟩ := hd ds[i] (List.getElem_mem hlt)
    have e : rd_T32 (ds.map mkD) (i : Int) = mkD ds[i] := by rw [rdT32 (by omega)]; simp
    have hi2 := ih (i + 1) (by omega)
    rw [take_snoc' hlt, mkD_snoc] at hi2
    refine Ev.step (f := ?ff) ?hh ?kk
    case hh =>
      intro k
      simp only [attrs_all.l0]
      rw [if_pos (by omega), if_pos (by omega), if_pos (by omega), e, w64 (by omega) (by omega)]
    case kk =>
      unfold attrs_own.f
      refine Ev.bind (a := ((canon ds[i].1).1, (canon ds[i].1).2, (canon ds[i].2).1, (canon ds[i].2).2)) ?_ ?_
      · exact Ev.bind (Fix_canon h1 h3) (Ev.bind (Fix_canon h2 h4) (Ev.now _))
      · refine Ev.eq hi2 (fun k => ?_)
        rw [if_pos (by rw [List.length_map, List.length_take]; omega)]
        rfl
theorem Drop_spec (ds : List Dc) (hd : ∀ d ∈ ds, Okd d ∧ d.1.length ≤ 1099511627776 ∧ d.2.length ≤ 1099511627776) (hl : ds.length ≤ 1099511627777) (n : List Lc) : Ev (fun k => attrs_Drop.f k (ds.map mkD) (mkS n).f0) ((dropD ds n).map mkD) := by
  unfold attrs_Drop.f attrs_all.f
  refine Ev.bind (all_loop ds hd hl ds.length 0 (by omega)) ?_
  rw [List.length_map, if_pos (by omega)]
  have e : (ds.map mkD).filter (fun x => !(x.f0.f0.toList == (mkS n).f0.toList)) = (dropD ds n).map mkD := by
    rw [List.filter_map]
    unfold dropD
    congr 1
    apply List.filter_congr
    intro x _
    simp only [Function.comp, ByteArray.toList_eq, mkS_bsL]
    rw [show (mkD x).f0 = mkS x.1 from rfl, mkS_bsL]
  rw [e]
  exact Ev.now _
/-! ### sizes -/
def szD (d : Dc) : Nat := d.1.length + d.2.length
def sumD (ds : List Dc) : Nat := (ds.map szD).sum
theorem sumD_app (a b : List Dc) : sumD (a ++ b) = sumD a + sumD b := by simp [sumD]
theorem sumD_one (d : Dc) : sumD [d] = szD d := by simp [sumD]
theorem sumD_filter (q : Dc → Bool) (a : List Dc) : sumD (a.filter q) ≤ sumD a := by
  induction a with
  | nil => exact Nat.le_refl _
  | cons x a ih =>
    rw [List.filter_cons]
    split
    · simp only [sumD, List.map_cons, List.sum_cons] at ih ⊢; omega
    · simp only [sumD, List.map_cons, List.sum_cons] at ih ⊢; omega
theorem keepD_sum (acc : List Dc) (d : Dc) : sumD (keepD acc d) ≤ sumD acc + szD d ∧ (keepD acc d).length ≤ acc.length + 1 := by
  unfold keepD
  split
  · have := sumD_filter (fun x => !(bsL x.1 == bsL d.1)) acc
    have h2 := List.length_filter_le (fun x => !(bsL x.1 == bsL d.1)) acc
    rw [sumD_app, sumD_one, List.length_append, List.length_singleton]
    unfold dropD
    omega
  · omega
theorem foldD_sum : ∀ (ds acc : List Dc), sumD (ds.foldl keepD acc) ≤ sumD acc + sumD ds ∧ (ds.foldl keepD acc).length ≤ acc.length + ds.length
  | [], acc => by simp [sumD]
  | d :: ds, acc => by
    have h1 := keepD_sum acc d
    have h2 := foldD_sum ds (keepD acc d)
    rw [List.foldl_cons, show d :: ds = [d] ++ ds from rfl, sumD_app, sumD_one, List.length_append, List.length_singleton]
    omega
theorem keepD_mem {acc : List Dc} {d x : Dc} (h : x ∈ keepD acc d) : x ∈ acc ∨ (x = d ∧ okD d = true) := by
  unfold keepD at h
  split at h
  · rename_i hk
    rcases List.mem_append.1 h with h | h
    · exact Or.inl (List.mem_filter.1 h).1
    · exact Or.inr ⟨List.mem_singleton.1 h, hk⟩
  · exact Or.inl h
theorem foldD_mem : ∀ (ds acc : List Dc) (x : Dc), x ∈ ds.foldl keepD acc → x ∈ acc ∨ (x ∈ ds ∧ okD x = true)
  | [], acc, x, h => Or.inl h
  | d :: ds, acc, x, h => by
    rw [List.foldl_cons] at h
    rcases foldD_mem ds _ x h with h | h
    · rcases keepD_mem h with h | ⟨rfl, h⟩
      · exact Or.inl h
      · exact Or.inr ⟨List.mem_cons_self, h⟩
    · exact Or.inr ⟨List.mem_cons_of_mem _ h.1, h.2⟩
theorem cleanD_mem {ds : List Dc} {x : Dc} (h : x ∈ cleanD ds) : x ∈ ds ∧ okD x = true := by
  rcases foldD_mem ds [] x h with h | h
  · cases h
  · exact h
theorem declL_sz {X : List Lc} {d : Dc} (h : declL X = some d) : szD d ≤ X.length := by
  unfold declL at h
  split at h
  · rename_i hlt
    obtain rfl := Option.some.inj h
    have h1 := trimL_length (inB ws) (aheadL 58 X)
    have h2 := trimL_length (inB ws) (behindL 58 X)
    have h3 : (behindL 58 X).length = X.length - (atL 58 X + 1) := by unfold behindL; rw [if_pos hlt, List.length_drop]
    rw [aheadL_length] at h1
    have h4 : (lowL (trimL (inB ws) (aheadL 58 X))).length = (trimL (inB ws) (aheadL 58 X)).length := List.length_map _
    unfold szD
    simp only [h4]
    omega
  · cases h
theorem declL_ok {X : List Lc} {d : Dc} (hX : Okl X) (h : declL X = some d) : Okd d := by
  unfold declL at h
  split at h
  · obtain rfl := Option.some.inj h
    exact ⟨lowL_ok (trimL_ok (aheadL_ok hX)), trimL_ok (behindL_ok hX)⟩
  · cases h
theorem decl_sum : ∀ (Cs : List (List Lc)), sumD (Cs.filterMap declL) ≤ Cs.flatten.length
  | [] => Nat.le_refl _
  | X :: Cs => by
    have := decl_sum Cs
    rw [List.flatten_cons, List.length_append]
    cases h : declL X with
    | none => rw [List.filterMap_cons_none h]; omega
    | some d =>
      have h2 := declL_sz h
      rw [List.filterMap_cons_some h, show d :: Cs.filterMap declL = [d] ++ Cs.filterMap declL from rfl, sumD_app, sumD_one]
      omega
theorem parseL_sum (l : List Lc) : sumD (parseL l) ≤ l.length := by
  have h1 := decl_sum (cutsA (qB (bytesA [59])) [] l)
  have h2 := cutsA_flat (qB (bytesA [59])) l []
  rw [List.length_nil] at h2
  unfold parseL
  omega
theorem parseL_num (l : List Lc) : (parseL l).length ≤ l.length + 1 := by
  have h1 := cutsA_length (qB (bytesA [59])) l []
  have h2 : l.countP (qB (bytesA [59])) ≤ l.length := List.countP_le_length
  have h3 := List.length_filterMap_le declL (cutsA (qB (bytesA [59])) [] l)
  unfold parseL
  omega
theorem szD_sum {ds : List Dc} {d : Dc} (h : d ∈ ds) : szD d ≤ sumD ds := by
  induction ds with
  | nil => cases h
  | cons x ds ih =>
    rw [show x :: ds = [x] ++ ds from rfl, sumD_app, sumD_one]
    rcases List.mem_cons.1 h with rfl | h
    · omega
    · have := ih h; omega
theorem parseL_ok {l : List Lc} (h : Okl l) {d : Dc} (hd : d ∈ parseL l) : Okd d := by
  obtain ⟨X, hX, he⟩ := List.mem_filterMap.1 hd
  exact declL_ok (cutsA_ok h X hX) he
theorem lineL_length (d : Dc) : (lineL d).length = szD d + 1 := by simp [lineL, szD]; omega
theorem lineL_ok {d : Dc} (h : Okd d) : Okl (lineL d) := fun c hc => by
  unfold lineL at hc
  simp only [List.flatten_cons, List.flatten_nil, List.append_nil, List.mem_append, List.mem_singleton] at hc
  rcases hc with hc | hc | hc
  · exact h.1 c hc
  · subst hc; exact ⟨by decide, by decide⟩
  · exact h.2 c hc
theorem lines_flat : ∀ (ds : List Dc), ((ds.map lineL).flatten).length = sumD ds + ds.length
  | [] => rfl
  | d :: ds => by
    have := lines_flat ds
    rw [List.map_cons, List.flatten_cons, List.length_append, this, lineL_length, show d :: ds = [d] ++ ds from rfl, sumD_app, sumD_one, List.length_append, List.length_singleton]
    omega
theorem lines_length (ds : List Dc) : (joinA [(59, 0)] (ds.map lineL)).length ≤ sumD ds + 2 * ds.length := by
  have h := joinA_length [((59, 0) : Lc)] (ds.map lineL)
  rw [lines_flat, List.length_map, List.length_singleton] at h
  omega
/-! ### Clean -/
theorem Clean_join (ds : List Dc) (hd : ∀ d ∈ ds, Okd d) (hs : sumD ds ≤ 1000000000) (hl : ds.length ≤ 1000000000) : ∀ (d i : Nat), i + d = ds.length → Ev (fun k => style_Clean.l1 k (((ds.take i).map lineL).map mkS) (ds.map mkD) ((ds.map mkD).length : Int) (i : Int)) (canon (joinA [(59, 0)] (ds.map lineL))) := by
  intro d
  have hm : (ds.map mkD).length = ds.length := List.length_map _
  have hj := lines_length ds
  induction d with
  | zero =>
    intro i hi
    rw [List.take_of_length_le (by omega)]
    refine Ev.step (f := ?ff) ?hh ?kk
    case hh =>
      intro k
      simp only [style_Clean.l1]
      rw [if_neg (by omega), show mark_Of.f (⟨#[59]⟩ : ByteArray) 0 = some (canon [(59, 0)]) from of_one 59 0 (by decide), Option.bind_some]
    case kk =>
      refine Ev.bind (JoinA_spec (ds.map lineL) [(59, 0)] (by rw [List.length_map]; omega) (Okl.one (by decide)) (fun X hX => ?_) (by omega)) (Ev.now _)
      obtain ⟨d, hd2, rfl⟩ := List.mem_map.1 hX
      exact lineL_ok (hd d hd2)
  | succ d ih =>
    intro i hi
    have hlt : i < ds.length := by omega
    have hok := hd ds[i] (List.getElem_mem hlt)
    have hz := szD_sum (List.getElem_mem hlt)
    have e : rd_T32 (ds.map mkD) (i : Int) = mkD ds[i] := by rw [rdT32 (by omega)]; simp
    have hi2 := ih (i + 1) (by omega)
    rw [take_snoc' hlt, List.map_append, List.map_append] at hi2
    refine Ev.step (f := ?ff2) ?hh2 ?kk2
    case hh2 =>
      intro k
      simp only [style_Clean.l1]
      rw [if_pos (by omega), if_pos (by omega), if_pos (by omega), e, w64 (by omega) (by omega), show mark_Of.f (⟨#[58]⟩ : ByteArray) 0 = some (canon [(58, 0)]) from of_one 58 0 (by decide), Option.bind_some]
    case kk2 =>
      have hc := Cat_mk [ds[i].1, [(58, 0)], ds[i].2] (fun X hX => by
        simp only [List.mem_cons, List.not_mem_nil, or_false] at hX
        rcases hX with rfl | rfl | rfl
        · exact hok.1
        · exact Okl.one (by decide)
        · exact hok.2) (by simp) (by have := lineL_length ds[i]; unfold lineL at this; omega)
      refine Ev.bind hc ?_
      refine Ev.eq hi2 (fun k => ?_)
      rw [Option.bind_some, if_pos (by rw [List.length_map, List.length_map, List.length_take]; simp only [List.length_cons, List.length_nil]; omega)]
      rfl
theorem Clean_loop (ds : List Dc) (hd : ∀ d ∈ ds, Okd d) (hs : sumD ds ≤ 1000000000) (hl : ds.length ≤ 1000000000) : ∀ (d i : Nat), i + d = ds.length → Ev (fun k => style_Clean.l0 k (((ds.take i).foldl keepD []).map mkD) (ds.map mkD) ((ds.map mkD).length : Int) (i : Int)) (canon (joinA [(59, 0)] ((cleanD ds).map lineL))) := by
  intro d
  have hm : (ds.map mkD).length = ds.length := List.length_map _
  induction d with
  | zero =>
    intro i hi
    rw [List.take_of_length_le (by omega)]
    have h1 := foldD_sum ds []
    rw [show sumD [] = 0 from rfl, List.length_nil] at h1
    have h := Clean_join (cleanD ds) (fun x hx => hd x (cleanD_mem hx).1) (by unfold cleanD; omega) (by unfold cleanD; omega) (cleanD ds).length 0 (Nat.zero_add _)
    refine Ev.step1 h (fun k => ?_)
    simp only [style_Clean.l0]
    rw [if_neg (by omega)]
    rfl
  | succ d ih =>
    intro i hi
    have hlt : i < ds.length := by omega
    have hok := hd ds[i] (List.getElem_mem hlt)
    have hz := szD_sum (List.getElem_mem hlt)
    unfold szD at hz
    have e : rd_T32 (ds.map mkD) (i : Int) = mkD ds[i] := by rw [rdT32 (by omega)]; simp
    have hi2 := ih (i + 1) (by omega)
    rw [take_snoc' hlt, List.foldl_append, List.foldl_cons, List.foldl_nil] at hi2
    have hacc : ∀ x ∈ (ds.take i).foldl keepD [], Okd x ∧ x.1.length ≤ 1099511627776 ∧ x.2.length ≤ 1099511627776 := by
      intro x hx
      have h1 : x ∈ ds.take i := (cleanD_mem hx).1
      have h2 : x ∈ ds := List.mem_of_mem_take h1
      have h3 := szD_sum h2
      unfold szD at h3
      exact ⟨hd x h2, by omega, by omega⟩
    have hal : ((ds.take i).foldl keepD []).length ≤ 1000000000 := by
      have h1 := (foldD_sum (ds.take i) []).2
      rw [List.length_nil, List.length_take] at h1
      omega
    generalize hA : (ds.take i).foldl keepD [] = acc at hi2 hacc hal ⊢
    refine Ev.step (f := ?ff) ?hh ?kk
    case hh =>
      intro k
      simp only [style_Clean.l0]
      rw [if_pos (by omega), if_pos (by omega), if_pos (by omega), e, w64 (by omega) (by omega), Known_spec, Option.bind_some, show (mkD ds[i]).f0.f0.data.toList = bsL ds[i].1 from mkS_bsL _]
    case kk =>
      by_cases hk : knownV (bsL ds[i].1) = true
      · simp only [if_pos hk]
        refine Ev.bind (Pure_canon hok.1 (by omega)) ?_
        by_cases hp : pureV ds[i].1 = true
        · simp only [if_pos hp]
          have epl : style_Plain.f (mkD ds[i]).f1.f0 = some (plainV (bsL ds[i].2)) := by
            unfold style_Plain.f
            rw [show (mkD ds[i]).f1.f0.data.toList = bsL ds[i].2 from mkS_bsL _, if_pos (by rw [show (mkD ds[i]).f1.f0 = (canon ds[i].2).1 from rfl, canon_size]; omega)]
          simp only [epl, Option.bind_some]
          by_cases hv : plainV (bsL ds[i].2) = true
          · simp only [if_pos hv]
            refine Ev.bind (Drop_spec acc hacc (by omega) ds[i].1) ?_
            refine Ev.eq hi2 (fun k => ?_)
            have hdl : (dropD acc ds[i].1).length ≤ acc.length := List.length_filter_le _ _
            rw [if_pos (by rw [List.length_map]; simp only [List.length_cons, List.length_nil]; omega)]
            have hkd : keepD acc ds[i] = dropD acc ds[i].1 ++ [ds[i]] := if_pos (by unfold okD; rw [hk, hp, hv]; rfl)
            rw [hkd, mkD_snoc]
            rfl
          · simp only [if_neg hv]
            have hkd : keepD acc ds[i] = acc := if_neg (by unfold okD; simp [hv])
            rw [hkd] at hi2
            exact hi2
        · simp only [if_neg hp]
          have hkd : keepD acc ds[i] = acc := if_neg (by unfold okD; simp [hp])
          rw [hkd] at hi2
          exact hi2
      · simp only [if_neg hk]
        have hkd : keepD acc ds[i] = acc := if_neg (by unfold okD; simp [hk])
        rw [hkd] at hi2
        exact hi2
theorem Clean_spec (t : ByteArray) (rs : List S56) (ht : t.size ≤ 100000000) (hr : rs.length ≤ 1099511627776) : Ev (fun k => style_Clean.f k t rs) (canon (cleanL (La t rs))) := by
  have hn := La_length t rs
  have h1 := parseL_sum (La t rs)
  have h2 := parseL_num (La t rs)
  unfold style_Clean.f
  refine Ev.bind (Parse_spec t rs (by omega) hr) ?_
  exact Clean_loop (parseL (La t rs)) (fun d hd => parseL_ok (La_ok t rs) hd) (by omega) (by omega) _ 0 (Nat.zero_add _)
end Go.Proofs.YtljmmhihdcnbaaaDoor.G
/- Cleaned twice is cleaned once: parse of what is cleaned gives what was kept. -/
namespace Go.Proofs.YtljmmhihdcnbaaaDoor.G
open Go.RowKit Go.Proofs.YtljmmhihdcnbaaaDoorW.PrintWords Go.Proofs.YtljmmhihdcnbaaaDoorW.PrintLast Go.Proofs.YtljmmhihdcnbaaaDoorW.PrintMore
set_option linter.unusedVariables false
set_option linter.unusedSimpArgs false
theorem lineL_eq (d : Dc) : lineL d = d.1 ++ (58, 0) :: d.2 := by simp [lineL]
end Go.Proofs.YtljmmhihdcnbaaaDoor.G
/- What Clean keeps: each declaration that is right and that no later right one of its name replaces. -/
namespace Go.Proofs.YtljmmhihdcnbaaaDoor.G
open Go.RowKit Go.Proofs.YtljmmhihdcnbaaaDoorW.PrintWords Go.Proofs.YtljmmhihdcnbaaaDoorW.PrintLast Go.Proofs.YtljmmhihdcnbaaaDoorW.PrintMore
set_option linter.unusedVariables false
set_option linter.unusedSimpArgs false
/-- A later right declaration of the same name. -/
def laterD (n : List Lc) (ds : List Dc) : Bool := ds.any fun e => okD e && (bsL e.1 == bsL n)
def selD : List Dc → List Dc
  | [] => []
  | d :: ds => if (okD d && !laterD d.1 ds) = true then d :: selD ds else selD ds
theorem laterD_cons (n : List Lc) (d : Dc) (ds : List Dc) : laterD n (d :: ds) = ((okD d && (bsL d.1 == bsL n)) || laterD n ds) := rfl
theorem selD_cons (d : Dc) (ds : List Dc) : selD (d :: ds) = if (okD d && !laterD d.1 ds) = true then d :: selD ds else selD ds := rfl
theorem dropWhile_all {α : Type} (p : α → Bool) : ∀ (l : List α), l.dropWhile p = [] → ∀ c ∈ l, p c = true
  | [], _, c, hc => by cases hc
  | x :: l, h, c, hc => by
    rw [List.dropWhile_cons] at h
    split at h
    · rename_i hx
      rcases List.mem_cons.1 hc with rfl | hc
      · exact hx
      · exact dropWhile_all p l h c hc
    · cases h
theorem fold_sel : ∀ (ds acc : List Dc), ds.foldl keepD acc = (acc.filter fun a => !laterD a.1 ds) ++ selD ds
  | [], acc => by
    have : (fun a : Dc => !laterD a.1 []) = fun _ => true := by funext a; rfl
    rw [this, List.filter_eq_self.2 (fun _ _ => rfl), show selD [] = [] from rfl, List.append_nil]
    rfl
  | d :: ds, acc => by
    rw [List.foldl_cons, fold_sel ds]
    by_cases h : okD d = true
    · have hk : keepD acc d = dropD acc d.1 ++ [d] := if_pos h
      rw [hk, List.filter_append]
      unfold dropD
      rw [List.filter_filter]
      have e : (fun a : Dc => (!laterD a.1 ds) && !(bsL a.1 == bsL d.1)) = fun a => !laterD a.1 (d :: ds) := by
        funext a
        rw [laterD_cons, h, Bool.true_and, Bool.not_or, Bool.and_comm]
        congr 2
        rw [Bool.eq_iff_iff, beq_iff_eq, beq_iff_eq]
        exact eq_comm
      rw [e, List.append_assoc]
      congr 1
      rw [selD_cons, h, Bool.true_and, List.filter_cons, List.filter_nil]
      split <;> rfl
    · have hk : keepD acc d = acc := if_neg h
      have hf : okD d = false := by simpa using h
      have e : (fun a : Dc => !laterD a.1 ds) = fun a => !laterD a.1 (d :: ds) := by
        funext a
        rw [laterD_cons, hf, Bool.false_and, Bool.false_or]
      rw [hk, e]
      congr 1
      rw [selD_cons, hf, Bool.false_and, if_neg (by decide)]
theorem cleanD_sel (ds : List Dc) : cleanD ds = selD ds := by
  unfold cleanD
  rw [fold_sel, List.filter_nil, List.nil_append]
/-- Where a declaration's name is known, a later one of its name that is pure and plain is right. -/
theorem later_known {n : List Lc} (hn : knownV (bsL n) = true) (ds : List Dc) : laterD n ds = ds.any fun e => (bsL e.1 == bsL n) && (pureV e.1 && plainV (bsL e.2)) := by
  unfold laterD
  congr 1
  funext e
  by_cases he : bsL e.1 = bsL n
  · have h1 : (bsL e.1 == bsL n) = true := beq_iff_eq.2 he
    rw [h1, Bool.and_true, Bool.true_and]
    unfold okD
    rw [he, hn, Bool.true_and]
  · have h1 : (bsL e.1 == bsL n) = false := beq_eq_false_iff_ne.2 he
    rw [h1, Bool.and_false, Bool.false_and]
theorem joinA_snoc (b : List Lc) : ∀ (Xs : List (List Lc)) (x : List Lc), Xs ≠ [] → joinA b (Xs ++ [x]) = joinA b Xs ++ b ++ x
  | [], x, h => absurd rfl h
  | [y], x, _ => by rw [List.singleton_append, joinA_cons b y [x] (by simp)]; simp [joinA]
  | y :: z :: l, x, _ => by
    have ih := joinA_snoc b (z :: l) x (by simp)
    rw [List.cons_append, joinA_cons b y _ (by simp), ih, joinA_cons b y (z :: l) (by simp)]
    simp [List.append_assoc]
theorem trimB_empty {l : List UInt8} (h : (l.any fun c => c != 32) = true) : (Go.Lib.trimB l 32).isEmpty = false := by
  cases hE : (Go.Lib.trimB l 32).isEmpty with
  | false => rfl
  | true =>
    exfalso
    obtain ⟨x, hx, hne⟩ := List.any_eq_true.1 h
    have hn : Go.Lib.trimB l 32 = [] := List.isEmpty_iff.1 hE
    unfold Go.Lib.trimB Go.Lib.trimRightB Go.Lib.trimLeftB at hn
    have h1 : ∀ c ∈ (l.reverse.dropWhile (· == 32)).reverse, c = 32 := fun c hc => by
      have := dropWhile_all _ _ hn c hc
      exact beq_iff_eq.1 this
    have h2 : l.reverse.dropWhile (· == 32) = [] := by
      cases hd : l.reverse.dropWhile (· == 32) with
      | nil => rfl
      | cons y ys =>
        have hy := List.head_dropWhile_not (· == 32) (l := l.reverse) (by rw [hd]; simp)
        have : (l.reverse.dropWhile (· == 32)).head (by rw [hd]; simp) = y := by simp [hd]
        rw [this] at hy
        have hy2 := h1 y (by rw [hd]; simp)
        rw [hy2] at hy
        simp at hy
    have h3 := dropWhile_all _ _ h2 x (List.mem_reverse.2 hx)
    rw [beq_iff_eq] at h3
    rw [h3] at hne
    simp at hne
end Go.Proofs.YtljmmhihdcnbaaaDoor.G
/- The law's own known and plain are style's. -/
namespace Go.Proofs.YtljmmhihdcnbaaaDoor.G
open Go.RowKit Go.Proofs.YtljmmhihdcnbaaaDoorW.PrintWords Go.Proofs.YtljmmhihdcnbaaaDoorW.PrintLast Go.Proofs.YtljmmhihdcnbaaaDoorW.PrintMore
set_option linter.unusedVariables false
set_option linter.unusedSimpArgs false
theorem lawKnown_spec (a : ByteArray) : glazierlaw44_known.f a = some (knownV a.data.toList) := by
  unfold glazierlaw44_known.f
  simp only [ByteArray.toList_eq]
  generalize a.data.toList = l
  unfold knownV
  repeat' split
  all_goals first | (simp_all; done) | (simp_all; rw [Bool.eq_iff_iff]; simp)
def restB : ByteArray := ⟨#[32, 46, 35, 37, 45]⟩
def alnum (c : UInt8) : Bool := decide ((97 ≤ c.toNat ∧ c.toNat ≤ 122) ∨ (65 ≤ c.toNat ∧ c.toNat ≤ 90) ∨ (48 ≤ c.toNat ∧ c.toNat ≤ 57))
theorem odd_rest {c : UInt8} (h : oddC c = false) (ha : alnum c = false) : inB restB c = true := by
  have := byte_all (fun c => oddC c || (alnum c || inB restB c)) (by decide +kernel) c
  simp only [h, ha, Bool.false_or] at this
  exact this
theorem next_eq (k : Nat) (a : ByteArray) (x n : Bool) (j : Int) : (if x = true then glazierlaw44_plain.l0 k a true j else glazierlaw44_plain.l0 k a n j) = glazierlaw44_plain.l0 k a (x || n) j := by cases x <;> rfl
theorem trimB_any {l : List UInt8} (h : (Go.Lib.trimB l 32).isEmpty = false) : (l.any fun c => c != 32) = true := by
  cases ha : l.any (fun c => c != 32) with
  | true => rfl
  | false =>
    have hall : ∀ c ∈ l, c = 32 := fun c hc => by
      have := List.any_eq_false.1 ha c hc
      simpa using this
    have hd : ∀ (m : List UInt8), (∀ c ∈ m, c = 32) → m.dropWhile (· == 32) = [] := by
      intro m
      induction m with
      | nil => intro _; rfl
      | cons x m ih =>
        intro hm
        rw [List.dropWhile_cons, if_pos (by rw [hm x List.mem_cons_self]; rfl)]
        exact ih fun c hc => hm c (List.mem_cons_of_mem _ hc)
    have : Go.Lib.trimB l 32 = [] := by
      unfold Go.Lib.trimB Go.Lib.trimRightB Go.Lib.trimLeftB
      rw [hd l.reverse (fun c hc => hall c (List.mem_reverse.1 hc))]
      rfl
    rw [this] at h
    cases h
theorem odd_not {c : UInt8} (h : oddC c = true) : alnum c = false ∧ inB restB c = false := by
  have := byte_all (fun c => !oddC c || (!alnum c && !inB restB c)) (by decide +kernel) c
  simp only [h, Bool.not_true, Bool.false_or, Bool.and_eq_true, Bool.not_eq_true'] at this
  exact this
def plainR (l : List UInt8) (x : Bool) : Bool := if l.any oddC = true then false else (x || l.any fun c => c != 32)
theorem plainR_cons (c : UInt8) (l : List UInt8) (x : Bool) : plainR (c :: l) x = if oddC c = true then false else plainR l (x || (c != 32)) := by
  unfold plainR
  rw [List.any_cons, List.any_cons]
  cases oddC c with
  | true => rfl
  | false => rw [Bool.false_or, if_neg (by decide : ¬ (false = true)), Bool.or_assoc]
theorem plain_exact (a : ByteArray) (ha : a.size ≤ 1099511627776) : ∀ (d i : Nat) (x : Bool), i + d = a.size → Ev (fun k => glazierlaw44_plain.l0 k a x (i : Int)) (plainR (a.data.toList.drop i) x) := by
  intro d
  have hsl := size_list a
  induction d with
  | zero =>
    intro i x hi
    rw [List.drop_eq_nil_of_le (by omega)]
    have e : plainR [] x = x := by simp [plainR]
    rw [e]
    refine Ev.step1 (Ev.now _) (fun k => ?_)
    simp only [glazierlaw44_plain.l0]
    rw [if_neg (by omega)]
  | succ d ih =>
    intro i x hi
    have hlt : i < a.data.toList.length := by omega
    have hi2 := ih (i + 1) (x || (a.data.toList[i] != 32)) (by omega)
    rw [List.drop_eq_getElem_cons hlt, plainR_cons]
    have hbt := bt_nat hlt
    generalize a.data.toList[i] = c at hbt hi2 ⊢
    have hne : ((bt a (i : Int)) != 32) = (c != 32) := by
      rw [hbt, bne, bne]
      congr 1
      rw [Bool.eq_iff_iff, beq_iff_eq, beq_iff_eq]
      exact u8_eq (n := 32) (by decide)
    have hu : (c.toNat : Int) = bt a (i : Int) := hbt.symm
    by_cases hal : alnum c = true
    · have hal2 := of_decide_eq_true hal
      have ho : ¬ oddC c = true := fun h => by rw [(odd_not h).1] at hal; cases hal
      rw [if_neg ho]
      refine Ev.step1 hi2 (fun k => ?_)
      simp only [glazierlaw44_plain.l0]
      rw [if_pos (by omega), if_pos (by omega)]
      simp only [next_eq, w64 (show (-9223372036854775808 : Int) ≤ (i : Int) + 1 by omega) (show (i : Int) + 1 ≤ 9223372036854775807 by omega), hne]
      repeat' split
      all_goals first | rfl | (exfalso; omega)
    · have hal2 : ¬ ((97 ≤ c.toNat ∧ c.toNat ≤ 122) ∨ (65 ≤ c.toNat ∧ c.toNat ≤ 90) ∨ (48 ≤ c.toNat ∧ c.toNat ≤ 57)) := fun h => hal (decide_eq_true h)
      refine Ev.step (f := fun k => (glazierref01_In.f k (c.toNat : Int) restB).bind fun t => if t = true then glazierlaw44_plain.l0 k a (x || (c != 32)) ((i : Int) + 1) else some false) ?_ ?_
      · intro k
        simp only [glazierlaw44_plain.l0]
        rw [if_pos (by omega), if_pos (by omega)]
        simp only [next_eq, w64 (show (-9223372036854775808 : Int) ≤ (i : Int) + 1 by omega) (show (i : Int) + 1 ≤ 9223372036854775807 by omega), hne]
        rw [hu]
        repeat' split
        all_goals first | rfl | (exfalso; omega)
      · refine Ev.bind (In_spec restB (by decide) c) ?_
        by_cases ho : oddC c = true
        · rw [if_pos ho, (odd_not ho).2]
          simp only [Bool.false_eq_true, if_false]
          exact Ev.now _
        · rw [if_neg ho, odd_rest (by simpa using ho) (by simpa using hal)]
          simp only [if_true]
          exact hi2
theorem plainR_V (l : List UInt8) : plainR l false = plainV l := by
  unfold plainR plainV
  cases ho : l.any oddC with
  | true => rfl
  | false =>
    rw [if_neg (by decide : ¬ (false = true)), Bool.false_or, Bool.not_false, Bool.true_and]
    cases ha : l.any (fun c => c != 32) with
    | true => rw [trimB_empty ha]; rfl
    | false =>
      cases he : (Go.Lib.trimB l 32).isEmpty with
      | true => rfl
      | false => rw [trimB_any he] at ha; cases ha
theorem lawPlain_V (a : ByteArray) (ha : a.size ≤ 1099511627776) : Ev (fun k => glazierlaw44_plain.f k a) (plainV a.data.toList) := by
  have hl := plain_exact a ha a.size 0 false (by omega)
  rw [List.drop_zero, plainR_V] at hl
  exact hl
end Go.Proofs.YtljmmhihdcnbaaaDoor.G
/- What glazierref01's Of, Str and Is compute. -/
namespace Go.Proofs.YtljmmhihdcnbaaaDoor.G
open Go.RowKit Go.Proofs.YtljmmhihdcnbaaaDoorW.PrintWords Go.Proofs.YtljmmhihdcnbaaaDoorW.PrintLast Go.Proofs.YtljmmhihdcnbaaaDoorW.PrintMore
set_option linter.unusedVariables false
set_option linter.unusedSimpArgs false

def toC (c : Lc) : S45 := ⟨(c.1.toNat : Int), c.2⟩
/-- The first bytes of t with these origins. -/
def zipO (t : ByteArray) (os : List Int) : List S45 := (t.data.toList.zip os).map toC
theorem zipO_length (t : ByteArray) (os : List Int) (h : os.length ≤ t.size) : (zipO t os).length = os.length := by
  unfold zipO
  rw [List.length_map, List.length_zip, size_list]
  omega
theorem zip_snoc {α β : Type} (o : β) : ∀ (l : List α) (os : List β) (h : os.length < l.length), l.zip (os ++ [o]) = l.zip os ++ [(l[os.length], o)]
  | [], os, h => absurd h (by simp)
  | a :: l, [], h => by simp
  | a :: l, x :: os, h => by
    have := zip_snoc o l os (by simpa using h)
    simp [this]
theorem zipO_snoc (t : ByteArray) (os : List Int) (o : Int) (h : os.length < t.size) : zipO t (os ++ [o]) = zipO t os ++ [⟨bt t (os.length : Int), o⟩] := by
  have hl : os.length < t.data.toList.length := by simpa using h
  unfold zipO
  rw [zip_snoc o _ os hl, List.map_append, bt_nat hl]
  rfl
theorem RefOf_l2 (t : ByteArray) (rs : List S56) (ht : t.size ≤ 1099511627776) : ∀ (d : Nat) (os : List Int), os.length + d = t.size →
    Ev (fun k => glazierref01_Of.l2 k (zipO t os) t rs) (zipO t (os ++ List.replicate d 65536)) := by
  intro d
  induction d with
  | zero =>
    intro os h
    refine Ev.step1 (Ev.now _) (fun k => ?_)
    simp only [glazierref01_Of.l2]
    rw [zipO_length t os (by omega), if_neg (by omega), List.replicate_zero, List.append_nil]
  | succ d ih =>
    intro os h
    have h2 := ih (os ++ [65536]) (by simp; omega)
    rw [List.append_assoc, show [(65536 : Int)] ++ List.replicate d 65536 = List.replicate (d + 1) 65536 from rfl] at h2
    refine Ev.step1 h2 (fun k => ?_)
    simp only [glazierref01_Of.l2]
    rw [zipO_length t os (by omega), if_pos (by omega), if_pos (by omega), if_pos (by omega), zipO_snoc t os _ (by omega)]
theorem RefOf_l1 (t : ByteArray) (rs : List S56) (ht : t.size ≤ 1099511627776) (i : Nat) (hi : i < rs.length) (r : List S45) : ∀ (d j : Nat) (os : List Int), os.length ≤ t.size → min (rs[i].f0 - (j : Int)).toNat (t.size - os.length) = d → j ≤ 1099511627776 → j ≤ os.length →
    Ev (fun k => glazierref01_Of.l0 k (zipO t (os ++ List.replicate d (nr rs[i].f1))) (wrap64 ((i : Int) + 1)) t rs) r →
    Ev (fun k => glazierref01_Of.l1 k (zipO t os) (i : Int) (j : Int) t rs) r := by
  intro d
  induction d with
  | zero =>
    intro j os ho hd hj hjo h
    rw [List.replicate_zero, List.append_nil] at h
    refine Ev.step1 h (fun k => ?_)
    simp only [glazierref01_Of.l1]
    rw [if_pos (by omega), if_pos (by omega), rdT56 hi]
    by_cases h1 : (j : Int) < rs[i].f0
    · rw [if_pos h1, zipO_length t os ho, if_neg (by omega)]
    · rw [if_neg h1]
  | succ d ih =>
    intro j os ho hd hj hjo h
    have h2 := ih (j + 1) (os ++ [nr rs[i].f1]) (by simp; omega) (by simp only [List.length_append, List.length_singleton]; omega) (by omega) (by simp; omega) (by
      rw [List.append_assoc, show [nr rs[i].f1] ++ List.replicate d (nr rs[i].f1) = List.replicate (d + 1) (nr rs[i].f1) from rfl]
      exact h)
    refine Ev.step1 h2 (fun k => ?_)
    simp only [glazierref01_Of.l1]
    rw [if_pos (by omega), if_pos (by omega), rdT56 hi, if_pos (by omega), zipO_length t os ho, if_pos (by omega), if_pos (by omega), refnear_eq, Option.bind_some, if_pos (by omega), zipO_snoc t os _ (by omega), w64 (by omega) (by omega)]
    rfl
theorem RefOf_l0 (t : ByteArray) (rs : List S56) (ht : t.size ≤ 1099511627776) (hr : rs.length ≤ 1099511627776) : ∀ (d i : Nat) (os : List Int), i + d = rs.length → os.length ≤ t.size →
    Ev (fun k => glazierref01_Of.l0 k (zipO t os) (i : Int) t rs) (zipO t (os ++ labO (t.size - os.length) (rs.drop i))) := by
  intro d
  induction d with
  | zero =>
    intro i os hi ho
    rw [List.drop_eq_nil_of_le (by omega)]
    refine Ev.step1 (RefOf_l2 t rs ht (t.size - os.length) os (by omega)) (fun k => ?_)
    simp only [glazierref01_Of.l0]
    rw [if_neg (by omega)]
  | succ d ih =>
    intro i os hi ho
    have hlt : i < rs.length := by omega
    rw [List.drop_eq_getElem_cons hlt, labO]
    refine Ev.step1 (RefOf_l1 t rs ht i hlt _ (min (rs[i].f0 - ((0 : Nat) : Int)).toNat (t.size - os.length)) 0 os ho rfl (by omega) (by omega) ?_) (fun k => ?_)
    · have h2 := ih (i + 1) (os ++ List.replicate (min (rs[i].f0 - ((0 : Nat) : Int)).toNat (t.size - os.length)) (nr rs[i].f1)) (by omega) (by simp; omega)
      rw [List.append_assoc] at h2
      rw [w64 (by omega) (by omega), show (min (max rs[i].f0 0) ((t.size - os.length : Nat) : Int)).toNat = min (rs[i].f0 - ((0 : Nat) : Int)).toNat (t.size - os.length) from by omega]
      rw [List.length_append, List.length_replicate, ← Nat.sub_sub] at h2
      exact h2
    · simp only [glazierref01_Of.l0]
      rw [if_pos (by omega)]
      rfl
theorem RefOf_spec (t : ByteArray) (rs : List S56) (ht : t.size ≤ 1099511627776) (hr : rs.length ≤ 1099511627776) : Ev (fun k => glazierref01_Of.f k t rs) ((La t rs).map toC) := by
  have h := RefOf_l0 t rs ht hr rs.length 0 [] (by omega) (by simp)
  simpa [glazierref01_Of.f, zipO, La] using h

/-! ### Str -/
theorem Str_loop (l : List Lc) (hl : l.length ≤ 1099511627776) (t0 : ByteArray) : ∀ (d i : Nat), i + d = l.length →
    Ev (fun k => glazierref01_Str.l0 k (l.map toC) ((l.take i).map (fun c => (c.1.toNat : Int)) ++ List.replicate d 0) (i : Int) t0 (rle ((l.take i).map (·.2)))) (canon l) := by
  intro d
  induction d with
  | zero =>
    intro i hi
    refine Ev.step1 (Ev.now _) (fun k => ?_)
    simp only [glazierref01_Str.l0]
    rw [List.length_map, if_neg (by omega), show l.take i = l from List.take_of_length_le (by omega), List.replicate_zero, List.append_nil]
    have := strOfNums_map (l.map (·.1))
    rw [List.map_map] at this
    unfold canon
    rw [← this]
    rfl
  | succ d ih =>
    intro i hi
    have hlt : i < l.length := by omega
    have hg : rd_T45 (l.map toC) (i : Int) = toC l[i] := by rw [rdT45 (by simpa using hlt)]; simp
    have h2 := ih (i + 1) (by omega)
    have hrl := rle_length ((l.take i).map (·.2))
    rw [List.length_map, List.length_take] at hrl
    have e1 : (l.take (i + 1)).map (·.2) = (l.take i).map (·.2) ++ [l[i].2] := by rw [List.take_succ_eq_append_getElem hlt, List.map_append]; rfl
    have e2 : (l.take (i + 1)).map (fun c : Lc => (c.1.toNat : Int)) ++ List.replicate d 0 = ((l.take i).map (fun c : Lc => (c.1.toNat : Int)) ++ List.replicate (d + 1) 0).set i (l[i].1.toNat : Int) := by
      rw [List.set_append_right _ _ (by simp; omega), List.take_succ_eq_append_getElem hlt, List.map_append, List.append_assoc]
      congr 1
      rw [List.length_map, List.length_take, Nat.min_eq_left (Nat.le_of_lt hlt), Nat.sub_self, List.replicate_succ]
      rfl
    rw [e1, e2, rle_snoc] at h2
    refine Ev.step1 h2 (fun k => ?_)
    simp only [glazierref01_Str.l0]
    rw [List.length_map, if_pos (by omega), if_pos (by omega), if_pos (by simp; omega), hg, Option.bind_some]
    have hp := put_eq (rle ((l.take i).map (·.2))) 1 l[i].2 (by omega) (fun r hr => by
      have := rle_mem hr
      rw [List.length_map, List.length_take] at this
      omega)
    rcases snoc_cases (rle ((l.take i).map (·.2))) with e | ⟨a, r, e⟩
    · rw [e]
      rw [if_neg (by rw [List.length_nil, w64 (by decide) (by decide)]; decide), if_pos (by simp), putp_nil _ _ (by omega), w64 (by omega) (by omega)]
      rfl
    · rw [e] at hrl ⊢
      rw [List.length_append, List.length_singleton] at hrl
      have hd := (rd_last a r).resolve_right (by omega)
      have hw : wrap64 (((a ++ [r]).length : Int) - 1) = (a.length : Int) := by rw [w64 (by rw [List.length_append, List.length_singleton]; omega) (by rw [List.length_append, List.length_singleton]; omega)]; simp
      have hrm := rle_mem (os := (l.take i).map (·.2)) (r := r) (by rw [e]; simp)
      rw [List.length_map, List.length_take] at hrm
      rw [if_pos (by rw [hw]; omega), if_pos (by rw [hw]; omega), if_pos (by rw [hw]; simp; omega), hd, putp_snoc a r 1 _ (by omega), w64 (x := (i : Int) + 1) (by omega) (by omega)]
      show (if r.f1 = l[i].2 then _ else _) = _
      by_cases e3 : r.f1 = l[i].2
      · rw [if_pos e3, if_pos e3, hw, w64 (x := r.f0 + 1) (by omega) (by omega), show ((a.length : Int).toNat) = a.length from by simp, List.set_append_right _ _ (Nat.le_refl _)]
        simp [e3, toC]
      · rw [if_neg e3, if_neg e3, if_pos (by rw [List.length_append, List.length_singleton]; omega)]
        rfl
theorem Str_spec (l : List Lc) (hl : l.length ≤ 1099511627776) : Ev (fun k => glazierref01_Str.f k (l.map toC)) (canon l) := by
  have h := Str_loop l hl ⟨#[]⟩ l.length 0 (by omega)
  refine Ev.eq h (fun k => ?_)
  unfold glazierref01_Str.f
  rw [if_pos (by omega), if_pos (by rw [List.length_map]; omega)]
  simp [rle]

/-! ### Is -/
theorem Is_loop (t u : ByteArray) (l : List S56) (hl : l.length ≤ 1099511627776) : ∀ (d j : Nat), j + d = l.length → Ev (fun k => glazierref01_Is.l0 k (j : Int) t l u l) true := by
  intro d
  induction d with
  | zero =>
    intro j hj
    refine Ev.step1 (Ev.now _) (fun k => ?_)
    simp only [glazierref01_Is.l0]
    rw [if_neg (by omega)]
  | succ d ih =>
    intro j hj
    refine Ev.step1 (ih (j + 1) (by omega)) (fun k => ?_)
    simp only [glazierref01_Is.l0]
    rw [if_pos (by omega), if_pos (by omega), if_pos (by omega), if_neg (by simp), w64 (by omega) (by omega)]
    rfl
theorem Is_spec (l : List Lc) (hl : l.length ≤ 1099511627776) : Ev (fun k => glazierref01_Is.f k (canon l).1 (canon l).2 (l.map toC)) true := by
  unfold glazierref01_Is.f
  refine Ev.bind (Str_spec l hl) ?_
  simp only [if_pos]
  have hc := canon_runs l
  refine Ev.step1 (Is_loop (canon l).1 (canon l).1 (canon l).2 (by omega) (canon l).2.length 0 (by omega)) (fun k => ?_)
  simp only [glazierref01_Is.j0]
  rw [if_neg (by simp)]
  rfl
end Go.Proofs.YtljmmhihdcnbaaaDoor.G
/- The law's own parts are Parse's; attributes compared with themselves. -/
namespace Go.Proofs.YtljmmhihdcnbaaaDoor.G
open Go.RowKit Go.Proofs.YtljmmhihdcnbaaaDoorW.PrintWords Go.Proofs.YtljmmhihdcnbaaaDoorW.PrintLast Go.Proofs.YtljmmhihdcnbaaaDoorW.PrintMore
set_option linter.unusedVariables false
set_option linter.unusedSimpArgs false
theorem Parts_loop (Cs : List (List Lc)) (hC : ∀ X ∈ Cs, Okl X ∧ X.length ≤ 1099511627775) (hl : Cs.length ≤ 1099511627777) : ∀ (d i : Nat) (acc : List Dc), i + d = Cs.length → acc.length ≤ i → Ev (fun k => glazierlaw44_parts.l0 k (acc.map mkD) (Cs.map mkS) (i : Int)) ((acc ++ (Cs.drop i).filterMap declL).map mkD) := by
  intro d
  have hm : (Cs.map mkS).length = Cs.length := List.length_map _
  induction d with
  | zero =>
    intro i acc hi ha
    rw [List.drop_eq_nil_of_le (by omega), List.filterMap_nil, List.append_nil]
    refine Ev.step1 (Ev.now _) (fun k => ?_)
    simp only [glazierlaw44_parts.l0]
    rw [if_neg (by omega)]
  | succ d ih =>
    intro i acc hi ha
    have hlt : i < Cs.length := by omega
    obtain ⟨hX, hX2⟩ := hC Cs[i] (List.getElem_mem hlt)
    have e : rd_T24 (Cs.map mkS) (i : Int) = mkS Cs[i] := by rw [rdT24 (by omega)]; simp
    have eI : seek_Index.f (mkS Cs[i]).f0 (mkS Cs[i]).f1 (⟨#[58]⟩ : ByteArray) 0 = some (Go.Lib.indexByte (mkS Cs[i]).f0.data.toList 58) := Index0 _ _ 58 (by rw [show (mkS Cs[i]).f0 = (canon Cs[i]).1 from rfl, canon_size]; omega)
    rw [mkS_bytes, indexByte_at] at eI
    rw [List.drop_eq_getElem_cons hlt]
    by_cases h : atL 58 Cs[i] < Cs[i].length
    · rw [if_pos h] at eI
      have hd : declL Cs[i] = some (lowL (trimL (inB ws) (aheadL 58 Cs[i])), trimL (inB ws) (behindL 58 Cs[i])) := if_pos h
      have h2 := ih (i + 1) (acc ++ [(lowL (trimL (inB ws) (aheadL 58 Cs[i])), trimL (inB ws) (behindL 58 Cs[i]))]) (by omega) (by simp; omega)
      rw [List.append_assoc, List.singleton_append, mkD_snoc] at h2
      rw [List.filterMap_cons_some hd]
      have ha1 : (aheadL 58 Cs[i]).length ≤ 1099511627775 := by rw [aheadL_length]; omega
      have hb1 := behindL_length 58 Cs[i]
      have ht1 := trimL_length (inB ws) (aheadL 58 Cs[i])
      refine Ev.step (f := ?ff) ?hh ?kk
      case hh =>
        intro k
        simp only [glazierlaw44_parts.l0]
        rw [if_pos (by omega), if_pos (by omega), e, eI, Option.bind_some, if_pos (by omega), w64 (by omega) (by omega), w64 (by omega) (by omega)]
      case kk =>
        have c1 := Cut_canon hX (by omega) 0 (atL 58 Cs[i] : Int)
        have c2 := Cut_canon hX (by omega) ((atL 58 Cs[i] : Int) + 1) (Cs[i].length : Int)
        rw [cut_ahead h] at c1
        rw [cut_behind h] at c2
        refine Ev.bind c1 ?_
        have es : ((mkS Cs[i]).f0.size : Int) = (Cs[i].length : Int) := by rw [show (mkS Cs[i]).f0 = (canon Cs[i]).1 from rfl, canon_size]
        simp only [es]
        refine Ev.bind (Trim_canon (aheadL_ok hX) (by omega)) ?_
        refine Ev.bind (Lower_canon (trimL_ok (aheadL_ok hX)) (by omega)) ?_
        refine Ev.bind c2 ?_
        refine Ev.bind (Trim_canon (behindL_ok hX) (by omega)) ?_
        refine Ev.eq h2 (fun k => ?_)
        rw [if_pos (by rw [List.length_map]; omega)]
        rfl
    · rw [if_neg h] at eI
      have h2 := ih (i + 1) acc (by omega) (by omega)
      have hd : declL Cs[i] = none := if_neg h
      rw [List.filterMap_cons_none hd]
      refine Ev.step1 h2 (fun k => ?_)
      simp only [glazierlaw44_parts.l0]
      rw [if_pos (by omega), if_pos (by omega), e, eI, Option.bind_some, if_neg (by omega), w64 (by omega) (by omega)]
      rfl
theorem Parts_spec (t : ByteArray) (rs : List S56) (ht : t.size ≤ 1099511627775) (hr : rs.length ≤ 1099511627776) : Ev (fun k => glazierlaw44_parts.f k t rs) ((parseL (La t rs)).map mkD) := by
  have hn := La_length t rs
  unfold glazierlaw44_parts.f
  refine Ev.bind (Split_spec t rs 59 (by omega) hr) ?_
  have h1 := cutsA_length (qB (bytesA [59])) (La t rs) []
  have h2 : (La t rs).countP (qB (bytesA [59])) ≤ (La t rs).length := List.countP_le_length
  have h := Parts_loop (cutsA (qB (bytesA [59])) [] (La t rs)) (fun X hX => ⟨cutsA_ok (La_ok t rs) X hX, by have := cutsA_len hX; omega⟩) (by omega) _ 0 [] (Nat.zero_add _) (by simp)
  rw [List.drop_zero, List.nil_append] at h
  exact h
/-! ### compared -/
theorem RefSame_loop (l : List S45) (hl : l.length ≤ 1099511627776) : ∀ (d i : Nat), i + d = l.length → Ev (fun k => glazierref01_Same.l0 k l l (i : Int)) true := by
  intro d
  induction d with
  | zero =>
    intro i hi
    refine Ev.step1 (Ev.now _) (fun k => ?_)
    simp only [glazierref01_Same.l0]
    rw [if_neg (by omega)]
  | succ d ih =>
    intro i hi
    refine Ev.step1 (ih (i + 1) (by omega)) (fun k => ?_)
    simp only [glazierref01_Same.l0]
    rw [if_pos (by omega), if_pos (by omega), if_pos (by omega), if_neg (by simp), w64 (by omega) (by omega)]
    rfl
theorem Str_same {l : List Lc} (h : Okl l) (hl : l.length ≤ 1099511627776) : Ev (fun k => glazierplain_Str.f k (canon l).1 (canon l).2 (canon l).1 (canon l).2) true := by
  have hc := canon_runs l
  have hO := RefOf_spec (canon l).1 (canon l).2 (by rw [canon_size]; omega) (by omega)
  rw [La_canon h] at hO
  unfold glazierplain_Str.f
  refine Ev.bind hO (Ev.bind hO (Ev.bind ?_ (Ev.now _)))
  unfold glazierref01_Same.f
  simp only [↓reduceIte]
  exact RefSame_loop _ (by rw [List.length_map]; omega) _ 0 (Nat.zero_add _)
theorem Attrs_same (ds : List Dc) (hd : ∀ d ∈ ds, Okd d ∧ d.1.length ≤ 1099511627776 ∧ d.2.length ≤ 1099511627776) (hl : ds.length ≤ 1099511627776) : Ev (fun k => glazierplain_Attrs.f k (ds.map mkD) (ds.map mkD)) true := by
  have hm : (ds.map mkD).length = ds.length := List.length_map _
  have loop : ∀ (d i : Nat), i + d = ds.length → Ev (fun k => glazierplain_Attrs.l0 k (ds.map mkD) (ds.map mkD) (i : Int)) true := by
    intro d
    induction d with
    | zero =>
      intro i hi
      refine Ev.step1 (Ev.now _) (fun k => ?_)
      simp only [glazierplain_Attrs.l0]
      rw [if_neg (by omega)]
    | succ d ih =>
      intro i hi
      have hlt : i < ds.length := by omega
      obtain ⟨⟨h1, h2⟩, h3, h4⟩ := hd ds[i] (List.getElem_mem hlt)
      have e : rd_T32 (ds.map mkD) (i : Int) = mkD ds[i] := by rw [rdT32 (by omega)]; simp
      refine Ev.step (f := ?ff) ?hh ?kk
      case hh =>
        intro k
        simp only [glazierplain_Attrs.l0]
        rw [if_pos (by omega), if_pos (by omega), if_pos (by omega), e, w64 (by omega) (by omega)]
      case kk =>
        refine Ev.bind (Str_same h1 h3) ?_
        simp only [if_true]
        refine Ev.bind (Str_same h2 h4) ?_
        simp only [if_true]
        exact ih (i + 1) (by omega)
  unfold glazierplain_Attrs.f
  simp only [↓reduceIte]
  exact loop _ 0 (Nat.zero_add _)
theorem RefCat (a b : List S45) (h : a.length + b.length < 8796093022208) : glazierref01_Cat.f a b = some (a ++ b) := by
  unfold glazierref01_Cat.f
  rw [Option.bind_some, if_pos (by simp; omega), Option.bind_some, if_pos (by simp; omega)]
  rfl
end Go.Proofs.YtljmmhihdcnbaaaDoor.G
/- StyleTells answers true. -/
namespace Go.Proofs.YtljmmhihdcnbaaaDoor.G
open Go.RowKit Go.Proofs.YtljmmhihdcnbaaaDoorW.PrintWords Go.Proofs.YtljmmhihdcnbaaaDoorW.PrintLast Go.Proofs.YtljmmhihdcnbaaaDoorW.PrintMore
set_option linter.unusedVariables false
set_option linter.unusedSimpArgs false
theorem Tells_alive : Ev (fun k => glazierlaw44_alive.f k) true := Ev.of (fun k => glazierlaw44_alive.mono k) (k := 40) (by decide +kernel)
theorem RefOf_canon {l : List Lc} (h : Okl l) (hl : l.length ≤ 1099511627776) : Ev (fun k => glazierref01_Of.f k (canon l).1 (canon l).2) (l.map toC) := by
  have hc := canon_runs l
  have hO := RefOf_spec (canon l).1 (canon l).2 (by rw [canon_size]; omega) (by omega)
  rwa [La_canon h] at hO
def laterX (n : List Lc) (ds : List Dc) : Bool := ds.any fun e => (bsL e.1 == bsL n) && (pureV e.1 && plainV (bsL e.2))
theorem laterX_cons (n : List Lc) (e : Dc) (ds : List Dc) : laterX n (e :: ds) = (((bsL e.1 == bsL n) && (pureV e.1 && plainV (bsL e.2))) || laterX n ds) := rfl
section
variable (ds : List Dc) (hd : ∀ d ∈ ds, Okd d ∧ d.1.length ≤ 1099511627776 ∧ d.2.length ≤ 1099511627776) (hl : ds.length ≤ 1099511627776) (x1 x2 t : ByteArray) (rs : List S56) (r : Bool)
def tailT (ds : List Dc) (x1 x2 t : ByteArray) (rs : List S56) (x8 : List S45) (x9 : Int) (i : Nat) (k : Nat) : Option Bool :=
  if x9 > 0 then (if x8.length < 8796093022208 then glazierlaw44_StyleTells.j4 k x1 x2 (ds.map mkD) (x8 ++ [(⟨59, 0⟩ : S45)]) x9 (i : Int) t rs else none) else glazierlaw44_StyleTells.j4 k x1 x2 (ds.map mkD) x8 x9 (i : Int) t rs
include hd hl
theorem Tells_inner (x8 : List S45) (x9 : Int) (i : Nat) (hi : i < ds.length) : ∀ (d j : Nat) (x11 : Bool), j + d = ds.length →
    ((x11 && !laterX ds[i].1 (ds.drop j)) = true → Ev (fun k => tailT ds x1 x2 t rs x8 x9 i k) r) → ((x11 && !laterX ds[i].1 (ds.drop j)) = false → Ev (fun k => glazierlaw44_StyleTells.l0 k x1 x2 (ds.map mkD) x8 x9 (wrap64 ((i : Int) + 1)) t rs) r) →
    Ev (fun k => glazierlaw44_StyleTells.l1 k x1 x2 (ds.map mkD) x8 x9 (i : Int) x11 (j : Int) t rs) r := by
  have hm : (ds.map mkD).length = ds.length := List.length_map _
  have ei : rd_T32 (ds.map mkD) (i : Int) = mkD ds[i] := by rw [rdT32 (by omega)]; simp
  intro d
  induction d with
  | zero =>
    intro j x11 hj hT hB
    rw [List.drop_eq_nil_of_le (by omega), show laterX ds[i].1 [] = false from rfl, Bool.not_false, Bool.and_true] at hT hB
    refine Ev.step1 (f := fun k => glazierlaw44_StyleTells.j3 k x1 x2 (ds.map mkD) x8 x9 (i : Int) x11 (j : Int) false t rs) ?_ (fun k => by simp only [glazierlaw44_StyleTells.l1]; rw [if_neg (by omega)])
    cases x11 with
    | true => exact Ev.step1 (hT rfl) (fun k => by simp only [glazierlaw44_StyleTells.j3, Bool.false_eq_true, if_false, if_true]; rfl)
    | false => exact Ev.step1 (hB rfl) (fun k => by simp only [glazierlaw44_StyleTells.j3, Bool.false_eq_true, if_false])
  | succ d ih =>
    intro j x11 hj hT hB
    have hjl : j < ds.length := by omega
    have ej : rd_T32 (ds.map mkD) (j : Int) = mkD ds[j] := by rw [rdT32 (by omega)]; simp
    obtain ⟨⟨h1, h2⟩, h3, h4⟩ := hd ds[j] (List.getElem_mem hjl)
    rw [List.drop_eq_getElem_cons hjl, laterX_cons] at hT hB
    refine Ev.step1 (f := fun k => glazierlaw44_StyleTells.j3 k x1 x2 (ds.map mkD) x8 x9 (i : Int) x11 (j : Int) x11 t rs) ?_ (fun k => by simp only [glazierlaw44_StyleTells.l1]; rw [if_pos (by omega)])
    cases x11 with
    | false => exact Ev.step1 (hB rfl) (fun k => by simp only [glazierlaw44_StyleTells.j3, Bool.false_eq_true, if_false])
    | true =>
      rw [Bool.true_and] at hT hB
      by_cases hs : bsL ds[j].1 = bsL ds[i].1
      · have hs1 : (bsL ds[j].1 == bsL ds[i].1) = true := beq_iff_eq.2 hs
        rw [hs1, Bool.true_and] at hT hB
        refine Ev.step (f := ?ff) ?hh ?kk
        case hh =>
          intro k
          simp only [glazierlaw44_StyleTells.j3, if_true, ej, ei, ByteArray.toList_eq, show (mkD ds[j]).f0.f0.data.toList = bsL ds[j].1 from mkS_bsL _, show (mkD ds[i]).f0.f0.data.toList = bsL ds[i].1 from mkS_bsL _]
          rw [if_pos (by omega), if_pos (by omega), if_pos (by omega), if_pos (by omega), if_pos hs, w64 (x := (j : Int) + 1) (by omega) (by omega)]
        case kk =>
          refine Ev.bind (Pure_canon h1 h3) ?_
          by_cases hp : pureV ds[j].1 = true
          · simp only [if_pos hp]
            rw [hp, Bool.true_and] at hT hB
            refine Ev.bind (lawPlain_V (mkD ds[j]).f1.f0 (by rw [show (mkD ds[j]).f1.f0 = (canon ds[j].2).1 from rfl, canon_size]; omega)) ?_
            rw [show (mkD ds[j]).f1.f0.data.toList = bsL ds[j].2 from mkS_bsL _]
            exact ih (j + 1) _ (by omega) (by rw [← Bool.not_or]; exact hT) (by rw [← Bool.not_or]; exact hB)
          · simp only [if_neg hp]
            have hp1 : pureV ds[j].1 = false := by simpa using hp
            rw [hp1, Bool.false_and, Bool.false_or] at hT hB
            exact ih (j + 1) _ (by omega) (by rw [Bool.not_false, Bool.true_and]; exact hT) (by rw [Bool.not_false, Bool.true_and]; exact hB)
      · have hs1 : (bsL ds[j].1 == bsL ds[i].1) = false := beq_eq_false_iff_ne.2 hs
        rw [hs1, Bool.false_and, Bool.false_or] at hT hB
        refine Ev.step1 (ih (j + 1) (!false) (by omega) (by rw [Bool.not_false, Bool.true_and]; exact hT) (by rw [Bool.not_false, Bool.true_and]; exact hB)) (fun k => ?_)
        simp only [glazierlaw44_StyleTells.j3, if_true, ej, ei, ByteArray.toList_eq, show (mkD ds[j]).f0.f0.data.toList = bsL ds[j].1 from mkS_bsL _, show (mkD ds[i]).f0.f0.data.toList = bsL ds[i].1 from mkS_bsL _]
        rw [if_pos (by omega), if_pos (by omega), if_pos (by omega), if_pos (by omega), if_neg hs, w64 (x := (j : Int) + 1) (by omega) (by omega)]
        rfl
end
theorem Tells_j4 (ds : List Dc) (hd : ∀ d ∈ ds, Okd d ∧ d.1.length ≤ 1099511627776 ∧ d.2.length ≤ 1099511627776) (x1 x2 t : ByteArray) (rs : List S56) (r : Bool) (hl : ds.length ≤ 1099511627776) (w : List Lc) (hw : w.length ≤ 1099511627776) (n : Int) (i : Nat) (hi : i < ds.length)
    (h : Ev (fun k => glazierlaw44_StyleTells.l0 k x1 x2 (ds.map mkD) ((w ++ lineL ds[i]).map toC) (wrap64 (n + 1)) (wrap64 ((i : Int) + 1)) t rs) r) : Ev (fun k => glazierlaw44_StyleTells.j4 k x1 x2 (ds.map mkD) (w.map toC) n (i : Int) t rs) r := by
  have hm : (ds.map mkD).length = ds.length := List.length_map _
  have ei : rd_T32 (ds.map mkD) (i : Int) = mkD ds[i] := by rw [rdT32 (by omega)]; simp
  obtain ⟨⟨h1, h2⟩, h3, h4⟩ := hd ds[i] (List.getElem_mem hi)
  have e1 : (w.map toC ++ ds[i].1.map toC) ++ ([(⟨58, 0⟩ : S45)] ++ ds[i].2.map toC) = (w ++ lineL ds[i]).map toC := by
    rw [lineL_eq]
    simp [toC]
  refine Ev.step (f := ?ff) ?hh ?kk
  case hh =>
    intro k
    simp only [glazierlaw44_StyleTells.j4, ei]
    rw [if_pos (by omega), if_pos (by omega)]
  case kk =>
    refine Ev.bind (RefOf_canon h1 h3) ?_
    simp only [RefCat (w.map toC) (ds[i].1.map toC) (by rw [List.length_map, List.length_map]; omega), Option.bind_some]
    refine Ev.bind (RefOf_canon h2 h4) ?_
    simp only [RefCat [(⟨58, 0⟩ : S45)] (ds[i].2.map toC) (by rw [List.length_map]; simp only [List.length_cons, List.length_nil]; omega), Option.bind_some, RefCat (w.map toC ++ ds[i].1.map toC) ([(⟨58, 0⟩ : S45)] ++ ds[i].2.map toC) (by simp only [List.length_append, List.length_map, List.length_cons, List.length_nil]; omega), e1]
    exact h
theorem w64n (i : Nat) (h : i < 4000000000) : wrap64 ((i : Int) + 1) = ((i + 1 : Nat) : Int) := by rw [w64 (by omega) (by omega)]; rfl
theorem Tells_loop (ds : List Dc) (hd : ∀ d ∈ ds, Okd d ∧ d.1.length ≤ 1099511627776 ∧ d.2.length ≤ 1099511627776) (hl : ds.length ≤ 1000000000) (hs : sumD ds ≤ 1000000000) (x1 x2 t : ByteArray) (rs : List S56) (hx2 : x2.size ≤ 1048576)
    (hP : Ev (fun k => style_Parse.f k t rs) (ds.map mkD)) (hC : Ev (fun k => style_Clean.f k t rs) (canon (joinA [(59, 0)] ((cleanD ds).map lineL)))) : ∀ (d i : Nat) (acc : List Dc), i + d = ds.length → acc.length ≤ i → cleanD ds = acc ++ selD (ds.drop i) →
    Ev (fun k => glazierlaw44_StyleTells.l0 k x1 x2 (ds.map mkD) ((joinA [(59, 0)] (acc.map lineL)).map toC) (acc.length : Int) (i : Int) t rs) true := by
  have hm : (ds.map mkD).length = ds.length := List.length_map _
  have hcs := foldD_sum ds []
  rw [show sumD [] = 0 from rfl, List.length_nil] at hcs
  have hcs1 : sumD (cleanD ds) ≤ sumD ds := by unfold cleanD; omega
  have hcs2 : (cleanD ds).length ≤ ds.length := by unfold cleanD; omega
  intro d
  induction d with
  | zero =>
    intro i acc hi ha he
    rw [List.drop_eq_nil_of_le (by omega), show selD [] = [] from rfl, List.append_nil] at he
    have hj := lines_length (cleanD ds)
    refine Ev.step (f := ?ff) ?hh ?kk
    case hh =>
      intro k
      simp only [glazierlaw44_StyleTells.l0]
      rw [if_neg (by omega)]
    case kk =>
      refine Ev.bind hP ?_
      refine Ev.bind (Attrs_same ds hd (by omega)) ?_
      simp only [if_true]
      refine Ev.bind hC ?_
      rw [← he]
      refine Ev.bind (Is_spec _ (by omega)) ?_
      have hpl : style_Plain.f x2 = some (plainV x2.data.toList) := by unfold style_Plain.f; rw [if_pos (by omega)]
      simp only [if_true, Known_spec, lawKnown_spec, Option.bind_some, beq_self_eq_true, hpl]
      refine Ev.bind (lawPlain_V x2 (by omega)) ?_
      rw [beq_self_eq_true]
      exact Ev.now _
  | succ d ih =>
    intro i acc hi ha he
    have hlt : i < ds.length := by omega
    have ei : rd_T32 (ds.map mkD) (i : Int) = mkD ds[i] := by rw [rdT32 (by omega)]; simp
    obtain ⟨⟨h1, h2⟩, h3, h4⟩ := hd ds[i] (List.getElem_mem hlt)
    rw [List.drop_eq_getElem_cons hlt, selD_cons] at he
    have HW1 := Aside0.mk (w64n i (by omega))
    have hB : (okD ds[i] && !laterD ds[i].1 (ds.drop (i + 1))) = false → Ev (fun k => glazierlaw44_StyleTells.l0 k x1 x2 (ds.map mkD) ((joinA [(59, 0)] (acc.map lineL)).map toC) (acc.length : Int) (wrap64 ((i : Int) + 1)) t rs) true := by
      intro hf
      rw [hf, if_neg (by decide)] at he
      rw [HW1.out]
      exact ih (i + 1) acc (by omega) (by omega) he
    have hT : (okD ds[i] && !laterD ds[i].1 (ds.drop (i + 1))) = true → Ev (fun k => tailT ds x1 x2 t rs ((joinA [(59, 0)] (acc.map lineL)).map toC) (acc.length : Int) i k) true := by
      intro hf
      rw [hf, if_pos rfl] at he
      have he2 : cleanD ds = (acc ++ [ds[i]]) ++ selD (ds.drop (i + 1)) := by rw [he, List.append_assoc]; rfl
      have hsz : sumD acc ≤ sumD ds ∧ acc.length ≤ ds.length := by
        have a1 := congrArg sumD he2
        have a2 := congrArg List.length he2
        rw [sumD_app, sumD_app] at a1
        rw [List.length_append, List.length_append] at a2
        omega
      have hjl := lines_length acc
      have hn := ih (i + 1) (acc ++ [ds[i]]) (by omega) (by rw [List.length_append, List.length_singleton]; omega) he2
      rw [List.length_append, List.length_singleton, List.map_append, List.map_singleton] at hn
      have HW2 := Aside0.mk (w64n acc.length (by omega))
      unfold tailT
      cases hacc : acc with
      | nil =>
        subst hacc
        simp only [List.length_nil, List.map_nil]
        have hj := Tells_j4 ds hd x1 x2 t rs true (by omega) [] (by simp) 0 i hlt (by rw [HW1.out, List.nil_append, show wrap64 ((0 : Int) + 1) = ((([] : List Dc).length + 1 : Nat) : Int) from HW2.out]; exact hn)
        refine Ev.eq hj (fun k => ?_)
        rw [if_neg (by decide)]
        rfl
      | cons y ys =>
        rw [← hacc]
        have hne : acc.map lineL ≠ [] := by rw [hacc]; simp
        have hpos : 0 < acc.length := by rw [hacc]; simp
        rw [joinA_snoc _ _ _ hne] at hn
        have hj := Tells_j4 ds hd x1 x2 t rs true (by omega) (joinA [(59, 0)] (acc.map lineL) ++ [(59, 0)]) (by rw [List.length_append, List.length_singleton]; omega) (acc.length : Int) i hlt (by rw [HW1.out, HW2.out]; exact hn)
        refine Ev.eq hj (fun k => ?_)
        rw [if_pos (by omega), if_pos (by rw [List.length_map]; omega), List.map_append]
        rfl
    have hI := fun x11 => Tells_inner ds hd (by omega) x1 x2 t rs true ((joinA [(59, 0)] (acc.map lineL)).map toC) (acc.length : Int) i hlt d (i + 1) x11 (by omega)
    have hJ : ∀ x11, (x11 && !laterX ds[i].1 (ds.drop (i + 1))) = (okD ds[i] && !laterD ds[i].1 (ds.drop (i + 1))) → Ev (fun k => glazierlaw44_StyleTells.j1 k x1 x2 (ds.map mkD) ((joinA [(59, 0)] (acc.map lineL)).map toC) (acc.length : Int) (i : Int) x11 t rs) true := by
      intro x11 hx
      refine Ev.step1 (hI x11 (fun h => hT (hx.symm.trans h)) (fun h => hB (hx.symm.trans h))) (fun k => ?_)
      simp only [glazierlaw44_StyleTells.j1]
      rw [HW1.out]
    refine Ev.step (f := ?ff2) ?hh2 ?kk2
    case hh2 =>
      intro k
      simp only [glazierlaw44_StyleTells.l0]
      rw [if_pos (by omega), if_pos (by omega), ei, lawKnown_spec, Option.bind_some, show (mkD ds[i]).f0.f0.data.toList = bsL ds[i].1 from mkS_bsL _]
    case kk2 =>
      by_cases hk : knownV (bsL ds[i].1) = true
      · simp only [if_pos hk]
        refine Ev.bind (Pure_canon h1 h3) ?_
        by_cases hp : pureV ds[i].1 = true
        · simp only [if_pos hp]
          refine Ev.bind (lawPlain_V (mkD ds[i]).f1.f0 (by rw [show (mkD ds[i]).f1.f0 = (canon ds[i].2).1 from rfl, canon_size]; omega)) ?_
          rw [show (mkD ds[i]).f1.f0.data.toList = bsL ds[i].2 from mkS_bsL _]
          refine hJ _ ?_
          rw [later_known hk]
          unfold okD laterX
          rw [hk, hp, Bool.true_and, Bool.true_and]
        · simp only [if_neg hp]
          refine hJ false ?_
          have hp1 : pureV ds[i].1 = false := by simpa using hp
          unfold okD
          simp only [hp1, Bool.false_and, Bool.and_false]
      · simp only [if_neg hk]
        refine hJ false ?_
        have hk1 : knownV (bsL ds[i].1) = false := by simpa using hk
        unfold okD
        rw [hk1, Bool.false_and, Bool.false_and, Bool.false_and]
theorem StyleTells_spec (t : ByteArray) (rs : List S56) (x1 x2 : ByteArray) (ht : t.size ≤ 1048576) (hr : rs.length ≤ 1048576) (hx2 : x2.size ≤ 1048576) : Ev (fun k => glazierlaw44_StyleTells.f k t rs x1 x2) true := by
  have hn := La_length t rs
  have h1 := parseL_sum (La t rs)
  have h2 := parseL_num (La t rs)
  unfold glazierlaw44_StyleTells.f
  refine Ev.bind Tells_alive ?_
  simp only [if_true]
  refine Ev.bind (Parts_spec t rs (by omega) (by omega)) ?_
  have hd : ∀ d ∈ parseL (La t rs), Okd d ∧ d.1.length ≤ 1099511627776 ∧ d.2.length ≤ 1099511627776 := fun d hd => by
    have hz := szD_sum hd
    unfold szD at hz
    exact ⟨parseL_ok (La_ok t rs) hd, by omega, by omega⟩
  exact Tells_loop (parseL (La t rs)) hd (by omega) (by omega) x1 x2 t rs hx2 (Parse_spec t rs (by omega) (by omega)) (Clean_spec t rs (by omega) (by omega)) _ 0 [] (Nat.zero_add _) (by simp) (by rw [cleanD_sel]; rfl)
theorem StyleTells_pure (t : ByteArray) (rs : List S56) (x1 x2 : ByteArray) (ht : t.size ≤ 1048576) (hr : rs.length ≤ 1048576) (hx1 : x1.size ≤ 1048576) (hx2 : x2.size ≤ 1048576) : ∃ k, glazierlaw44_StyleTells.f k t rs x1 x2 = some true := (StyleTells_spec t rs x1 x2 ht hr hx2).rounds
end Go.Proofs.YtljmmhihdcnbaaaDoor.G
