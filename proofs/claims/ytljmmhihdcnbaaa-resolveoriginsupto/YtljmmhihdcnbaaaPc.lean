/- What the functions of mark and glazierref01 compute, as functions on labelled texts. -/
import Derived.Test.YtljmmhihdcnbaaaPb
import Derived.Test.YtljmmhihdcnbaaaG17
import Derived.Test.YtljmmhihdcnbaaaG7
import Derived.Test.YtljmmhihdcnbaaaG19
import Derived.Test.YtljmmhihdcnbaaaG4
namespace Go.Proofs.Ytljmmhihdcnbaaa.G
open Go.RowKit Go.Proofs.YtljmmhihdcnbaaaW.PrintWords Go.Proofs.YtljmmhihdcnbaaaW.PrintLast Go.Proofs.YtljmmhihdcnbaaaW.PrintMore
set_option linter.unusedVariables false
set_option linter.unusedSimpArgs false

def worst (os : List Int) : Int := os.foldl max 0
theorem foldl_max_rep (o : Int) : ∀ (n : Nat) (a : Int), 0 < n → (List.replicate n o).foldl max a = max a o
  | 0, a, h => absurd h (by omega)
  | 1, a, _ => rfl
  | n + 2, a, _ => by
    rw [List.replicate_succ, List.foldl_cons, foldl_max_rep o (n + 1) _ (by omega)]
    omega
theorem foldl_max_dec : ∀ (l : List S85) (a : Int), Full l → (l.map (·.f1)).foldl max a = (dec l).foldl max a
  | [], a, _ => rfl
  | r :: l, a, h => by
    have h1 := h r (by simp)
    have e : dec (r :: l) = List.replicate r.f0.toNat r.f1 ++ dec l := by simp [dec]
    rw [e, List.foldl_append, foldl_max_rep _ _ _ (by omega), List.map_cons, List.foldl_cons, foldl_max_dec l _ (fun x hx => h x (by simp [hx]))]
theorem rdT85 {l : List S85} {i : Nat} (h : i < l.length) : rd_T85 l (i : Int) = l[i] := by simp [rd_T85, h]
theorem rdT24 {l : List S24} {i : Nat} (h : i < l.length) : rd_T24 l (i : Int) = l[i] := by simp [rd_T24, h]
theorem Worst_loop (l : List S85) (hl : l.length ≤ 1099511627776) : ∀ (d i : Nat) (a : Int), i + d = l.length →
    Ev (fun k => mark_Worst.l0 k a l (l.length : Int) (i : Int)) (((l.drop i).map (·.f1)).foldl max a) := by
  intro d
  induction d with
  | zero =>
    intro i a hi
    refine Ev.step1 (Ev.now _) (fun k => ?_)
    simp only [mark_Worst.l0]
    rw [if_neg (by omega), List.drop_eq_nil_of_le (by omega)]
    rfl
  | succ d ih =>
    intro i a hi
    have hlt : i < l.length := by omega
    rw [List.drop_eq_getElem_cons hlt, List.map_cons, List.foldl_cons]
    refine Ev.step1 (ih (i + 1) (max a l[i].f1) (by omega)) (fun k => ?_)
    simp only [mark_Worst.l0]
    rw [if_pos (by omega), if_pos (by omega), if_pos (by omega), rdT85 hlt, mx_eq, w64 (by omega) (by omega)]
    rfl
theorem Worst_spec (t : ByteArray) (rs : List S85) (ht : t.size ≤ 1099511627776) (hr : rs.length ≤ 1099511627776) : Ev (fun k => mark_Worst.f k t rs) (worst (labO t.size rs)) := by
  unfold mark_Worst.f
  refine Ev.bind (Fix_spec t rs ht hr) ?_
  have hc := canon_runs (La t rs)
  rw [La_length] at hc
  have h := Worst_loop (canon (La t rs)).2 (by omega) (canon (La t rs)).2.length 0 0 (by omega)
  rw [List.drop_zero, foldl_max_dec (canon (La t rs)).2 0 (rle_full _)] at h
  have e : (dec (canon (La t rs)).2) = labO t.size rs := by rw [canon_La]; exact dec_rle _
  rw [e] at h
  exact h

/-! ### Of -/
theorem rle_replicate (n : Nat) (o : Int) : rle (List.replicate n o) = putp [] (n : Int) o := by
  have := rle_rep [] o n
  simpa [rle] using this
def allO (t : List UInt8) (o : Int) : List Lc := t.map fun b => (b, nr o)
theorem allO_ok (t : List UInt8) (o : Int) : Okl (allO t o) := by
  intro c hc
  obtain ⟨b, _, rfl⟩ := List.mem_map.1 hc
  exact nr_range o
theorem Of_spec (t : ByteArray) (o : Int) (ht : t.size ≤ 1099511627776) : mark_Of.f t o = some (canon (allO t.data.toList o)) := by
  unfold mark_Of.f
  rw [near_eq, Option.bind_some, put_eq [] _ _ (by simp) (by simp), Option.bind_some]
  congr 1
  unfold canon allO
  rw [List.map_map, List.map_map]
  have e1 : t.data.toList.map ((fun c : Lc => c.1) ∘ fun b => (b, nr o)) = t.data.toList := by
    have : ((fun c : Lc => c.1) ∘ fun b => (b, nr o)) = id := rfl
    rw [this, List.map_id]
  have e2 : t.data.toList.map ((fun c : Lc => c.2) ∘ fun b => (b, nr o)) = List.replicate t.size (nr o) := by
    have : ((fun c : Lc => c.2) ∘ fun b => (b, nr o)) = fun _ => nr o := rfl
    rw [this, List.map_const', size_list]
  rw [e1, e2, rle_replicate]
  rfl

/-! ### Cat -/
def ls (s : S24) : List Lc := La s.f0 s.f1
theorem bytesOf_list (s : ByteArray) : bytesOf s = s.data.toList.map fun b => (b.toNat : Int) := by
  unfold bytesOf
  simp
theorem strOfNums_map (l : List UInt8) : strOfNums (l.map fun b => (b.toNat : Int)) = bytesA l := by
  unfold strOfNums bytesA
  congr 2
  rw [List.map_map]
  have : ((fun n : Int => UInt8.ofNat n.toNat) ∘ fun b : UInt8 => (b.toNat : Int)) = id := by funext b; simp
  rw [this, List.map_id]
theorem Cat_inner (ss : List S24) (x4 : List Int) (i : Int) (fr : List S85) (hf : Full fr) (t0 : ByteArray) (r : ByteArray × List S85) (hl : fr.length ≤ 1099511627776) : ∀ (d j : Nat) (os : List Int), j + d = fr.length → os.length + (dec (fr.drop j)).length ≤ 1099511627776 →
    Ev (fun k => mark_Cat.l0 k x4 ss (ss.length : Int) (wrap64 (i + 1)) t0 (rle (os ++ dec (fr.drop j)))) r →
    Ev (fun k => mark_Cat.l1 k x4 ss (ss.length : Int) i fr (fr.length : Int) (j : Int) t0 (rle os)) r := by
  intro d
  induction d with
  | zero =>
    intro j os hj hb h
    refine Ev.step1 h (fun k => ?_)
    simp only [mark_Cat.l1]
    rw [if_neg (by omega), List.drop_eq_nil_of_le (by omega)]
    simp [dec]
  | succ d ih =>
    intro j os hj hb h
    have hlt : j < fr.length := by omega
    have e : dec (fr.drop j) = List.replicate fr[j].f0.toNat fr[j].f1 ++ dec (fr.drop (j + 1)) := by rw [List.drop_eq_getElem_cons hlt, dec_cons]
    have hp := hf fr[j] (List.getElem_mem hlt)
    rw [e] at hb h
    rw [← List.append_assoc] at h
    rw [List.length_append, List.length_replicate] at hb
    refine Ev.step1 (ih (j + 1) (os ++ List.replicate fr[j].f0.toNat fr[j].f1) (by omega) (by simp; omega) h) (fun k => ?_)
    simp only [mark_Cat.l1]
    rw [if_pos (by omega), if_pos (by omega), if_pos (by omega), rdT85 hlt, put_rle _ _ _ (by omega) (by omega), Option.bind_some, w64 (by omega) (by omega)]
    rfl
theorem Cat_loop (ss : List S24) (hs : ss.length ≤ 2199023255552) (hq : ∀ s ∈ ss, s.f1.length ≤ 1099511627776) (t0 : ByteArray) : ∀ (d i : Nat) (acc : List Lc), i + d = ss.length → acc.length + ((ss.drop i).flatMap ls).length ≤ 1099511627776 →
    Ev (fun k => mark_Cat.l0 k (acc.map fun c => (c.1.toNat : Int)) ss (ss.length : Int) (i : Int) t0 (rle (acc.map (·.2)))) (canon (acc ++ (ss.drop i).flatMap ls)) := by
  intro d
  induction d with
  | zero =>
    intro i acc hi hb
    refine Ev.step1 (Ev.now _) (fun k => ?_)
    simp only [mark_Cat.l0]
    rw [if_neg (by omega), List.drop_eq_nil_of_le (by omega), List.flatMap_nil, List.append_nil]
    congr 2
    have := strOfNums_map (acc.map (·.1))
    rw [List.map_map] at this
    exact this
  | succ d ih =>
    intro i acc hi hb
    have hlt : i < ss.length := by omega
    have e : (ss.drop i).flatMap ls = ls ss[i] ++ (ss.drop (i + 1)).flatMap ls := by rw [List.drop_eq_getElem_cons hlt, List.flatMap_cons]
    rw [e] at hb ⊢
    rw [List.length_append] at hb
    have hls : (ls ss[i]).length = ss[i].f0.size := La_length _ _
    have h2 := ih (i + 1) (acc ++ ls ss[i]) (by omega) (by simp only [List.length_append]; omega)
    rw [List.append_assoc] at h2
    have hcr := canon_runs (ls ss[i])
    have h3 := Cat_inner ss ((acc ++ ls ss[i]).map fun c => (c.1.toNat : Int)) (i : Int) (canon (ls ss[i])).2 (rle_full _) t0 _ (by omega) (canon (ls ss[i])).2.length 0 (acc.map (·.2)) (by omega) (by
      rw [List.drop_zero]
      show _ + (dec (rle _)).length ≤ _
      rw [dec_rle, List.length_map, List.length_map]
      omega) (by
      rw [List.drop_zero, w64 (by omega) (by omega)]
      show Ev (fun k => mark_Cat.l0 k _ ss (ss.length : Int) ((i : Int) + 1) t0 (rle (_ ++ dec (rle _)))) _
      rw [dec_rle, ← List.map_append]
      exact h2)
    refine Ev.step1 (f := fun k => (mark_Fix.f k ss[i].f0 ss[i].f1).bind fun b => mark_Cat.l1 k ((acc.map fun c => (c.1.toNat : Int)) ++ bytesOf ss[i].f0) ss (ss.length : Int) (i : Int) b.2 (b.2.length : Int) 0 t0 (rle (acc.map (·.2)))) ?_ (fun k => ?_)
    · refine Ev.bind (Fix_spec _ _ (by omega) (hq _ (List.getElem_mem hlt))) ?_
      have e2 : (acc.map fun c => (c.1.toNat : Int)) ++ bytesOf ss[i].f0 = (acc ++ ls ss[i]).map fun c => (c.1.toNat : Int) := by
        rw [List.map_append, bytesOf_list, ← La_fst ss[i].f0 ss[i].f1, List.map_map]
        rfl
      rw [e2]
      exact h3
    · simp only [mark_Cat.l0]
      rw [if_pos (by omega), if_pos (by omega), if_pos (by omega), rdT24 hlt, if_pos (by rw [List.length_map]; omega)]
theorem Cat_spec (ss : List S24) (hs : ss.length ≤ 2199023255552) (hq : ∀ s ∈ ss, s.f1.length ≤ 1099511627776) (hb : (ss.flatMap ls).length ≤ 1099511627776) : Ev (fun k => mark_Cat.f k ss) (canon (ss.flatMap ls)) := by
  have h := Cat_loop ss hs hq ⟨#[]⟩ ss.length 0 [] (by omega) (by simpa using hb)
  simpa [mark_Cat.f, rle] using h

/-! ### Cut -/
theorem take_drop_rep (f t : Nat) (p : List Int) (m : Nat) (o : Int) : ((p ++ List.replicate m o).take t).drop f = (p.take t).drop f ++ List.replicate (min (p.length + m) t - max p.length f) o := by
  rw [List.take_append, List.drop_append, List.take_replicate, List.drop_replicate, List.length_take]
  congr 2
  omega
theorem Cut_loop (fr : List S85) (hf : Full fr) (hl : (dec fr).length ≤ 1099511627776) (f t : Nat) (ht : t ≤ (dec fr).length) (hft : f ≤ t) (tx : ByteArray) : ∀ (d j : Nat), j + d = fr.length →
    Ev (fun k => mark_Cut.l0 k (f : Int) (t : Int) ((dec (fr.take j)).length : Int) fr (fr.length : Int) (j : Int) tx (rle (((dec (fr.take j)).take t).drop f))) (tx, rle (((dec fr).take t).drop f)) := by
  intro d
  have hfl := dec_length hf
  induction d with
  | zero =>
    intro j hj
    refine Ev.step1 (Ev.now _) (fun k => ?_)
    simp only [mark_Cut.l0]
    rw [if_neg (by omega), show fr.take j = fr from List.take_of_length_le (by omega)]
  | succ d ih =>
    intro j hj
    have hlt : j < fr.length := by omega
    have e : dec (fr.take (j + 1)) = dec (fr.take j) ++ List.replicate fr[j].f0.toNat fr[j].f1 := by rw [List.take_succ_eq_append_getElem hlt, dec_snoc]
    have hp := hf fr[j] (List.getElem_mem hlt)
    have hle : (dec (fr.take (j + 1))).length ≤ (dec fr).length := by
      have : dec fr = dec (fr.take (j + 1)) ++ dec (fr.drop (j + 1)) := by
        rw [← dec_append, List.take_append_drop]
      rw [this, List.length_append]
      omega
    have h2 := ih (j + 1) (by omega)
    rw [e, take_drop_rep, List.length_append, List.length_replicate] at h2
    rw [e, List.length_append, List.length_replicate] at hle
    have hdl : (((dec (fr.take j)).take t).drop f).length ≤ (dec (fr.take j)).length := by rw [List.length_drop, List.length_take]; omega
    refine Ev.step1 h2 (fun k => ?_)
    simp only [mark_Cut.l0]
    rw [if_pos (by omega), if_pos (by omega), if_pos (by omega), rdT85 hlt, mn_eq, mx_eq, w64 (x := ((dec (fr.take j)).length : Int) + fr[j].f0) (by omega) (by omega), w64 (x := min _ _ - max _ _) (by omega) (by omega), put_rle _ _ _ (by omega) (by omega), Option.bind_some, w64 (by omega) (by omega)]
    rw [show (((dec (fr.take j)).length + fr[j].f0.toNat : Nat) : Int) = ((dec (fr.take j)).length : Int) + fr[j].f0 from by omega,
      show (min (((dec (fr.take j)).length : Int) + fr[j].f0) (t : Int) - max ((dec (fr.take j)).length : Int) (f : Int)).toNat = min ((dec (fr.take j)).length + fr[j].f0.toNat) t - max (dec (fr.take j)).length f from by omega]
    rfl
/-- Some of it. -/
def cutL (l : List Lc) (a b : Int) : List Lc := (l.take (min (max b 0) (l.length : Int)).toNat).drop (min (max a 0) (l.length : Int)).toNat
theorem cutL_nat (l : List Lc) (a b : Nat) (hb : b ≤ l.length) (ha : a ≤ l.length) : cutL l (a : Int) (b : Int) = (l.take b).drop a := by
  unfold cutL
  congr 2 <;> omega
theorem extract_list (s : ByteArray) (a b : Nat) : (s.extract a b).data.toList = (s.data.toList.take b).drop a := by
  simp [ByteArray.data_extract, List.drop_take]
theorem Cut_spec (t : ByteArray) (rs : List S85) (a b : Int) (ht : t.size ≤ 1099511627776) (hr : rs.length ≤ 1099511627776) : Ev (fun k => mark_Cut.f k t rs a b) (canon (cutL (La t rs) a b)) := by
  have hlen := La_length t rs
  by_cases hab : min (max b 0) (t.size : Int) ≤ min (max a 0) (t.size : Int)
  · refine Ev.all (fun k => ?_)
    unfold mark_Cut.f
    rw [mn_eq, mx_eq, mn_eq, mx_eq, if_pos hab]
    congr 1
    have : cutL (La t rs) a b = [] := by
      unfold cutL
      rw [hlen]
      apply List.drop_eq_nil_of_le
      rw [List.length_take]
      omega
    rw [this]
    rfl
  · have e : ∀ k, mark_Cut.f k t rs a b = (mark_Fix.f k t rs).bind fun bt153 => (mark_Cut.l0 k ((min (max a 0) (t.size : Int)).toNat : Int) ((min (max b 0) (t.size : Int)).toNat : Int) 0 bt153.2 (bt153.2.length : Int) 0 (t.extract (min (max a 0) (t.size : Int)).toNat (min (max b 0) (t.size : Int)).toNat) ([] : List (S85))) := by
      intro k
      unfold mark_Cut.f
      rw [mn_eq, mx_eq, mn_eq, mx_eq, if_neg hab, if_pos (by omega), if_pos (by omega), if_pos (by omega), show ((min (max a 0) (t.size : Int)).toNat : Int) = min (max a 0) (t.size : Int) from by omega, show ((min (max b 0) (t.size : Int)).toNat : Int) = min (max b 0) (t.size : Int) from by omega]
    refine Ev.eq (Ev.bind (Fix_spec t rs ht hr) ?_) e
    have hd : dec (canon (La t rs)).2 = labO t.size rs := by rw [canon_La]; exact dec_rle _
    have hdl : (dec (canon (La t rs)).2).length = t.size := by rw [hd, labO_length]
    have h := Cut_loop (canon (La t rs)).2 (rle_full _) (by omega) (min (max a 0) (t.size : Int)).toNat (min (max b 0) (t.size : Int)).toNat (by omega) (by omega) (t.extract (min (max a 0) (t.size : Int)).toNat (min (max b 0) (t.size : Int)).toNat) (canon (La t rs)).2.length 0 (by omega)
    rw [hd] at h
    have e2 : canon (cutL (La t rs) a b) = (t.extract (min (max a 0) (t.size : Int)).toNat (min (max b 0) (t.size : Int)).toNat, rle (((labO t.size rs).take (min (max b 0) (t.size : Int)).toNat).drop (min (max a 0) (t.size : Int)).toNat)) := by
      unfold cutL canon
      rw [hlen, List.map_drop, List.map_take, List.map_drop, List.map_take, La_fst, La_snd]
      congr 1
      rw [← bytesA_list (t.extract _ _), extract_list]
    rw [e2]
    simpa [dec, rle] using h

/-! ### At -/
/-! ### Same -/
end Go.Proofs.Ytljmmhihdcnbaaa.G
