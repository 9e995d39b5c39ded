/- What glazierref01's Of, Str and Is compute. -/
import Derived.Test.YtljmmhihdcnbaaaPa
import Derived.Test.YtljmmhihdcnbaaaG15
import Derived.Test.YtljmmhihdcnbaaaG13
namespace Go.Proofs.Ytljmmhihdcnbaaa.G
open Go.RowKit Go.Proofs.YtljmmhihdcnbaaaW.PrintWords Go.Proofs.YtljmmhihdcnbaaaW.PrintLast Go.Proofs.YtljmmhihdcnbaaaW.PrintMore
set_option linter.unusedVariables false
set_option linter.unusedSimpArgs false

def toC (c : Lc) : S29 := ⟨(c.1.toNat : Int), c.2⟩
/-- The first bytes of t with these origins. -/
def zipO (t : ByteArray) (os : List Int) : List S29 := (t.data.toList.zip os).map toC
theorem zipO_length (t : ByteArray) (os : List Int) (h : os.length ≤ t.size) : (zipO t os).length = os.length := by
  unfold zipO
  rw [List.length_map, List.length_zip, size_list]
  omega
theorem zip_snoc {α β : Type} (o : β) : ∀ (l : List α) (os : List β) (h : os.length < l.length), l.zip (os ++ [o]) = l.zip os ++ [(l[os.length], o)]
  | [], os, h => absurd h (by simp)
  | a :: l, [], h => by simp
  | a :: l, x :: os, h => by
    have := zip_snoc o l os (by simpa using h)
    simp [this]
theorem zipO_snoc (t : ByteArray) (os : List Int) (o : Int) (h : os.length < t.size) : zipO t (os ++ [o]) = zipO t os ++ [⟨bt t (os.length : Int), o⟩] := by
  have hl : os.length < t.data.toList.length := by simpa using h
  unfold zipO
  rw [zip_snoc o _ os hl, List.map_append, bt_nat hl]
  rfl
theorem RefOf_l2 (t : ByteArray) (rs : List S85) (ht : t.size ≤ 1099511627776) : ∀ (d : Nat) (os : List Int), os.length + d = t.size →
    Ev (fun k => glazierref01_Of.l2 k (zipO t os) t rs) (zipO t (os ++ List.replicate d 65536)) := by
  intro d
  induction d with
  | zero =>
    intro os h
    refine Ev.step1 (Ev.now _) (fun k => ?_)
    simp only [glazierref01_Of.l2]
    rw [zipO_length t os (by omega), if_neg (by omega), List.replicate_zero, List.append_nil]
  | succ d ih =>
    intro os h
    have h2 := ih (os ++ [65536]) (by simp; omega)
    rw [List.append_assoc, show [(65536 : Int)] ++ List.replicate d 65536 = List.replicate (d + 1) 65536 from rfl] at h2
    refine Ev.step1 h2 (fun k => ?_)
    simp only [glazierref01_Of.l2]
    rw [zipO_length t os (by omega), if_pos (by omega), if_pos (by omega), if_pos (by omega), zipO_snoc t os _ (by omega)]
theorem RefOf_l1 (t : ByteArray) (rs : List S85) (ht : t.size ≤ 1099511627776) (i : Nat) (hi : i < rs.length) (r : List S29) : ∀ (d j : Nat) (os : List Int), os.length ≤ t.size → min (rs[i].f0 - (j : Int)).toNat (t.size - os.length) = d → j ≤ 1099511627776 → j ≤ os.length →
    Ev (fun k => glazierref01_Of.l0 k (zipO t (os ++ List.replicate d (nr rs[i].f1))) (wrap64 ((i : Int) + 1)) t rs) r →
    Ev (fun k => glazierref01_Of.l1 k (zipO t os) (i : Int) (j : Int) t rs) r := by
  intro d
  induction d with
  | zero =>
    intro j os ho hd hj hjo h
    rw [List.replicate_zero, List.append_nil] at h
    refine Ev.step1 h (fun k => ?_)
    simp only [glazierref01_Of.l1]
    rw [if_pos (by omega), if_pos (by omega), rdT85 hi]
    by_cases h1 : (j : Int) < rs[i].f0
    · rw [if_pos h1, zipO_length t os ho, if_neg (by omega)]
    · rw [if_neg h1]
  | succ d ih =>
    intro j os ho hd hj hjo h
    have h2 := ih (j + 1) (os ++ [nr rs[i].f1]) (by simp; omega) (by simp only [List.length_append, List.length_singleton]; omega) (by omega) (by simp; omega) (by
      rw [List.append_assoc, show [nr rs[i].f1] ++ List.replicate d (nr rs[i].f1) = List.replicate (d + 1) (nr rs[i].f1) from rfl]
      exact h)
    refine Ev.step1 h2 (fun k => ?_)
    simp only [glazierref01_Of.l1]
    rw [if_pos (by omega), if_pos (by omega), rdT85 hi, if_pos (by omega), zipO_length t os ho, if_pos (by omega), if_pos (by omega), refnear_eq, Option.bind_some, if_pos (by omega), zipO_snoc t os _ (by omega), w64 (by omega) (by omega)]
    rfl
theorem RefOf_l0 (t : ByteArray) (rs : List S85) (ht : t.size ≤ 1099511627776) (hr : rs.length ≤ 1099511627776) : ∀ (d i : Nat) (os : List Int), i + d = rs.length → os.length ≤ t.size →
    Ev (fun k => glazierref01_Of.l0 k (zipO t os) (i : Int) t rs) (zipO t (os ++ labO (t.size - os.length) (rs.drop i))) := by
  intro d
  induction d with
  | zero =>
    intro i os hi ho
    rw [List.drop_eq_nil_of_le (by omega)]
    refine Ev.step1 (RefOf_l2 t rs ht (t.size - os.length) os (by omega)) (fun k => ?_)
    simp only [glazierref01_Of.l0]
    rw [if_neg (by omega)]
  | succ d ih =>
    intro i os hi ho
    have hlt : i < rs.length := by omega
    rw [List.drop_eq_getElem_cons hlt, labO]
    refine Ev.step1 (RefOf_l1 t rs ht i hlt _ (min (rs[i].f0 - ((0 : Nat) : Int)).toNat (t.size - os.length)) 0 os ho rfl (by omega) (by omega) ?_) (fun k => ?_)
    · have h2 := ih (i + 1) (os ++ List.replicate (min (rs[i].f0 - ((0 : Nat) : Int)).toNat (t.size - os.length)) (nr rs[i].f1)) (by omega) (by simp; omega)
      rw [List.append_assoc] at h2
      rw [w64 (by omega) (by omega), show (min (max rs[i].f0 0) ((t.size - os.length : Nat) : Int)).toNat = min (rs[i].f0 - ((0 : Nat) : Int)).toNat (t.size - os.length) from by omega]
      rw [List.length_append, List.length_replicate, ← Nat.sub_sub] at h2
      exact h2
    · simp only [glazierref01_Of.l0]
      rw [if_pos (by omega)]
      rfl
theorem RefOf_spec (t : ByteArray) (rs : List S85) (ht : t.size ≤ 1099511627776) (hr : rs.length ≤ 1099511627776) : Ev (fun k => glazierref01_Of.f k t rs) ((La t rs).map toC) := by
  have h := RefOf_l0 t rs ht hr rs.length 0 [] (by omega) (by simp)
  simpa [glazierref01_Of.f, zipO, La] using h

/-! ### Str -/
theorem Str_loop (l : List Lc) (hl : l.length ≤ 1099511627776) (t0 : ByteArray) : ∀ (d i : Nat), i + d = l.length →
    Ev (fun k => glazierref01_Str.l0 k (l.map toC) ((l.take i).map (fun c => (c.1.toNat : Int)) ++ List.replicate d 0) (i : Int) t0 (rle ((l.take i).map (·.2)))) (canon l) := by
  intro d
  induction d with
  | zero =>
    intro i hi
    refine Ev.step1 (Ev.now _) (fun k => ?_)
    simp only [glazierref01_Str.l0]
    rw [List.length_map, if_neg (by omega), show l.take i = l from List.take_of_length_le (by omega), List.replicate_zero, List.append_nil]
    have := strOfNums_map (l.map (·.1))
    rw [List.map_map] at this
    unfold canon
    rw [← this]
    rfl
  | succ d ih =>
    intro i hi
    have hlt : i < l.length := by omega
    have hg : rd_T29 (l.map toC) (i : Int) = toC l[i] := by rw [rdT29 (by simpa using hlt)]; simp
    have h2 := ih (i + 1) (by omega)
    have hrl := rle_length ((l.take i).map (·.2))
    rw [List.length_map, List.length_take] at hrl
    have e1 : (l.take (i + 1)).map (·.2) = (l.take i).map (·.2) ++ [l[i].2] := by rw [List.take_succ_eq_append_getElem hlt, List.map_append]; rfl
    have e2 : (l.take (i + 1)).map (fun c : Lc => (c.1.toNat : Int)) ++ List.replicate d 0 = ((l.take i).map (fun c : Lc => (c.1.toNat : Int)) ++ List.replicate (d + 1) 0).set i (l[i].1.toNat : Int) := by
      rw [List.set_append_right _ _ (by simp; omega), List.take_succ_eq_append_getElem hlt, List.map_append, List.append_assoc]
      congr 1
      rw [List.length_map, List.length_take, Nat.min_eq_left (Nat.le_of_lt hlt), Nat.sub_self, List.replicate_succ]
      rfl
    rw [e1, e2, rle_snoc] at h2
    refine Ev.step1 h2 (fun k => ?_)
    simp only [glazierref01_Str.l0]
    rw [List.length_map, if_pos (by omega), if_pos (by omega), if_pos (by simp; omega), hg, Option.bind_some]
    have hp := put_eq (rle ((l.take i).map (·.2))) 1 l[i].2 (by omega) (fun r hr => by
      have := rle_mem hr
      rw [List.length_map, List.length_take] at this
      omega)
    rcases snoc_cases (rle ((l.take i).map (·.2))) with e | ⟨a, r, e⟩
    · rw [e]
      rw [if_neg (by rw [List.length_nil, w64 (by decide) (by decide)]; decide), if_pos (by simp), putp_nil _ _ (by omega), w64 (by omega) (by omega)]
      rfl
    · rw [e] at hrl ⊢
      rw [List.length_append, List.length_singleton] at hrl
      have hd := (rd_last a r).resolve_right (by omega)
      have hw : wrap64 (((a ++ [r]).length : Int) - 1) = (a.length : Int) := by rw [w64 (by rw [List.length_append, List.length_singleton]; omega) (by rw [List.length_append, List.length_singleton]; omega)]; simp
      have hrm := rle_mem (os := (l.take i).map (·.2)) (r := r) (by rw [e]; simp)
      rw [List.length_map, List.length_take] at hrm
      rw [if_pos (by rw [hw]; omega), if_pos (by rw [hw]; omega), if_pos (by rw [hw]; simp; omega), hd, putp_snoc a r 1 _ (by omega), w64 (x := (i : Int) + 1) (by omega) (by omega)]
      show (if r.f1 = l[i].2 then _ else _) = _
      by_cases e3 : r.f1 = l[i].2
      · rw [if_pos e3, if_pos e3, hw, w64 (x := r.f0 + 1) (by omega) (by omega), show ((a.length : Int).toNat) = a.length from by simp, List.set_append_right _ _ (Nat.le_refl _)]
        simp [e3, toC]
      · rw [if_neg e3, if_neg e3, if_pos (by rw [List.length_append, List.length_singleton]; omega)]
        rfl
theorem Str_spec (l : List Lc) (hl : l.length ≤ 1099511627776) : Ev (fun k => glazierref01_Str.f k (l.map toC)) (canon l) := by
  have h := Str_loop l hl ⟨#[]⟩ l.length 0 (by omega)
  refine Ev.eq h (fun k => ?_)
  unfold glazierref01_Str.f
  rw [if_pos (by omega), if_pos (by rw [List.length_map]; omega)]
  simp [rle]

/-! ### Is -/
theorem Is_loop (t u : ByteArray) (l : List S85) (hl : l.length ≤ 1099511627776) : ∀ (d j : Nat), j + d = l.length → Ev (fun k => glazierref01_Is.l0 k (j : Int) t l u l) true := by
  intro d
  induction d with
  | zero =>
    intro j hj
    refine Ev.step1 (Ev.now _) (fun k => ?_)
    simp only [glazierref01_Is.l0]
    rw [if_neg (by omega)]
  | succ d ih =>
    intro j hj
    refine Ev.step1 (ih (j + 1) (by omega)) (fun k => ?_)
    simp only [glazierref01_Is.l0]
    rw [if_pos (by omega), if_pos (by omega), if_pos (by omega), if_neg (by simp), w64 (by omega) (by omega)]
    rfl
theorem Is_spec (l : List Lc) (hl : l.length ≤ 1099511627776) : Ev (fun k => glazierref01_Is.f k (canon l).1 (canon l).2 (l.map toC)) true := by
  unfold glazierref01_Is.f
  refine Ev.bind (Str_spec l hl) ?_
  simp only [if_pos]
  have hc := canon_runs l
  refine Ev.step1 (Is_loop (canon l).1 (canon l).1 (canon l).2 (by omega) (canon l).2.length 0 (by omega)) (fun k => ?_)
  simp only [glazierref01_Is.j0]
  rw [if_neg (by simp)]
  rfl
end Go.Proofs.Ytljmmhihdcnbaaa.G
