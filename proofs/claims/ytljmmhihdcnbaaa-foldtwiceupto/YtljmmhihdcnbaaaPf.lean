/- What fold's Lower, Ends, Trim and Without compute, and glazierref01's In, Lower, Trim and Without. -/
import Derived.Test.YtljmmhihdcnbaaaPe
import Derived.Test.YtljmmhihdcnbaaaPq
import Derived.Test.YtljmmhihdcnbaaaG25
import Derived.Test.YtljmmhihdcnbaaaG18
import Derived.Test.YtljmmhihdcnbaaaG22
import Derived.Test.YtljmmhihdcnbaaaG36
import Derived.Test.YtljmmhihdcnbaaaG30
import Derived.Test.YtljmmhihdcnbaaaG31
namespace Go.Proofs.Ytljmmhihdcnbaaa.G
open Go.RowKit Go.Proofs.YtljmmhihdcnbaaaW.PrintWords Go.Proofs.YtljmmhihdcnbaaaW.PrintLast Go.Proofs.YtljmmhihdcnbaaaW.PrintMore
set_option linter.unusedVariables false
set_option linter.unusedSimpArgs false

theorem refLow (c : UInt8) : glazierref01_Low.f (c.toNat : Int) = some ((lowB c).toNat : Int) := by
  have hc := c.toNat_lt
  unfold glazierref01_Low.f lowB
  by_cases h1 : 65 ≤ c.toNat
  · by_cases h2 : c.toNat ≤ 90
    · rw [if_pos (by omega), if_pos (by omega), if_pos ⟨h1, h2⟩, UInt8.toNat_add]
      congr 1
    · rw [if_pos (by omega), if_neg (by omega), if_neg (by omega)]
  · rw [if_neg (by omega), if_neg (by omega)]

theorem RefLower_loop (l : List Lc) (hl : l.length ≤ 1099511627776) : ∀ (d i : Nat) (w : List Lc), i + d = l.length → w.length ≤ i → Ev (fun k => glazierref01_Lower.l0 k (l.map toC) (w.map toC) (i : Int)) ((w ++ lowL (l.drop i)).map toC) := by
  intro d
  induction d with
  | zero =>
    intro i w hi hw
    refine Ev.step1 (Ev.now _) (fun k => ?_)
    simp only [glazierref01_Lower.l0]
    rw [List.length_map, if_neg (by omega), List.drop_eq_nil_of_le (by omega)]
    simp [lowL]
  | succ d ih =>
    intro i w hi hw
    have hlt : i < l.length := by omega
    have h2 := ih (i + 1) (w ++ [(lowB l[i].1, l[i].2)]) (by omega) (by simp; omega)
    have e : lowL (l.drop i) = (lowB l[i].1, l[i].2) :: lowL (l.drop (i + 1)) := by rw [List.drop_eq_getElem_cons hlt]; rfl
    rw [e]
    rw [List.append_assoc, List.map_append] at h2
    refine Ev.step1 h2 (fun k => ?_)
    simp only [glazierref01_Lower.l0]
    rw [List.length_map, if_pos (by omega), if_pos (by omega), rdC hlt, show (toC l[i]).f0 = (l[i].1.toNat : Int) from rfl, refLow, Option.bind_some, if_pos (by rw [List.length_map]; omega), w64 (by omega) (by omega)]
    rfl
theorem RefLower_spec (l : List Lc) (hl : l.length ≤ 1099511627776) : Ev (fun k => glazierref01_Lower.f k (l.map toC)) ((lowL l).map toC) := by
  have := RefLower_loop l hl l.length 0 [] (by omega) (by simp)
  simpa [glazierref01_Lower.f] using this

theorem Ends_spec (t : ByteArray) (rs : List S85) (ht : t.size ≤ 1099511627776) (hr : rs.length ≤ 1099511627776) : Ev (fun k => fold_Ends.f k t rs) (canon (trimL endP (La t rs))) := by
  have h := Cut_spec t rs (inFrom endP t : Int) (inTo endP t : Int) ht hr
  rw [trim_of_cut] at h
  refine Ev.eq h (fun k => ?_)
  unfold fold_Ends.f
  rw [if_pos (by omega)]
theorem RefTrim_l1 (bs : ByteArray) (hb : bs.size ≤ 1099511627776) : ∀ (d : Nat) (l : List Lc), l.length = d → l.length ≤ 1099511627776 → Ev (fun k => glazierref01_Trim.l1 k (l.map toC) bs) (((l.reverse.dropWhile fun c => inB bs c.1).reverse).map toC) := by
  intro d
  induction d with
  | zero =>
    intro l hd hl
    have : l = [] := List.eq_nil_of_length_eq_zero hd
    subst this
    refine Ev.step1 (Ev.now _) (fun k => ?_)
    simp only [glazierref01_Trim.l1]
    rw [if_neg (by simp)]
    rfl
  | succ d ih =>
    intro l hd hl
    rcases snoc_cases l with rfl | ⟨a, c, rfl⟩
    · simp at hd
    have ha : a.length = d := by simpa using hd
    have hlast : rd_T29 ((a ++ [c]).map toC) (wrap64 ((((a ++ [c]).map toC).length : Int) - 1)) = toC c := by
      have e : wrap64 ((((a ++ [c]).map toC).length : Int) - 1) = (a.length : Int) := by rw [List.length_map, List.length_append, List.length_singleton, w64 (by omega) (by omega)]; omega
      rw [e, rdC (by simp)]
      simp
    have e : wrap64 ((((a ++ [c]).map toC).length : Int) - 1) = (a.length : Int) := by rw [List.length_map, List.length_append, List.length_singleton, w64 (by omega) (by omega)]; omega
    rw [List.reverse_append, List.reverse_singleton, List.singleton_append, List.dropWhile_cons]
    refine Ev.step1 (f := fun k => (glazierref01_In.f k (c.1.toNat : Int) bs).bind fun t341 => if t341 = true then glazierref01_Trim.l1 k (a.map toC) bs else some ((a ++ [c]).map toC)) ?_ (fun k => by
      simp only [glazierref01_Trim.l1]
      rw [if_pos (by simp), if_pos (by rw [e]; omega), if_pos (by rw [e]; simp; omega), hlast, e]
      have e3 : ((a ++ [c]).map toC).take ((a.length : Int)).toNat = a.map toC := by simp
      rw [e3]
      congr 1
      funext t
      split
      · rw [if_pos (by simp; omega)]
      · rfl)
    refine Ev.bind (In_spec bs hb c.1) ?_
    cases hc : inB bs c.1 with
    | true => simp only [if_true]; exact ih a ha (by simp at hl; omega)
    | false =>
      simp only [Bool.false_eq_true, if_false]
      have : (c :: a.reverse).reverse = a ++ [c] := by simp
      rw [this]
      exact Ev.now _
theorem RefTrim_l0 (bs : ByteArray) (hb : bs.size ≤ 1099511627776) : ∀ (d : Nat) (l : List Lc), l.length = d → l.length ≤ 1099511627776 → Ev (fun k => glazierref01_Trim.l0 k (l.map toC) bs) ((trimL (inB bs) l).map toC) := by
  intro d
  induction d with
  | zero =>
    intro l hd hl
    have : l = [] := List.eq_nil_of_length_eq_zero hd
    subst this
    refine Ev.step1 (f := fun k => glazierref01_Trim.j1 k (([] : List Lc).map toC) bs) ?_ (fun k => by simp only [glazierref01_Trim.l0]; rw [if_neg (by simp)])
    refine Ev.step1 (RefTrim_l1 bs hb 0 [] rfl (by simp)) (fun k => by simp only [glazierref01_Trim.j1])
  | succ d ih =>
    intro l hd hl
    cases l with
    | nil => simp at hd
    | cons c l =>
      have hl' : l.length = d := by simpa using hd
      refine Ev.step1 (f := fun k => (glazierref01_In.f k (c.1.toNat : Int) bs).bind fun t334 => if t334 = true then glazierref01_Trim.l0 k (l.map toC) bs else glazierref01_Trim.j1 k ((c :: l).map toC) bs) ?_ (fun k => by
        simp only [glazierref01_Trim.l0]
        rw [if_pos (by simp), if_pos (by simp)]
        have e2 : rd_T29 ((c :: l).map toC) 0 = toC c := rfl
        rw [e2]
        have e3 : ((c :: l).map toC).drop 1 = l.map toC := rfl
        rw [e3]
        congr 1
        funext t
        split
        · rw [if_pos (by simp; omega)]
        · rfl)
      refine Ev.bind (In_spec bs hb c.1) ?_
      unfold trimL
      rw [List.dropWhile_cons]
      cases hc : inB bs c.1 with
      | true => simp only [if_true]; exact ih l hl' (by simp at hl; omega)
      | false =>
        simp only [Bool.false_eq_true, if_false]
        exact Ev.step1 (RefTrim_l1 bs hb (d + 1) (c :: l) hd hl) (fun k => by simp only [glazierref01_Trim.j1])
theorem RefTrim_spec (l : List Lc) (bs : ByteArray) (hl : l.length ≤ 1099511627776) (hb : bs.size ≤ 1099511627776) : Ev (fun k => glazierref01_Trim.f k (l.map toC) bs) ((trimL (inB bs) l).map toC) := RefTrim_l0 bs hb l.length l rfl hl

/-! ### Without -/
def withoutL (bs : ByteArray) (l : List Lc) : List Lc := l.filter fun c => !inB bs c.1
theorem withoutL_ok {bs : ByteArray} {l : List Lc} (h : Okl l) : Okl (withoutL bs l) := h.sub fun _ hc => (List.mem_filter.1 hc).1
theorem withoutL_length (bs : ByteArray) (l : List Lc) : (withoutL bs l).length ≤ l.length := List.length_filter_le _ _
theorem Without_loop (t : ByteArray) (rs : List S85) (bs : ByteArray) (ht : t.size ≤ 1099511627776) (hr : rs.length ≤ 1099511627776) : ∀ (d i fr : Nat) (Xs : List (List Lc)), i + d = (La t rs).length → fr ≤ i → (∀ X ∈ Xs, Okl X) → Xs.length ≤ i →
    Xs.flatten ++ ((La t rs).take i).drop fr = withoutL bs ((La t rs).take i) →
    Ev (fun k => fold_Without.l0 k bs (Xs.map mkS) (fr : Int) (t.size : Int) (i : Int) t rs) (canon (withoutL bs (La t rs))) := by
  intro d
  have hn := La_length t rs
  have hO := La_ok t rs
  induction d with
  | zero =>
    intro i fr Xs hi hf hX hXl h
    have e1 : (La t rs).take i = La t rs := List.take_of_length_le (by omega)
    rw [e1] at h
    have hc : cutL (La t rs) (fr : Int) (t.size : Int) = (La t rs).drop fr := by
      rw [← hn, cutL_nat _ _ _ (Nat.le_refl _) (by omega), List.take_of_length_le (Nat.le_refl _)]
    refine Ev.step1 (f := fun k => (mark_Cut.f k t rs (fr : Int) (t.size : Int)).bind fun b => (if (Xs.map mkS).length < 3518437208883 then ((mark_Cat.f k (Xs.map mkS ++ [(⟨b.1, b.2⟩ : S24)])).bind fun bt282 => (some (bt282.1, bt282.2))) else (none))) ?_ (fun k => by
      simp only [fold_Without.l0]
      rw [if_neg (by omega)])
    refine Ev.bind (Cut_spec t rs _ _ ht hr) ?_
    simp only [if_pos (show (Xs.map mkS).length < 3518437208883 from by rw [List.length_map]; omega)]
    have e2 : (Xs ++ [cutL (La t rs) (fr : Int) (t.size : Int)]).flatten = withoutL bs (La t rs) := by rw [flat_snoc, hc, h]
    have hl := withoutL_length bs (La t rs)
    have h3 := Cat_mk (Xs ++ [cutL (La t rs) (fr : Int) (t.size : Int)]) (fun X hx => by
      rcases List.mem_append.1 hx with hx | hx
      · exact hX X hx
      · rw [List.mem_singleton] at hx; subst hx; exact hO.cut _ _) (by simp; omega) (by rw [e2]; omega)
    rw [e2, List.map_append] at h3
    exact Ev.bind h3 (Ev.now _)
  | succ d ih =>
    intro i fr Xs hi hf hX hXl h
    have hlt : i < (La t rs).length := by omega
    have hb := La_get hlt
    have e3 : ((La t rs)[i].1.toNat : Int).toNat.toUInt8 = (La t rs)[i].1 := by simp
    have hidx := indexByte_in bs.data.toList (La t rs)[i].1
    cases hin : inB bs (La t rs)[i].1 with
    | true =>
      have hge : Go.Lib.indexByte bs.data.toList (La t rs)[i].1 ≥ 0 := of_decide_eq_true (hidx.trans hin)
      have hc : cutL (La t rs) (fr : Int) (i : Int) = ((La t rs).take i).drop fr := cutL_nat _ _ _ (by omega) (by omega)
      have h2 := ih (i + 1) (i + 1) (Xs ++ [((La t rs).take i).drop fr]) (by omega) (by omega) (fun X hx => by
        rcases List.mem_append.1 hx with hx | hx
        · exact hX X hx
        · rw [List.mem_singleton] at hx; subst hx; rw [← hc]; exact hO.cut _ _) (by simp; omega) (by
          rw [flat_snoc, h, List.drop_eq_nil_of_le (by rw [List.length_take]; omega), List.append_nil, take_snoc' hlt]
          unfold withoutL
          rw [List.filter_append, List.filter_cons, hin]
          simp)
      refine Ev.step1 (f := fun k => (mark_Cut.f k t rs (fr : Int) (i : Int)).bind fun b => (if (Xs.map mkS).length < 3518437208883 then fold_Without.l0 k bs (Xs.map mkS ++ [(⟨b.1, b.2⟩ : S24)]) ((i : Int) + 1) (t.size : Int) ((i : Int) + 1) t rs else none)) ?_ (fun k => by
        simp only [fold_Without.l0]
        rw [if_pos (by omega), if_pos (by omega), if_pos (by omega), hb]
        unfold strings_IndexByte.f
        rw [e3, Option.bind_some, if_pos hge, w64 (by omega) (by omega)])
      refine Ev.bind (Cut_spec t rs _ _ ht hr) ?_
      simp only [if_pos (show (Xs.map mkS).length < 3518437208883 from by rw [List.length_map]; omega), hc]
      rw [List.map_append] at h2
      exact h2
    | false =>
      have hge : ¬ Go.Lib.indexByte bs.data.toList (La t rs)[i].1 ≥ 0 := of_decide_eq_false (hidx.trans hin)
      have h2 := ih (i + 1) fr Xs (by omega) (by omega) hX (by omega) (by
        rw [take_snoc' hlt, List.drop_append, List.length_take, show fr - min i (La t rs).length = 0 from by omega, List.drop_zero, ← List.append_assoc, h]
        unfold withoutL
        rw [List.filter_append, List.filter_cons, hin]
        simp)
      refine Ev.step1 h2 (fun k => ?_)
      simp only [fold_Without.l0]
      rw [if_pos (by omega), if_pos (by omega), if_pos (by omega), hb]
      unfold strings_IndexByte.f
      rw [e3, Option.bind_some, if_neg hge, w64 (by omega) (by omega)]
      rfl
theorem Without_spec (t : ByteArray) (rs : List S85) (bs : ByteArray) (ht : t.size ≤ 1099511627776) (hr : rs.length ≤ 1099511627776) : Ev (fun k => fold_Without.f k t rs bs) (canon (withoutL bs (La t rs))) := by
  have h := Without_loop t rs bs ht hr (La t rs).length 0 0 [] (by omega) (by omega) (fun _ h => by cases h) (by simp) (by simp [withoutL])
  exact h
theorem RefWithout_loop (l : List Lc) (bs : ByteArray) (hl : l.length ≤ 1099511627776) (hb : bs.size ≤ 1099511627776) : ∀ (d i : Nat) (w : List Lc), i + d = l.length → w.length ≤ i → Ev (fun k => glazierref01_Without.l0 k (l.map toC) bs (w.map toC) (i : Int)) ((w ++ withoutL bs (l.drop i)).map toC) := by
  intro d
  induction d with
  | zero =>
    intro i w hi hw
    refine Ev.step1 (Ev.now _) (fun k => ?_)
    simp only [glazierref01_Without.l0]
    rw [List.length_map, if_neg (by omega), List.drop_eq_nil_of_le (by omega)]
    simp [withoutL]
  | succ d ih =>
    intro i w hi hw
    have hlt : i < l.length := by omega
    refine Ev.step1 (f := fun k => (glazierref01_In.f k (l[i].1.toNat : Int) bs).bind fun t => if t = true then glazierref01_Without.l0 k (l.map toC) bs (w.map toC) ((i : Int) + 1) else glazierref01_Without.l0 k (l.map toC) bs (w.map toC ++ [toC l[i]]) ((i : Int) + 1)) ?_ (fun k => by
      simp only [glazierref01_Without.l0]
      rw [List.length_map, if_pos (by omega), if_pos (by omega), rdC hlt, show (toC l[i]).f0 = (l[i].1.toNat : Int) from rfl]
      congr 1
      funext t
      split
      · rw [w64 (by omega) (by omega)]
      · rw [if_pos (by rw [List.length_map]; omega), w64 (by omega) (by omega)]
        rfl)
    refine Ev.bind (In_spec bs hb l[i].1) ?_
    have e : withoutL bs (l.drop i) = if inB bs l[i].1 = true then withoutL bs (l.drop (i + 1)) else l[i] :: withoutL bs (l.drop (i + 1)) := by
      rw [List.drop_eq_getElem_cons hlt]
      unfold withoutL
      rw [List.filter_cons]
      cases inB bs l[i].1 <;> simp
    rw [e]
    cases hin : inB bs l[i].1 with
    | true => simp only [if_true]; exact ih (i + 1) w (by omega) (by omega)
    | false =>
      simp only [Bool.false_eq_true, if_false]
      have h2 := ih (i + 1) (w ++ [l[i]]) (by omega) (by simp; omega)
      rw [List.append_assoc, List.map_append] at h2
      exact h2
theorem RefWithout_spec (l : List Lc) (bs : ByteArray) (hl : l.length ≤ 1099511627776) (hb : bs.size ≤ 1099511627776) : Ev (fun k => glazierref01_Without.f k (l.map toC) bs) ((withoutL bs l).map toC) := by
  have := RefWithout_loop l bs hl hb l.length 0 [] (by omega) (by simp)
  simpa [glazierref01_Without.f] using this
end Go.Proofs.Ytljmmhihdcnbaaa.G
