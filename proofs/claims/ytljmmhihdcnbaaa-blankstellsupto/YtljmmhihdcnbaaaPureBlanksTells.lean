/- BlanksTells: a filled form, its names and their number are what the page says. -/
import Derived.Test.YtljmmhihdcnbaaaPm
import Derived.Test.YtljmmhihdcnbaaaG72
import Derived.Test.YtljmmhihdcnbaaaG62
import Derived.Test.YtljmmhihdcnbaaaG69
import Derived.Test.YtljmmhihdcnbaaaG68
import Derived.Test.YtljmmhihdcnbaaaG63
import Derived.Test.YtljmmhihdcnbaaaG73
namespace Go.Proofs.Ytljmmhihdcnbaaa.G
open Go.RowKit Go.Proofs.YtljmmhihdcnbaaaW.PrintWords Go.Proofs.YtljmmhihdcnbaaaW.PrintLast Go.Proofs.YtljmmhihdcnbaaaW.PrintMore
set_option linter.unusedVariables false
set_option linter.unusedSimpArgs false
theorem Blanks_alive' : Ev (fun k => glazierlaw47_alive.f k) true := Ev.of (fun k => glazierlaw47_alive.mono k) (k := 60) (by decide +kernel)
theorem RefCat' (a b : List S29) (h : a.length + b.length < 8796093022208) : glazierref01_Cat.f a b = some (a ++ b) := by
  unfold glazierref01_Cat.f
  simp only [Option.bind_some, List.nil_append, List.length_nil]
  rw [if_pos (by omega), if_pos (by omega)]
theorem rdOfB' {l : List ByteArray} {i : Nat} (h : i < l.length) : rdOf ByteArray.empty l (i : Int) = l[i] := by simp [rdOf, h]
/-! ### a list of texts -/
def idxM (a : ByteArray) : Nat → List ByteArray → Int
  | _, [] => -1
  | i, x :: l => if a.toList = x.toList then (i : Int) else idxM a (i + 1) l
theorem IndexM_loop (l : List ByteArray) (a : ByteArray) (hl : l.length ≤ 1099511627776) : ∀ (d i : Nat), i + d = l.length → Ev (fun k => slices_Index_string_string.l0 k l a (l.length : Int) (i : Int)) (idxM a i (l.drop i)) := by
  intro d
  induction d with
  | zero =>
    intro i hi
    rw [List.drop_eq_nil_of_le (by omega)]
    refine Ev.step1 (Ev.now _) (fun k => ?_)
    simp only [slices_Index_string_string.l0]
    rw [if_neg (by omega)]
    rfl
  | succ d ih =>
    intro i hi
    have hlt : i < l.length := by omega
    rw [List.drop_eq_getElem_cons hlt, idxM]
    by_cases h : a.toList = l[i].toList
    · rw [if_pos h]
      refine Ev.step1 (Ev.now _) (fun k => ?_)
      simp only [slices_Index_string_string.l0]
      rw [if_pos (by omega), if_pos (by omega), if_pos (by omega), rdOfB' hlt, if_pos h]
    · rw [if_neg h]
      refine Ev.step1 (ih (i + 1) (by omega)) (fun k => ?_)
      simp only [slices_Index_string_string.l0]
      rw [if_pos (by omega), if_pos (by omega), if_pos (by omega), rdOfB' hlt, if_neg h, w64 (by omega) (by omega)]
      rfl
def hasN (l : List ByteArray) (nm : List UInt8) : Bool := l.any fun x => x.data.toList == nm
theorem idxM_ge (a : ByteArray) : ∀ (l : List ByteArray) (i : Nat), decide (idxM a i l ≥ 0) = hasN l a.data.toList
  | [], i => rfl
  | x :: l, i => by
    have ih := idxM_ge a l (i + 1)
    unfold hasN at ih ⊢
    rw [idxM, List.any_cons, ByteArray.toList_eq, ByteArray.toList_eq]
    by_cases h : a.data.toList = x.data.toList
    · rw [if_pos h, beq_iff_eq.2 h.symm, Bool.true_or]
      exact decide_eq_true (by omega)
    · rw [if_neg h, beq_eq_false_iff_ne.2 (Ne.symm h), Bool.false_or]
      exact ih
theorem ContainsM_spec (l : List ByteArray) (a : ByteArray) (hl : l.length ≤ 1099511627776) : Ev (fun k => slices_Contains_string_string.f k l a) (hasN l a.data.toList) := by
  have h := IndexM_loop l a hl l.length 0 (by omega)
  rw [List.drop_zero] at h
  unfold slices_Contains_string_string.f
  rw [← idxM_ge a l 0]
  exact Ev.bind h (Ev.now _)
theorem Texts_loop (l : List ByteArray) (hl : l.length ≤ 1099511627776) : ∀ (d i : Nat), i + d = l.length → Ev (fun k => glazierplain_Texts.l0 k l l (i : Int)) true := by
  intro d
  induction d with
  | zero =>
    intro i hi
    refine Ev.step1 (Ev.now _) (fun k => ?_)
    simp only [glazierplain_Texts.l0]
    rw [if_neg (by omega)]
  | succ d ih =>
    intro i hi
    refine Ev.step1 (ih (i + 1) (by omega)) (fun k => ?_)
    simp only [glazierplain_Texts.l0]
    rw [if_pos (by omega), if_pos (by omega), if_pos (by omega), if_pos trivial, w64 (by omega) (by omega)]
    rfl
theorem Texts_spec (l : List ByteArray) (hl : l.length ≤ 1099511627776) : Ev (fun k => glazierplain_Texts.f k l l) true := by
  unfold glazierplain_Texts.f
  simp only [if_true]
  exact Texts_loop l hl l.length 0 (by omega)
/-! ### names and their number -/
def addN (nms : List ByteArray) (nm : List UInt8) : List ByteArray := if hasN nms nm = true then nms else nms ++ [bytesA nm]
theorem namesL_cons (p : List UInt8 × Bool) (ps : List (List UInt8 × Bool)) : namesL (p :: ps) = (if p.2 = true then [p.1] else []) ++ namesL ps := by
  unfold namesL
  rw [List.filter_cons]
  split <;> rfl
theorem addN_length (nms : List ByteArray) (nm : List UInt8) : (addN nms nm).length ≤ nms.length + 1 := by unfold addN; split <;> simp
theorem Names_loop (ps : List S97) (hn : ps.length ≤ 2199023255552) (r : List ByteArray) : ∀ (d i : Nat) (w : List ByteArray), i + d = ps.length → w.length ≤ 1099511627776 → w.length + d ≤ 1099511627776 → (namesL ((ps.drop i).map toP)).foldl addN w = r →
    Ev (fun k => blanks_Names.l0 k w ps (ps.length : Int) (i : Int)) r := by
  intro d
  induction d with
  | zero =>
    intro i w hi hw hw2 he
    rw [List.drop_eq_nil_of_le (by omega)] at he
    refine Ev.step1 (Ev.now _) (fun k => ?_)
    simp only [blanks_Names.l0]
    rw [if_neg (by omega)]
    exact congrArg some he
  | succ d ih =>
    intro i w hi hw hw2 he
    have hlt : i < ps.length := by omega
    rw [List.drop_eq_getElem_cons hlt, List.map_cons, namesL_cons] at he
    unfold toP at he
    cases hf : ps[i].f1 with
    | false =>
      rw [hf] at he
      simp only [Bool.false_eq_true, if_false, List.nil_append] at he
      refine Ev.step1 (ih (i + 1) w (by omega) hw (by omega) he) (fun k => ?_)
      simp only [blanks_Names.l0]
      rw [if_pos (by omega), if_pos (by omega), if_pos (by omega), rdT97 hlt, hf, w64 (by omega) (by omega)]
      rfl
    | true =>
      rw [hf] at he
      simp only [if_true, List.singleton_append, List.foldl_cons] at he
      have hal := addN_length w ps[i].f0.data.toList
      have h2 := ih (i + 1) _ (by omega) (by omega) (by omega) he
      refine Ev.step1 (f := fun k => (slices_Contains_string_string.f k w ps[i].f0).bind fun t753 => (if t753 = true then blanks_Names.l0 k w ps (ps.length : Int) ((i : Int) + 1) else (if w.length < 8796093022208 then blanks_Names.l0 k (w ++ [ps[i].f0]) ps (ps.length : Int) ((i : Int) + 1) else none))) ?_ (fun k => by
        simp only [blanks_Names.l0]
        rw [if_pos (by omega), if_pos (by omega), if_pos (by omega), rdT97 hlt, hf, w64 (by omega) (by omega)]
        rfl)
      refine Ev.bind (ContainsM_spec w _ hw) ?_
      unfold addN at h2
      cases hh : hasN w ps[i].f0.data.toList with
      | true =>
        rw [hh] at h2
        simp only [if_true] at h2 ⊢
        exact h2
      | false =>
        rw [hh] at h2
        simp only [Bool.false_eq_true, if_false] at h2 ⊢
        simp only [if_pos (show w.length < 8796093022208 by omega)]
        exact h2
theorem Count_loop (ps : List S97) (hn : ps.length ≤ 2199023255552) (r : Int) : ∀ (d i : Nat) (c : Int), i + d = ps.length → 0 ≤ c → c ≤ i → c + ((namesL ((ps.drop i).map toP)).length : Int) = r →
    Ev (fun k => blanks_Count.l0 k c ps (ps.length : Int) (i : Int)) r := by
  intro d
  induction d with
  | zero =>
    intro i c hi h0 hc he
    rw [List.drop_eq_nil_of_le (by omega)] at he
    have he' : c = r := by rw [← he]; simp [namesL]
    refine Ev.step1 (Ev.now _) (fun k => ?_)
    simp only [blanks_Count.l0]
    rw [if_neg (by omega), he']
  | succ d ih =>
    intro i c hi h0 hc he
    have hlt : i < ps.length := by omega
    rw [List.drop_eq_getElem_cons hlt, List.map_cons, namesL_cons] at he
    unfold toP at he
    cases hf : ps[i].f1 with
    | false =>
      rw [hf] at he
      simp only [Bool.false_eq_true, if_false, List.nil_append] at he
      refine Ev.step1 (ih (i + 1) c (by omega) h0 (by omega) he) (fun k => ?_)
      simp only [blanks_Count.l0]
      rw [if_pos (by omega), if_pos (by omega), if_pos (by omega), rdT97 hlt, hf, w64 (x := (i : Int) + 1) (by omega) (by omega)]
      rfl
    | true =>
      rw [hf] at he
      simp only [if_true, List.singleton_append, List.length_cons] at he
      refine Ev.step1 (ih (i + 1) (c + 1) (by omega) (by omega) (by omega) (by rw [← he]; show c + 1 + ((namesL ((ps.drop (i + 1)).map toP)).length : Int) = c + (((namesL ((ps.drop (i + 1)).map toP)).length + 1 : Nat) : Int); omega)) (fun k => ?_)
      simp only [blanks_Count.l0]
      rw [if_pos (by omega), if_pos (by omega), if_pos (by omega), rdT97 hlt, hf, w64 (x := c + 1) (by omega) (by omega), w64 (by omega) (by omega)]
      rfl
theorem Names_spec (x : ByteArray) (hx : x.size ≤ 1048576) : Ev (fun k => blanks_Names.f k x) ((namesL (tokL x.data.toList)).foldl addN []) := by
  obtain ⟨ps, hA, hl, hE⟩ := pieces_spec x (by omega)
  unfold blanks_Names.f
  refine Ev.bind hE ?_
  exact Names_loop ps (by omega) _ ps.length 0 [] (by omega) (by simp) (by simp; omega) (by rw [List.drop_zero, hA.2])
theorem Count_spec (x : ByteArray) (hx : x.size ≤ 1048576) : Ev (fun k => blanks_Count.f k x) ((namesL (tokL x.data.toList)).length : Int) := by
  obtain ⟨ps, hA, hl, hE⟩ := pieces_spec x (by omega)
  unfold blanks_Count.f
  refine Ev.bind hE ?_
  exact Count_loop ps (by omega) _ ps.length 0 0 (by omega) (by omega) (by omega) (by rw [List.drop_zero, hA.2]; omega)
/-! ### the law -/
section
variable (x : ByteArray) (l0 : List S45) (h : Fine l0) (hx : x.size ≤ 1048576) (r : Bool)
include hx in
theorem BT_l1 (X5 : List S29) (X6 : List ByteArray) (X7 : Int) (i : Int) : ∀ (d j : Nat), j + d = x.size → Ev (fun k => glazierlaw47_BlanksTells.j2 k x l0 X5 X6 X7 i ((j + nameLen (x.data.toList.drop j) : Nat) : Int)) r → Ev (fun k => glazierlaw47_BlanksTells.l1 k x l0 X5 X6 X7 i (j : Int)) r := by
  intro d
  induction d with
  | zero =>
    intro j hj hE
    rw [List.drop_eq_nil_of_le (by rw [size_list]; omega), show nameLen [] = 0 from rfl, Nat.add_zero] at hE
    refine Ev.step1 hE (fun k => ?_)
    simp only [glazierlaw47_BlanksTells.l1]
    rw [if_neg (by omega)]
  | succ d ih =>
    intro j hj hE
    have hlt : j < x.data.toList.length := by rw [size_list]; omega
    rw [List.drop_eq_getElem_cons hlt] at hE
    unfold nameLen at hE
    rw [List.takeWhile_cons] at hE
    by_cases hq : 97 ≤ (x.data.toList[j]).toNat ∧ (x.data.toList[j]).toNat ≤ 122
    · rw [show isLow x.data.toList[j] = true from decide_eq_true hq, if_pos rfl, List.length_cons, show j + ((List.takeWhile isLow (List.drop (j + 1) x.data.toList)).length + 1) = j + 1 + (List.takeWhile isLow (List.drop (j + 1) x.data.toList)).length from by omega] at hE
      refine Ev.step1 (ih (j + 1) (by omega) hE) (fun k => ?_)
      simp only [glazierlaw47_BlanksTells.l1]
      rw [if_pos (by omega), if_pos (by omega), bt_nat hlt, if_pos (by omega), if_pos (by omega), w64 (by omega) (by omega)]
      rfl
    · rw [show isLow x.data.toList[j] = false from decide_eq_false hq] at hE
      simp only [Bool.false_eq_true, if_false, List.length_nil, Nat.add_zero] at hE
      refine Ev.step1 hE (fun k => ?_)
      simp only [glazierlaw47_BlanksTells.l1]
      rw [if_pos (by omega), if_pos (by omega), bt_nat hlt]
      by_cases h9 : 97 ≤ (x.data.toList[j]).toNat
      · rw [if_pos (by omega), if_neg (by omega)]
      · rw [if_neg (by omega)]
theorem BT_l2 (X5 : List S29) (X6 : List ByteArray) (X7 : Int) (x9 : Int) (nm : ByteArray) (hl : X6.length ≤ 1099511627776) (hE : Ev (fun k => glazierlaw47_BlanksTells.l0 k x l0 X5 (addN X6 nm.data.toList) X7 (wrap64 (x9 + 1))) r) : ∀ (d j : Nat) (b : Bool), j + d = X6.length → (b || hasN (X6.drop j) nm.data.toList) = hasN X6 nm.data.toList →
    Ev (fun k => glazierlaw47_BlanksTells.l2 k x l0 X5 X6 X7 x9 nm b (j : Int)) r := by
  intro d
  induction d with
  | zero =>
    intro j b hj hb
    rw [List.drop_eq_nil_of_le (by omega)] at hb
    have hb' : b = hasN X6 nm.data.toList := by rw [← hb]; simp [hasN]
    unfold addN at hE
    refine Ev.step1 hE (fun k => ?_)
    simp only [glazierlaw47_BlanksTells.l2]
    rw [if_neg (by omega), hb']
    by_cases h9 : hasN X6 nm.data.toList = true
    · rw [if_pos h9, if_pos h9]
    · rw [if_neg h9, if_neg h9, if_pos (by omega)]
      rfl
  | succ d ih =>
    intro j b hj hb
    have hlt : j < X6.length := by omega
    rw [List.drop_eq_getElem_cons hlt] at hb
    have e : hasN (X6[j] :: X6.drop (j + 1)) nm.data.toList = (X6[j].data.toList == nm.data.toList || hasN (X6.drop (j + 1)) nm.data.toList) := List.any_cons
    rw [e, ← Bool.or_assoc] at hb
    have h2 := ih (j + 1) _ (by omega) hb
    refine Ev.step1 h2 (fun k => ?_)
    cases b with
    | true =>
      simp only [glazierlaw47_BlanksTells.l2, if_true, Bool.true_or]
      rw [if_pos (by omega), w64 (by omega) (by omega)]
      rfl
    | false =>
      simp only [glazierlaw47_BlanksTells.l2, Bool.false_eq_true, if_false, Bool.false_or]
      rw [if_pos (by omega), if_pos (by omega), rdOfB' hlt, ByteArray.toList_eq, ByteArray.toList_eq, w64 (by omega) (by omega)]
      rfl
include h hx in
theorem BT_l0 (T : List Lc) (NS : List ByteArray) (C : Int) (hE : ∀ i : Int, (x.size : Int) ≤ i → Ev (fun k => glazierlaw47_BlanksTells.l0 k x l0 (T.map toC) NS C i) r) : ∀ (d i : Nat) (w : List Lc) (nms : List ByteArray) (c : Int), i + d = x.size → w.length ≤ i * 1048576 → nms.length ≤ i → 0 ≤ c → c ≤ i →
    w ++ (tokL (x.data.toList.drop i)).flatMap (dn (valL l0)) = T → (namesL (tokL (x.data.toList.drop i))).foldl addN nms = NS → c + ((namesL (tokL (x.data.toList.drop i))).length : Int) = C →
    Ev (fun k => glazierlaw47_BlanksTells.l0 k x l0 (w.map toC) nms c (i : Int)) r := by
  intro d
  induction d using Nat.strongRecOn with
  | _ d ih =>
  intro i w nms c hi hw hnm hc0 hci hT hN hC
  by_cases hlt0 : i < x.size
  · have hlt : i < x.data.toList.length := by rw [size_list]; exact hlt0
    have hbt := bt_nat hlt
    have hd := List.drop_eq_getElem_cons hlt
    have hll : (x.data.toList.drop (i + 1)).length = x.size - (i + 1) := by rw [List.length_drop, size_list]
    have hnl := nameLen_le (x.data.toList.drop (i + 1))
    rw [hd] at hT hN hC
    generalize hg : x.data.toList.drop (i + 1) = l at hT hN hC hll hnl
    generalize hcc : x.data.toList[i] = b at hT hN hC hbt
    have hw3 : w.length < 8796093022208 := by have : i * 1048576 ≤ 1048576 * 1048576 := Nat.mul_le_mul_right _ (by omega); omega
    -- a byte that stands for itself
    have push : ∀ (v : Int), v = (b.toNat : Int) → tokL (b :: l) = ([b], false) :: tokL l → Ev (fun k => glazierlaw47_BlanksTells.l0 k x l0 (w.map toC ++ [⟨v, 0⟩]) nms c ((i : Int) + 1)) r := by
      intro v hv he
      rw [he] at hT hN hC
      rw [List.flatMap_cons, ← List.append_assoc] at hT
      rw [namesL_cons] at hN hC
      have h2 := ih (d - 1) (by omega) (i + 1) (w ++ dn (valL l0) ([b], false)) nms c (by omega) (by rw [List.length_append, show (dn (valL l0) ([b], false)).length = 1 from rfl, Nat.add_mul]; omega) (by omega) hc0 (by omega) (by rw [hg]; exact hT) (by rw [hg]; exact hN) (by rw [hg]; exact hC)
      rw [List.map_append] at h2
      subst hv
      exact h2
    have hget1 : ∀ (j : Nat) (hj : j < l.length), bt x (((i + 1 + j : Nat)) : Int) = (l[j].toNat : Int) := by
      intro j hj
      have h3 : i + 1 + j < x.data.toList.length := by rw [size_list]; omega
      rw [bt_nat h3]
      subst hg
      rw [List.getElem_drop]
    refine Ev.step1 (f := fun k => glazierlaw47_BlanksTells.l1 k x l0 (w.map toC) nms c (i : Int) ((i + 1 : Nat) : Int)) ?_ (fun k => by
      simp only [glazierlaw47_BlanksTells.l0]
      rw [if_pos (by omega), w64 (by omega) (by omega)]
      rfl)
    refine BT_l1 x l0 hx r _ nms c (i : Int) (d - 1) (i + 1) (by omega) ?_
    rw [hg]
    by_cases hb : b = 123
    · subst hb
      have e123 : bt x (i : Int) = 123 := hbt
      by_cases hhd : l.head? = some 123
      · -- two braces
        have hl0 : 0 < l.length := by cases l with | nil => simp at hhd | cons => simp
        have hb1 : bt x ((i : Int) + 1) = 123 := by
          have h3 := hget1 0 hl0
          rw [show ((i + 1 + 0 : Nat) : Int) = (i : Int) + 1 from by omega] at h3
          rw [h3]
          cases l with
          | nil => simp at hhd
          | cons y l => simp at hhd; subst hhd; rfl
        have ho : tokOne l = (([123], false), 2) := by unfold tokOne; rw [if_pos hhd]
        rw [tokL_brace, ho] at hT hN hC
        have hdr : l.drop (2 - 1) = x.data.toList.drop (i + 2) := by rw [← hg, List.drop_drop]
        simp only [hdr] at hT hN hC
        rw [List.flatMap_cons, ← List.append_assoc] at hT
        rw [namesL_cons] at hN hC
        have h2 := ih (d - 2) (by omega) (i + 2) (w ++ dn (valL l0) ([123], false)) nms c (by omega) (by rw [List.length_append, show (dn (valL l0) ([123], false)).length = 1 from rfl, Nat.add_mul]; omega) (by omega) hc0 (by omega) hT hN hC
        rw [List.map_append] at h2
        refine Ev.step1 (f := fun k => glazierlaw47_BlanksTells.j3 k x l0 (w.map toC) nms c (i : Int) ((i + 1 + nameLen l : Nat) : Int) true) ?_ (fun k => by
          simp only [glazierlaw47_BlanksTells.j2]
          rw [if_pos (by omega), if_pos (by omega), if_pos e123, w64 (by omega) (by omega), if_pos (by omega), if_pos (by omega), hb1]
          rfl)
        refine Ev.step1 h2 (fun k => ?_)
        simp only [glazierlaw47_BlanksTells.j3, if_true, List.length_map]
        rw [if_pos hw3, w64 (x := (i : Int) + 1) (by omega) (by omega), w64 (x := (i : Int) + 1 + 1) (by omega) (by omega), show (i : Int) + 1 + 1 = ((i + 2 : Nat) : Int) from by omega]
        rfl
      · -- no second brace
        refine Ev.step1 (f := fun k => glazierlaw47_BlanksTells.j3 k x l0 (w.map toC) nms c (i : Int) ((i + 1 + nameLen l : Nat) : Int) false) ?_ (fun k => by
          simp only [glazierlaw47_BlanksTells.j2]
          rw [if_pos (by omega), if_pos (by omega), if_pos e123, w64 (by omega) (by omega)]
          by_cases hq : (i : Int) + 1 < (x.size : Int)
          · have hl0 : 0 < l.length := by omega
            have hb1 : (bt x ((i : Int) + 1) == 123) = false := by
              have h3 := hget1 0 hl0
              rw [show ((i + 1 + 0 : Nat) : Int) = (i : Int) + 1 from by omega] at h3
              rw [h3, beq_eq_false_iff_ne]
              intro h4
              refine hhd ?_
              rw [List.head?_eq_getElem?, List.getElem?_eq_getElem hl0]
              exact congrArg some ((u8_eq (n := 123) (by decide)).1 h4)
            rw [if_pos hq, if_pos (by omega), hb1]
          · rw [if_neg hq])
        by_cases hnn : 0 < nameLen l ∧ l[nameLen l]? = some 125
        · -- a name
          have hlt9 := (List.getElem?_eq_some_iff.1 hnn.2).1
          have hb9 : bt x ((i + 1 + nameLen l : Nat) : Int) = 125 := by
            rw [hget1 _ hlt9, (List.getElem?_eq_some_iff.1 hnn.2).2]
            rfl
          have ho : tokOne l = ((l.take (nameLen l), true), nameLen l + 2) := by unfold tokOne; rw [if_neg hhd, if_pos hnn]
          rw [tokL_brace, ho] at hT hN hC
          have hdr : l.drop (nameLen l + 2 - 1) = x.data.toList.drop (i + nameLen l + 2) := by rw [← hg, List.drop_drop]; congr 1; omega
          simp only [hdr] at hT hN hC
          rw [List.flatMap_cons, ← List.append_assoc] at hT
          rw [namesL_cons] at hN hC
          have hnm2 : (x.extract (i + 1) (i + 1 + nameLen l)).data.toList = l.take (nameLen l) := by
            rw [extract_list, List.drop_take, hg]
            congr 1
            omega
          have hvl := valL_length h (l.take (nameLen l))
          have hdl : dn (valL l0) (l.take (nameLen l), true) = valL l0 (l.take (nameLen l)) := rfl
          rw [hdl] at hT
          have h2 := ih (d - (nameLen l + 2)) (by omega) (i + nameLen l + 2) (w ++ valL l0 (l.take (nameLen l))) (addN nms (l.take (nameLen l))) (c + 1) (by omega) (by rw [List.length_append, show i + nameLen l + 2 = i + (nameLen l + 2) from by omega, Nat.add_mul]; omega) (by have := addN_length nms (l.take (nameLen l)); omega) (by omega) (by omega) hT hN (by
            rw [← hC, List.length_append]
            show c + 1 + _ = c + (((1 + _ : Nat)) : Int)
            omega)
          rw [List.map_append] at h2
          refine Ev.step1 (f := fun k => glazierlaw47_BlanksTells.j4 k x l0 (w.map toC) nms c (i : Int) ((i + 1 + nameLen l : Nat) : Int) true) ?_ (fun k => by
            simp only [glazierlaw47_BlanksTells.j3, Bool.false_eq_true, if_false]
            rw [if_pos (by omega), if_pos (by omega), if_pos e123, w64 (by omega) (by omega), if_pos (by omega), if_pos (by omega), if_pos (by omega), hb9]
            rfl)
          refine Ev.step1 (f := fun k => (attrs_Get.f k l0 (x.extract (i + 1) (i + 1 + nameLen l))).bind fun bt761 => (glazierref01_Of.f k bt761.1 bt761.2.1).bind fun t767 => (glazierref01_Cat.f (w.map toC) t767).bind fun t770 => glazierlaw47_BlanksTells.l2 k x l0 t770 nms (c + 1) ((i + 1 + nameLen l : Nat) : Int) (x.extract (i + 1) (i + 1 + nameLen l)) false 0) ?_ (fun k => by
            simp only [glazierlaw47_BlanksTells.j4, if_true]
            rw [w64 (x := (i : Int) + 1) (by omega) (by omega), w64 (x := c + 1) (by omega) (by omega), if_pos (by omega), if_pos (by omega), if_pos (by omega), show ((i : Int) + 1).toNat = i + 1 from by omega, show ((i + 1 + nameLen l : Nat) : Int).toNat = i + 1 + nameLen l from by omega])
          refine Ev.bind (Get_spec l0 _ h) ?_
          rw [hnm2]
          have hvc := canon_runs (valL l0 (l.take (nameLen l)))
          have hof := RefOf_spec (canon (valL l0 (l.take (nameLen l)))).1 (canon (valL l0 (l.take (nameLen l)))).2 (by rw [canon_size]; omega) (by omega)
          rw [La_canon (valL_ok _ _)] at hof
          refine Ev.bind hof ?_
          simp only [RefCat' (w.map toC) ((valL l0 (l.take (nameLen l))).map toC) (by rw [List.length_map, List.length_map]; have : i * 1048576 ≤ 1048576 * 1048576 := Nat.mul_le_mul_right _ (by omega); omega), Option.bind_some]
          refine BT_l2 x l0 r _ nms (c + 1) _ _ (by omega) ?_ nms.length 0 false (by omega) (by simp)
          rw [hnm2, w64 (by omega) (by omega), show ((i + 1 + nameLen l : Nat) : Int) + 1 = ((i + nameLen l + 2 : Nat) : Int) from by omega]
          exact h2
        · -- a brace that stands for itself
          have ho : tokOne l = (([123], false), 1) := by unfold tokOne; rw [if_neg hhd, if_neg hnn]
          have h2 := push 123 rfl (by rw [tokL_brace, ho]; rfl)
          refine Ev.step1 (f := fun k => glazierlaw47_BlanksTells.j4 k x l0 (w.map toC) nms c (i : Int) ((i + 1 + nameLen l : Nat) : Int) false) ?_ (fun k => by
            simp only [glazierlaw47_BlanksTells.j3, Bool.false_eq_true, if_false]
            rw [if_pos (by omega), if_pos (by omega), if_pos e123, w64 (by omega) (by omega)]
            by_cases q1 : 0 < nameLen l
            · rw [if_pos (by omega)]
              by_cases q2 : nameLen l < l.length
              · have hb9 : (bt x ((i + 1 + nameLen l : Nat) : Int) == 125) = false := by
                  rw [hget1 _ q2, beq_eq_false_iff_ne]
                  intro h4
                  refine hnn ⟨q1, ?_⟩
                  rw [List.getElem?_eq_getElem q2]
                  exact congrArg some ((u8_eq (n := 125) (by decide)).1 h4)
                rw [if_pos (by omega), if_pos (by omega), hb9]
              · rw [if_neg (by omega)]
            · rw [if_neg (by omega)])
          refine Ev.step1 h2 (fun k => ?_)
          simp only [glazierlaw47_BlanksTells.j4, Bool.false_eq_true, if_false, List.length_map]
          rw [if_pos (by omega), if_pos (by omega), if_pos hw3, e123, w64 (by omega) (by omega)]
    · -- another byte
      have hne : ¬ bt x (i : Int) = 123 := fun h4 => hb ((u8_eq (n := 123) (by decide)).1 (hbt.symm.trans h4))
      have h2 := push _ rfl (tokL_text b l hb)
      refine Ev.step1 (f := fun k => glazierlaw47_BlanksTells.j3 k x l0 (w.map toC) nms c (i : Int) ((i + 1 + nameLen l : Nat) : Int) false) ?_ (fun k => by
        simp only [glazierlaw47_BlanksTells.j2]
        rw [if_pos (by omega), if_pos (by omega), if_neg hne])
      refine Ev.step1 (f := fun k => glazierlaw47_BlanksTells.j4 k x l0 (w.map toC) nms c (i : Int) ((i + 1 + nameLen l : Nat) : Int) false) ?_ (fun k => by
        simp only [glazierlaw47_BlanksTells.j3, Bool.false_eq_true, if_false]
        rw [if_pos (by omega), if_pos (by omega), if_neg hne])
      refine Ev.step1 h2 (fun k => ?_)
      simp only [glazierlaw47_BlanksTells.j4, Bool.false_eq_true, if_false, List.length_map]
      rw [if_pos (by omega), if_pos (by omega), if_pos hw3, hbt, w64 (by omega) (by omega)]
  · rw [List.drop_eq_nil_of_le (by rw [size_list]; omega)] at hT hN hC
    have e0 : tokL [] = [] := by rw [tokL]
    rw [e0] at hT hN hC
    have e1 : w = T := by rw [← hT]; simp
    have e2 : nms = NS := hN
    have e3 : c = C := by rw [← hC]; simp [namesL]
    rw [e1, e2, e3]
    exact hE _ (by omega)
end
theorem names_length (l : List UInt8) : (namesL (tokL l)).length ≤ l.length := by
  have key : ∀ (n : Nat) (l : List UInt8), l.length = n → (namesL (tokL l)).length ≤ l.length := by
    intro n
    induction n using Nat.strongRecOn with
    | _ n ih =>
    intro l hl
    cases l with
    | nil => simp [tokL, namesL]
    | cons b l =>
      by_cases hb : b = 123
      · subst hb
        have h4 := ih (l.drop ((tokOne l).2 - 1)).length (by rw [List.length_drop]; simp at hl; omega) _ rfl
        rw [tokL_brace, namesL_cons, List.length_append, List.length_cons]
        rw [List.length_drop] at h4
        split <;> simp <;> omega
      · have h4 := ih l.length (by simp at hl; omega) l rfl
        rw [tokL_text b l hb, namesL_cons, List.length_append, List.length_cons]
        simp
        omega
  exact key _ l rfl
theorem fold_length : ∀ (ns : List (List UInt8)) (w : List ByteArray), (ns.foldl addN w).length ≤ w.length + ns.length
  | [], w => by simp
  | n :: ns, w => by
    have h1 := fold_length ns (addN w n)
    have h2 := addN_length w n
    rw [List.foldl_cons, List.length_cons]
    omega
theorem BlanksTells_pure (x : ByteArray) (l0 : List S45) (hx : x.size ≤ 1048576) (hl : (l0.map wt45).sum + 1 ≤ 1048576) : ∃ k, glazierlaw47_BlanksTells.f k x l0 = some true := by
  refine Ev.rounds ?_
  have h := fine_of hl
  unfold glazierlaw47_BlanksTells.f
  refine Ev.bind Blanks_alive' ?_
  simp only [if_true]
  refine BT_l0 x l0 h hx true _ _ _ (fun i hi => ?_) x.size 0 [] [] 0 (by omega) (by simp) (by simp) (by omega) (by omega) rfl rfl rfl
  rw [List.drop_zero]
  have hfl := fill_length h x.data.toList (by rw [size_list]; exact hx)
  have hnl := names_length x.data.toList
  rw [size_list] at hnl
  have hfo := fold_length (namesL (tokL x.data.toList)) []
  refine Ev.step1 (f := fun k => (blanks_Fill.f k x l0).bind fun b => _) ?_ (fun k => by
    simp only [glazierlaw47_BlanksTells.l0]
    rw [if_neg (by omega)])
  refine Ev.bind (Fill_spec x l0 h hx) (Ev.bind (Is_spec _ (by simpa using hfl)) ?_)
  simp only [if_true]
  refine Ev.bind (Names_spec x hx) (Ev.bind (Texts_spec _ (by simp at hfo; omega)) ?_)
  simp only [if_true]
  exact Ev.bind (Count_spec x hx) (Ev.eq (Ev.now true) (fun _ => by rw [Int.zero_add, beq_self_eq_true]))
end Go.Proofs.Ytljmmhihdcnbaaa.G
