/- PercentTells: what is encoded and decoded is byte by byte what the page says. -/
import Derived.Test.YtljmmhihdcnbaaaPh
import Derived.Test.YtljmmhihdcnbaaaPj
import Derived.Test.YtljmmhihdcnbaaaG49
namespace Go.Proofs.Ytljmmhihdcnbaaa.G
open Go.RowKit Go.Proofs.YtljmmhihdcnbaaaW.PrintWords Go.Proofs.YtljmmhihdcnbaaaW.PrintLast Go.Proofs.YtljmmhihdcnbaaaW.PrintMore
set_option linter.unusedVariables false
set_option linter.unusedSimpArgs false
theorem enc_text (c : UInt8) : ((⟨#[37]⟩ : ByteArray) ++ digits.extract (c.toNat / 16) (c.toNat / 16 + 1)) ++ digits.extract (c.toNat % 16) (c.toNat % 16 + 1) = bytesA (enc3 c) := by
  have := byte_all' (fun c => (((⟨#[37]⟩ : ByteArray) ++ digits.extract (c.toNat / 16) (c.toNat / 16 + 1)) ++ digits.extract (c.toNat % 16) (c.toNat % 16 + 1)).data.toList == enc3 c) (by decide +kernel) c
  apply ByteArray.ext
  apply Array.toList_inj.1
  exact beq_iff_eq.1 this
theorem enc_sizes (c : UInt8) : ((⟨#[37]⟩ : ByteArray) ++ digits.extract (c.toNat / 16) (c.toNat / 16 + 1)).size + (digits.extract (c.toNat % 16) (c.toNat % 16 + 1)).size = 3 ∧ 1 + (digits.extract (c.toNat / 16) (c.toNat / 16 + 1)).size ≤ 3 := by
  have := byte_all' (fun c => decide (((⟨#[37]⟩ : ByteArray) ++ digits.extract (c.toNat / 16) (c.toNat / 16 + 1)).size + (digits.extract (c.toNat % 16) (c.toNat % 16 + 1)).size = 3 ∧ 1 + (digits.extract (c.toNat / 16) (c.toNat / 16 + 1)).size ≤ 3)) (by decide +kernel) c
  exact of_decide_eq_true this
theorem PercentTells_l0 (t : ByteArray) (rs : List S85) (ht : t.size ≤ 1048576) (a : Int) (r : Bool) (h : Ev (fun k => glazierlaw05_PercentTells.l1 k a ((La t rs).map toC) ((encL (La t rs)).map toC) [] 0 t rs) r) : ∀ (d i : Nat) (w : List Lc), i + d = (La t rs).length → w.length ≤ 3 * i → w ++ encL ((La t rs).drop i) = encL (La t rs) →
    Ev (fun k => glazierlaw05_PercentTells.l0 k a ((La t rs).map toC) digits (w.map toC) (i : Int) t rs) r := by
  have hn := La_length t rs
  have hO := La_ok t rs
  intro d
  induction d with
  | zero =>
    intro i w hi hw he
    rw [List.drop_eq_nil_of_le (by omega), show encL [] = [] from rfl, List.append_nil] at he
    subst he
    refine Ev.step1 h (fun k => ?_)
    simp only [glazierlaw05_PercentTells.l0]
    rw [List.length_map, if_neg (by omega)]
  | succ d ih =>
    intro i w hi hw he
    have hlt : i < (La t rs).length := by omega
    have ho := hO.get hlt
    rw [List.drop_eq_getElem_cons hlt, encL_cons, ← List.append_assoc] at he
    have h2 := ih (i + 1) _ (by omega) (by rw [List.length_append]; have := encC_length (La t rs)[i]; omega) he
    have hc := (La t rs)[i].1.toNat_lt
    have q1 : Int.tdiv ((La t rs)[i].1.toNat : Int) 16 = (((La t rs)[i].1.toNat / 16 : Nat) : Int) := by rw [Int.tdiv_eq_ediv_of_nonneg (by omega)]; omega
    have q2 : Int.tmod ((La t rs)[i].1.toNat : Int) 16 = (((La t rs)[i].1.toNat % 16 : Nat) : Int) := by rw [Int.tmod_eq_emod_of_nonneg (by omega)]; omega
    have q3 : (((La t rs)[i].1.toNat / 16 : Nat) : Int) % 256 = (((La t rs)[i].1.toNat / 16 : Nat) : Int) := by omega
    have q4 : ((((La t rs)[i].1.toNat / 16 : Nat) : Int) + 1) % 256 = (((La t rs)[i].1.toNat / 16 + 1 : Nat) : Int) := by omega
    have q5 : ((((La t rs)[i].1.toNat % 16 : Nat) : Int) + 1) % 256 = (((La t rs)[i].1.toNat % 16 + 1 : Nat) : Int) := by omega
    have hz := enc_sizes (La t rs)[i].1
    have hds : digits.size = 16 := rfl
    refine Ev.step1 (f := fun k => (glazierlaw05_plain.f k ((La t rs)[i].1.toNat : Int)).bind fun t511 => if t511 = true then glazierlaw05_PercentTells.l0 k a ((La t rs).map toC) digits (w.map toC ++ [toC (La t rs)[i]]) ((i : Int) + 1) t rs else (glazierref01_All.f k (bytesA (enc3 (La t rs)[i].1)) (La t rs)[i].2).bind fun t521 => if (w.map toC).length + t521.length < 8796093022208 then glazierlaw05_PercentTells.l0 k a ((La t rs).map toC) digits (w.map toC ++ t521) ((i : Int) + 1) t rs else none) ?_ (fun k => by
      simp only [glazierlaw05_PercentTells.l0]
      rw [List.length_map, if_pos (by omega), if_pos (by omega)]
      simp only [rdC hlt]
      have f0 : (toC (La t rs)[i]).f0 = ((La t rs)[i].1.toNat : Int) := rfl
      have f1 : (toC (La t rs)[i]).f1 = (La t rs)[i].2 := rfl
      have fe : (⟨((La t rs)[i].1.toNat : Int), (La t rs)[i].2⟩ : S29) = toC (La t rs)[i] := rfl
      simp only [f0, f1, fe, q1, q2, q3, q4, q5, Int.toNat_natCast, List.length_map]
      rw [w64 (x := (i : Int) + 1) (by omega) (by omega)]
      simp only [if_pos (show w.length < 8796093022208 by omega), if_pos (show (0 : Int) ≤ (((La t rs)[i].1.toNat / 16 : Nat) : Int) by omega), if_pos (show (0 : Int) ≤ (((La t rs)[i].1.toNat % 16 : Nat) : Int) by omega), if_pos (show (((La t rs)[i].1.toNat / 16 : Nat) : Int) ≤ (((La t rs)[i].1.toNat / 16 + 1 : Nat) : Int) by omega), if_pos (show (((La t rs)[i].1.toNat % 16 : Nat) : Int) ≤ (((La t rs)[i].1.toNat % 16 + 1 : Nat) : Int) by omega), hds, if_pos (show (((La t rs)[i].1.toNat / 16 + 1 : Nat) : Int) ≤ ((16 : Nat) : Int) by omega), if_pos (show (((La t rs)[i].1.toNat % 16 + 1 : Nat) : Int) ≤ ((16 : Nat) : Int) by omega), if_pos (show 1 + (digits.extract ((La t rs)[i].1.toNat / 16) ((La t rs)[i].1.toNat / 16 + 1)).size ≤ 9223372036854775807 by omega), if_pos (show ((⟨#[37]⟩ : ByteArray) ++ digits.extract ((La t rs)[i].1.toNat / 16) ((La t rs)[i].1.toNat / 16 + 1)).size + (digits.extract ((La t rs)[i].1.toNat % 16) ((La t rs)[i].1.toNat % 16 + 1)).size ≤ 9223372036854775807 by omega), enc_text])
    refine Ev.bind (plain_ev _) ?_
    rw [List.map_append] at h2
    unfold encC at h2
    cases hp : plainB (La t rs)[i].1 with
    | true =>
      rw [if_pos hp] at h2
      simp only [if_true]
      exact h2
    | false =>
      rw [if_neg (by rw [hp]; simp)] at h2
      simp only [Bool.false_eq_true, if_false]
      refine Ev.bind (RefAll_spec _ _ (by rw [bytesA_size]; simp [enc3])) ?_
      have e : allO (bytesA (enc3 (La t rs)[i].1)).data.toList (La t rs)[i].2 = (enc3 (La t rs)[i].1).map fun b => (b, (La t rs)[i].2) := by
        unfold allO
        rw [nr_of ho.1 ho.2]
        rfl
      rw [e]
      simp only [List.length_map, if_pos (show w.length + (enc3 (La t rs)[i].1).length < 8796093022208 by simp [enc3]; omega)]
      exact h2
theorem PercentTells_l1 (t : ByteArray) (rs : List S85) (ht : t.size ≤ 1048576) (a : Int) (x7 : List S29) (r : Bool) (h : Ev (fun k => glazierlaw05_PercentTells.l1 k a ((La t rs).map toC) x7 ((decL (La t rs)).map toC) ((La t rs).length : Int) t rs) r) : ∀ (d i : Nat) (w : List Lc), i + d = (La t rs).length → w.length ≤ i → w ++ decL ((La t rs).drop i) = decL (La t rs) →
    Ev (fun k => glazierlaw05_PercentTells.l1 k a ((La t rs).map toC) x7 (w.map toC) (i : Int) t rs) r := by
  have hn := La_length t rs
  have hO := La_ok t rs
  intro d
  induction d using Nat.strongRecOn with
  | _ d ih =>
  intro i w hi hw he
  by_cases hlt : i < (La t rs).length
  · -- the step for a byte that is no code
    have hno : (∀ h' : i + 2 < (La t rs).length, isCode (La t rs)[i].1 (La t rs)[i + 1].1 (La t rs)[i + 2].1 = false) → Ev (fun k => glazierlaw05_PercentTells.j2 k a ((La t rs).map toC) x7 (w.map toC) (i : Int) false t rs) r := by
      intro hc
      rw [decL_no hlt hc, List.append_cons] at he
      have h2 := ih (d - 1) (by omega) (i + 1) _ (by omega) (by simp; omega) he
      rw [List.map_append] at h2
      refine Ev.step1 h2 (fun k => ?_)
      simp only [glazierlaw05_PercentTells.j2, Bool.false_eq_true, if_false, List.length_map]
      rw [if_pos (by omega), if_pos (by omega), if_pos (by omega), rdC hlt, w64 (by omega) (by omega)]
      rfl
    have b0 : (toC (La t rs)[i]).f0 = ((La t rs)[i].1.toNat : Int) := rfl
    by_cases h37 : (La t rs)[i].1 = 37
    · have e37 : ((La t rs)[i].1.toNat : Int) = 37 := by rw [h37]; rfl
      by_cases h2 : i + 2 < (La t rs).length
      · have h1 : i + 1 < (La t rs).length := by omega
        have b1 : (rd_T29 ((La t rs).map toC) ((i : Int) + 1)).f0 = ((La t rs)[i + 1].1.toNat : Int) := by
          have := rdC h1
          rw [show ((i + 1 : Nat) : Int) = (i : Int) + 1 from rfl] at this
          rw [this]
          rfl
        have b2 : (rd_T29 ((La t rs).map toC) ((i : Int) + 2)).f0 = ((La t rs)[i + 2].1.toNat : Int) := by
          have := rdC h2
          rw [show ((i + 2 : Nat) : Int) = (i : Int) + 2 from rfl] at this
          rw [this]
          rfl
        have r1 := hexV_range (La t rs)[i + 1].1
        have r2 := hexV_range (La t rs)[i + 2].1
        refine Ev.step1 (f := fun k => (glazierlaw05_hex.f k ((La t rs)[i + 1].1.toNat : Int)).bind fun t529 => if t529 ≥ 0 then (glazierlaw05_hex.f k ((La t rs)[i + 2].1.toNat : Int)).bind fun t531 => glazierlaw05_PercentTells.j2 k a ((La t rs).map toC) x7 (w.map toC) (i : Int) (decide (t531 ≥ 0)) t rs else glazierlaw05_PercentTells.j2 k a ((La t rs).map toC) x7 (w.map toC) (i : Int) false t rs) ?_ (fun k => by
          simp only [glazierlaw05_PercentTells.l1, List.length_map]
          rw [if_pos (by omega), if_pos (by omega), rdC hlt, b0, if_pos e37, w64 (x := (i : Int) + 2) (by omega) (by omega), w64 (x := (i : Int) + 1) (by omega) (by omega), if_pos (by omega), if_pos (by omega), if_pos (by omega), b1, b2]
          simp only [if_pos (show (0 : Int) ≤ (i : Int) + 2 by omega)])
        refine Ev.bind (hex_ev _) ?_
        by_cases hA : 0 ≤ hexV (La t rs)[i + 1].1
        · simp only [if_pos (show hexV (La t rs)[i + 1].1 ≥ 0 from hA)]
          refine Ev.bind (hex_ev _) ?_
          by_cases hB : 0 ≤ hexV (La t rs)[i + 2].1
          · rw [show decide (hexV (La t rs)[i + 2].1 ≥ 0) = true from decide_eq_true hB]
            have hc : isCode (La t rs)[i].1 (La t rs)[i + 1].1 (La t rs)[i + 2].1 = true := by unfold isCode; rw [h37, decide_eq_true hA, decide_eq_true hB]; rfl
            rw [decL_yes h2 hc, List.append_cons] at he
            have h3 := ih (d - 3) (by omega) (i + 3) _ (by omega) (by simp; omega) he
            rw [List.map_append] at h3
            refine Ev.step1 (f := fun k => (glazierlaw05_hex.f k ((La t rs)[i + 1].1.toNat : Int)).bind fun t533 => (glazierlaw05_hex.f k ((La t rs)[i + 2].1.toNat : Int)).bind fun t535 => (glazierref01_Worst.f k (((La t rs).map toC).take (i + 3) |>.drop i)).bind fun t540 => glazierlaw05_PercentTells.l1 k a ((La t rs).map toC) x7 (w.map toC ++ [⟨wrap64 (wrap64 (16 * t533) + t535) % 256, t540⟩]) ((i : Int) + 3) t rs) ?_ (fun k => by
              simp only [glazierlaw05_PercentTells.j2, if_true, List.length_map]
              rw [w64 (x := (i : Int) + 2) (by omega) (by omega), w64 (x := (i : Int) + 1) (by omega) (by omega), w64 (x := (i : Int) + 3) (by omega) (by omega), w64 (x := (i : Int) + 2 + 1) (by omega) (by omega), if_pos (by omega), if_pos (by omega), b1, b2]
              simp only [if_pos (show (0 : Int) ≤ (i : Int) + 2 by omega), if_pos (show (i : Int) + 2 < ((La t rs).length : Int) by omega), if_pos (show (0 : Int) ≤ (i : Int) by omega), if_pos (show (i : Int) ≤ (i : Int) + 3 by omega), if_pos (show (i : Int) + 3 ≤ ((La t rs).length : Int) by omega), if_pos (show w.length < 8796093022208 by omega), show ((i : Int) + 3).toNat = i + 3 by omega, show (i : Int).toNat = i by omega, show (i : Int) + 2 + 1 = (i : Int) + 3 by omega])
            refine Ev.bind (hex_ev _) (Ev.bind (hex_ev _) ?_)
            rw [← List.map_take, ← List.map_drop]
            have e3 : ((La t rs).take (i + 3)).drop i = [(La t rs)[i], (La t rs)[i + 1], (La t rs)[i + 2]] := by
              have := cut_three h2
              have e4 := cutL_nat (La t rs) i (i + 3) (by omega) (by omega)
              rw [← this, ← e4]
              rfl
            rw [e3]
            refine Ev.bind (RefWorst_spec _ (by simp)) ?_
            have o0 := hO.get hlt
            have o1 := hO.get h1
            have o2 := hO.get h2
            have ew : worst ([(La t rs)[i], (La t rs)[i + 1], (La t rs)[i + 2]].map (·.2)) = max (max (La t rs)[i].2 (La t rs)[i + 1].2) (La t rs)[i + 2].2 := by
              unfold worst
              simp only [List.map_cons, List.map_nil, List.foldl_cons, List.foldl_nil]
              omega
            have ev : wrap64 (wrap64 (16 * hexV (La t rs)[i + 1].1) + hexV (La t rs)[i + 2].1) % 256 = ((byteOf (La t rs)[i + 1].1 (La t rs)[i + 2].1).toNat : Int) := by
              rw [w64 (x := 16 * hexV (La t rs)[i + 1].1) (by omega) (by omega), w64 (by omega) (by omega)]
              unfold byteOf
              have : (16 * hexV (La t rs)[i + 1].1 + hexV (La t rs)[i + 2].1).toNat < 256 := by omega
              simp [Nat.mod_eq_of_lt this]
              omega
            rw [ew, ev]
            exact h3
          · rw [show decide (hexV (La t rs)[i + 2].1 ≥ 0) = false from decide_eq_false hB]
            exact hno (fun _ => by unfold isCode; rw [decide_eq_false hB]; simp)
        · simp only [if_neg (show ¬ hexV (La t rs)[i + 1].1 ≥ 0 from hA)]
          exact hno (fun _ => by unfold isCode; rw [decide_eq_false hA]; simp)
      · refine Ev.step1 (hno (fun h' => absurd h' h2)) (fun k => ?_)
        simp only [glazierlaw05_PercentTells.l1, List.length_map]
        rw [if_pos (by omega), if_pos (by omega), rdC hlt, b0, if_pos e37, w64 (x := (i : Int) + 2) (by omega) (by omega), if_neg (by omega)]
    · have e37 : ¬ ((La t rs)[i].1.toNat : Int) = 37 := fun h5 => h37 ((u8_eq (n := 37) (by decide)).1 h5)
      refine Ev.step1 (hno (fun _ => by unfold isCode; rw [beq_eq_false_iff_ne.2 h37]; rfl)) (fun k => ?_)
      simp only [glazierlaw05_PercentTells.l1, List.length_map]
      rw [if_pos (by omega), if_pos (by omega), rdC hlt, b0, if_neg e37]
  · rw [List.drop_eq_nil_of_le (by omega), decL, List.append_nil] at he
    subst he
    rw [show i = (La t rs).length by omega]
    exact h
theorem decL_okl {l : List Lc} (h : Okl l) : Okl (decL l) := by
  have key : ∀ (n : Nat) (l : List Lc), l.length = n → Okl l → Okl (decL l) := by
    intro n
    induction n using Nat.strongRecOn with
    | _ n ih =>
    intro l hl h
    match l, h with
    | [], _ => exact Okl.nil
    | [a], h => exact h
    | [a, b], h => exact h
    | a :: b :: c :: l, h =>
      rw [decL]
      have ha := h a (by simp)
      have hb := h b (by simp)
      have hc := h c (by simp)
      split
      · refine Okl.app (a := [_]) (Okl.one ?_) (ih l.length (by simp at hl; omega) l rfl (h.sub fun x hx => by simp [hx]))
        simp only
        constructor <;> omega
      · exact Okl.app (a := [a]) (Okl.one ha) (ih (b :: c :: l).length (by simp at hl ⊢; omega) _ rfl (h.sub fun x hx => by simp at hx ⊢; exact .inr hx))
  exact key _ l rfl h
theorem decL_length (l : List Lc) : (decL l).length ≤ l.length := by
  have key : ∀ (n : Nat) (l : List Lc), l.length = n → (decL l).length ≤ l.length := by
    intro n
    induction n using Nat.strongRecOn with
    | _ n ih =>
    intro l hl
    match l with
    | [] => simp [decL]
    | [a] => simp [decL]
    | [a, b] => simp [decL]
    | a :: b :: c :: l =>
      rw [decL]
      split
      · have := ih l.length (by simp at hl; omega) l rfl
        simp only [List.length_cons]
        omega
      · have := ih (b :: c :: l).length (by simp at hl ⊢; omega) _ rfl
        simp only [List.length_cons] at this ⊢
        omega
  exact key _ l rfl
theorem PercentTells_pure (t : ByteArray) (rs : List S85) (a : Int) (ht : t.size ≤ 1048576) (hr : rs.length ≤ 1048576) (ha : (Lit.int .u8 a).wf = true) : ∃ k, glazierlaw05_PercentTells.f k t rs a = some true := by
  refine Ev.rounds ?_
  obtain ⟨c, rfl⟩ := wf_byte ha
  unfold glazierlaw05_PercentTells.f
  refine Ev.bind Percent_alive ?_
  simp only [if_true]
  have hn := La_length t rs
  have he := encL_length (La t rs)
  have hd := decL_length (La t rs)
  refine Ev.bind (RefOf_spec t rs (by omega) (by omega)) ?_
  refine PercentTells_l0 t rs ht _ true ?_ (La t rs).length 0 [] (by omega) (by simp) (by simp)
  refine PercentTells_l1 t rs ht _ _ true ?_ (La t rs).length 0 [] (by omega) (by simp) (by simp)
  refine Ev.step1 (f := fun k => (percent_Encode.f k t rs).bind fun b => _) ?_ (fun k => by
    simp only [glazierlaw05_PercentTells.l1, List.length_map]
    rw [if_neg (by omega)])
  refine Ev.bind (Encode_spec t rs (by omega) (by omega)) ?_
  refine Ev.bind (Is_spec _ (by omega)) ?_
  simp only [if_true]
  refine Ev.bind (Decode_spec t rs (by omega) (by omega)) ?_
  refine Ev.bind (Is_spec _ (by omega)) ?_
  simp only [if_true]
  refine Ev.bind (Plain_ev c) (Ev.bind (plain_ev c) ?_)
  simp only [beq_self_eq_true, if_true]
  simp only [Hex_eq, Option.bind_some]
  exact Ev.bind (hex_ev c) (Ev.eq (Ev.now true) (fun _ => by rw [beq_self_eq_true]))
end Go.Proofs.Ytljmmhihdcnbaaa.G
