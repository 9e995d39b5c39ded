/- What percent's functions compute. -/
import Derived.Test.YtljmmhihdcnbaaaPe
import Derived.Test.YtljmmhihdcnbaaaG40
import Derived.Test.YtljmmhihdcnbaaaG48
import Derived.Test.YtljmmhihdcnbaaaG43
import Derived.Test.YtljmmhihdcnbaaaG45
import Derived.Test.YtljmmhihdcnbaaaG42
namespace Go.Proofs.Ytljmmhihdcnbaaa.G
open Go.RowKit Go.Proofs.YtljmmhihdcnbaaaW.PrintWords Go.Proofs.YtljmmhihdcnbaaaW.PrintLast Go.Proofs.YtljmmhihdcnbaaaW.PrintMore
set_option linter.unusedVariables false
set_option linter.unusedSimpArgs false

theorem byte_all' (p : UInt8 → Bool) (h : (List.range 256).all (fun n => p (UInt8.ofNat n)) = true) (c : UInt8) : p c = true := by
  have := List.all_eq_true.1 h c.toNat (List.mem_range.2 c.toNat_lt)
  simpa using this
def plainB (c : UInt8) : Bool := decide (97 ≤ c.toNat ∧ c.toNat ≤ 122) || decide (65 ≤ c.toNat ∧ c.toNat ≤ 90) || decide (48 ≤ c.toNat ∧ c.toNat ≤ 57) || [45, 46, 95, 126, 33, 36, 38, 39, 40, 41, 42, 43, 44, 59, 61, 58, 64, 47, 63, 35, 91, 93].contains c
def hexV (c : UInt8) : Int := if 48 ≤ c.toNat ∧ c.toNat ≤ 57 then (c.toNat : Int) - 48 else if 97 ≤ c.toNat ∧ c.toNat ≤ 102 then (c.toNat : Int) - 87 else if 65 ≤ c.toNat ∧ c.toNat ≤ 70 then (c.toNat : Int) - 55 else -1
theorem hexV_range (c : UInt8) : -1 ≤ hexV c ∧ hexV c ≤ 15 := by unfold hexV; split <;> (try split) <;> (try split) <;> omega
theorem Plain_ev (c : UInt8) : Ev (fun k => percent_Plain.f k (c.toNat : Int)) (plainB c) :=
  Ev.of (fun k => percent_Plain.mono _ k) (k := 4) (by have := byte_all' (fun c => percent_Plain.f 4 (c.toNat : Int) == some (plainB c)) (by decide +kernel) c; simpa using this)
theorem plain_ev (c : UInt8) : Ev (fun k => glazierlaw05_plain.f k (c.toNat : Int)) (plainB c) :=
  Ev.of (fun k => glazierlaw05_plain.mono _ k) (k := 30) (by have := byte_all' (fun c => glazierlaw05_plain.f 30 (c.toNat : Int) == some (plainB c)) (by decide +kernel) c; simpa using this)
theorem Hex_eq (c : UInt8) : percent_Hex.f (c.toNat : Int) = some (hexV c) := by
  have := byte_all' (fun c => percent_Hex.f (c.toNat : Int) == some (hexV c)) (by decide +kernel) c
  simpa using this
theorem hex_ev (c : UInt8) : Ev (fun k => glazierlaw05_hex.f k (c.toNat : Int)) (hexV c) :=
  Ev.of (fun k => glazierlaw05_hex.mono _ k) (k := 4) (by have := byte_all' (fun c => glazierlaw05_hex.f 4 (c.toNat : Int) == some (hexV c)) (by decide +kernel) c; simpa using this)
theorem Percent_alive : Ev (fun k => glazierlaw05_alive.f k) true := Ev.of (fun k => glazierlaw05_alive.mono k) (k := 40) (by decide +kernel)
/-- A digit. -/
def digB (n : Nat) : UInt8 := if n < 10 then UInt8.ofNat (48 + n) else UInt8.ofNat (55 + n)
def enc3 (c : UInt8) : List UInt8 := [37, digB (c.toNat / 16), digB (c.toNat % 16)]
def digits : ByteArray := ⟨#[48, 49, 50, 51, 52, 53, 54, 55, 56, 57, 65, 66, 67, 68, 69, 70]⟩
theorem enc3_text (c : UInt8) : strOfNums [37, bt digits ((c.toNat : Int) / 16), bt digits (Go.bits .and .u8 (c.toNat : Int) 15)] = bytesA (enc3 c) := by
  have := byte_all' (fun c => (strOfNums [37, bt digits ((c.toNat : Int) / 16), bt digits (Go.bits .and .u8 (c.toNat : Int) 15)]).data.toList == enc3 c) (by decide +kernel) c
  have h := beq_iff_eq.1 this
  rw [← bytesA_list (strOfNums _), h]
theorem and15 (c : UInt8) : 0 ≤ Go.bits .and .u8 (c.toNat : Int) 15 ∧ Go.bits .and .u8 (c.toNat : Int) 15 < 16 := by
  have := byte_all' (fun c => decide (0 ≤ Go.bits .and .u8 (c.toNat : Int) 15 ∧ Go.bits .and .u8 (c.toNat : Int) 15 < 16)) (by decide +kernel) c
  simpa using this
def encC (c : Lc) : List Lc := if plainB c.1 = true then [c] else (enc3 c.1).map fun b => (b, c.2)
def encL (l : List Lc) : List Lc := l.flatMap encC
theorem encC_ok {c : Lc} (h : 0 ≤ c.2 ∧ c.2 ≤ 65536) : Okl (encC c) := by
  unfold encC
  split
  · exact Okl.one h
  · intro x hx
    obtain ⟨b, _, rfl⟩ := List.mem_map.1 hx
    exact h
theorem encL_ok {l : List Lc} (h : Okl l) : Okl (encL l) := by
  intro x hx
  obtain ⟨c, hc, hx⟩ := List.mem_flatMap.1 hx
  exact encC_ok (h c hc) x hx
theorem encC_length (c : Lc) : (encC c).length ≤ 3 := by unfold encC; split <;> simp [enc3]
theorem encL_length (l : List Lc) : (encL l).length ≤ 3 * l.length := by
  induction l with
  | nil => simp [encL]
  | cons c l ih =>
    have := encC_length c
    simp only [encL, List.flatMap_cons, List.length_append, List.length_cons] at ih ⊢
    omega
theorem encL_cons (c : Lc) (l : List Lc) : encL (c :: l) = encC c ++ encL l := by simp [encL]
theorem encL_append (a b : List Lc) : encL (a ++ b) = encL a ++ encL b := by simp [encL]
theorem Encode_loop (t : ByteArray) (rs : List S85) (ht : t.size ≤ 274877906944) (hr : rs.length ≤ 1099511627776) : ∀ (d i : Nat) (Xs : List (List Lc)), i + d = (La t rs).length → (∀ X ∈ Xs, Okl X) → Xs.length ≤ i → Xs.flatten.length ≤ 3 * i →
    Ev (fun k => percent_Encode.l0 k (Xs.map mkS) (t.size : Int) (i : Int) t rs) (canon (Xs.flatten ++ encL ((La t rs).drop i))) := by
  intro d
  have hn := La_length t rs
  have hO := La_ok t rs
  induction d with
  | zero =>
    intro i Xs hi hX hXl hXf
    rw [List.drop_eq_nil_of_le (by omega), show encL [] = [] from rfl, List.append_nil]
    refine Ev.step1 (f := fun k => (mark_Cat.f k (Xs.map mkS)).bind fun b => some (b.1, b.2)) ?_ (fun k => by
      simp only [percent_Encode.l0]
      rw [if_neg (by omega)])
    exact Ev.bind (Cat_mk Xs hX (by omega) (by omega)) (Ev.now _)
  | succ d ih =>
    intro i Xs hi hX hXl hXf
    have hlt : i < (La t rs).length := by omega
    have hb := La_get hlt
    have ho := hO.get hlt
    have hc3 := encC_length (La t rs)[i]
    have h2 := ih (i + 1) (Xs ++ [encC (La t rs)[i]]) (by omega) (fun X hx => by
      rcases List.mem_append.1 hx with hx | hx
      · exact hX X hx
      · rw [List.mem_singleton] at hx; subst hx; exact encC_ok ho) (by simp; omega) (by rw [flat_snoc, List.length_append]; omega)
    rw [flat_snoc, List.append_assoc, List.map_append, ← encL_cons, ← List.drop_eq_getElem_cons hlt] at h2
    have hlen : (Xs.map mkS).length < 3518437208883 := by rw [List.length_map]; omega
    cases hp : plainB (La t rs)[i].1 with
    | true =>
      have e : encC (La t rs)[i] = [(La t rs)[i]] := by unfold encC; rw [if_pos hp]
      rw [e] at h2
      refine Ev.step1 (f := fun k => (percent_Plain.f k ((La t rs)[i].1.toNat : Int)).bind fun t429 => _) ?_ (fun k => by
        simp only [percent_Encode.l0]
        rw [if_pos (by omega), if_pos (by omega), if_pos (by omega), hb])
      refine Ev.bind (Plain_ev _) ?_
      rw [hp]
      simp only [if_true, if_pos hlen, w64 (x := (i : Int) + 1) (by omega) (by omega)]
      refine Ev.bind (Cut_spec t rs _ _ (by omega) hr) ?_
      rw [cut_one hlt]
      exact h2
    | false =>
      have e : encC (La t rs)[i] = (enc3 (La t rs)[i].1).map fun b => (b, (La t rs)[i].2) := by unfold encC; rw [if_neg (by simp [hp])]
      rw [e] at h2
      refine Ev.step1 (f := fun k => (percent_Plain.f k ((La t rs)[i].1.toNat : Int)).bind fun t429 => _) ?_ (fun k => by
        simp only [percent_Encode.l0]
        rw [if_pos (by omega), if_pos (by omega), if_pos (by omega), hb])
      refine Ev.bind (Plain_ev _) ?_
      have hc := (La t rs)[i].1.toNat_lt
      have ha := and15 (La t rs)[i].1
      rw [hp]
      simp only [Bool.false_eq_true, if_false, if_pos (show 0 ≤ ((La t rs)[i].1.toNat : Int) / 16 by omega), if_pos (show ((La t rs)[i].1.toNat : Int) / 16 < 16 by omega), if_pos ha.1, if_pos ha.2, if_pos hlen, w64 (x := (i : Int) + 1) (by omega) (by omega)]
      refine Ev.bind (At_spec t rs i hlt (by omega) hr) ?_
      have e3 : mark_Of.f (strOfNums [37, bt digits (((La t rs)[i].1.toNat : Int) / 16), bt digits (Go.bits .and .u8 ((La t rs)[i].1.toNat : Int) 15)]) (La t rs)[i].2 = some (canon ((enc3 (La t rs)[i].1).map fun b => (b, (La t rs)[i].2))) := by
        rw [enc3_text, Of_spec _ _ (by rw [bytesA_size]; simp [enc3])]
        unfold allO
        rw [nr_of ho.1 ho.2]
        rfl
      show Ev (fun k => (mark_Of.f (strOfNums [37, bt digits (((La t rs)[i].1.toNat : Int) / 16), bt digits (Go.bits .and .u8 ((La t rs)[i].1.toNat : Int) 15)]) (La t rs)[i].2).bind _) _
      simp only [e3, Option.bind_some]
      exact h2
theorem Encode_spec (t : ByteArray) (rs : List S85) (ht : t.size ≤ 274877906944) (hr : rs.length ≤ 1099511627776) : Ev (fun k => percent_Encode.f k t rs) (canon (encL (La t rs))) := by
  have h := Encode_loop t rs ht hr (La t rs).length 0 [] (by omega) (fun _ h => by cases h) (by simp) (by simp)
  simpa [percent_Encode.f] using h

/-! ### Decode -/
def byteOf (b c : UInt8) : UInt8 := UInt8.ofNat (16 * hexV b + hexV c).toNat
def isCode (a b c : UInt8) : Bool := a == 37 && (decide (0 ≤ hexV b) && decide (0 ≤ hexV c))
def decL : List Lc → List Lc
  | [] => []
  | [a] => [a]
  | [a, b] => [a, b]
  | a :: b :: c :: l => if isCode a.1 b.1 c.1 = true then (byteOf b.1 c.1, max (max a.2 b.2) c.2) :: decL l else a :: decL (b :: c :: l)
theorem decL_yes {l : List Lc} {i : Nat} (h : i + 2 < l.length) (hc : isCode l[i].1 l[i + 1].1 l[i + 2].1 = true) : decL (l.drop i) = (byteOf l[i + 1].1 l[i + 2].1, max (max l[i].2 l[i + 1].2) l[i + 2].2) :: decL (l.drop (i + 3)) := by
  rw [List.drop_eq_getElem_cons (by omega), List.drop_eq_getElem_cons (show i + 1 < l.length by omega), List.drop_eq_getElem_cons h, decL, if_pos hc]
theorem decL_no {l : List Lc} {i : Nat} (h : i < l.length) (hc : ∀ h' : i + 2 < l.length, isCode l[i].1 l[i + 1].1 l[i + 2].1 = false) : decL (l.drop i) = l[i] :: decL (l.drop (i + 1)) := by
  by_cases h2 : i + 2 < l.length
  · rw [List.drop_eq_getElem_cons h, List.drop_eq_getElem_cons (show i + 1 < l.length by omega), List.drop_eq_getElem_cons h2, decL, if_neg (by rw [hc h2]; simp)]
  · by_cases h1 : i + 1 < l.length
    · rw [List.drop_eq_getElem_cons h, List.drop_eq_getElem_cons h1, List.drop_eq_nil_of_le (by omega)]
      rfl
    · rw [List.drop_eq_getElem_cons h, List.drop_eq_nil_of_le (by omega)]
      rfl
theorem or16 (a b : Int) (ha : 0 ≤ a) (ha2 : a ≤ 15) (hb : 0 ≤ b) (hb2 : b ≤ 15) : Go.bits .or .i64 (wrap64 (a * 16)) b % 256 = 16 * a + b := by
  have key : (List.range 16).all (fun x => (List.range 16).all fun y => Go.bits .or .i64 (wrap64 ((x : Int) * 16)) (y : Int) % 256 == 16 * (x : Int) + (y : Int)) = true := by decide +kernel
  have h1 := List.all_eq_true.1 key a.toNat (List.mem_range.2 (by omega))
  have h2 := List.all_eq_true.1 h1 b.toNat (List.mem_range.2 (by omega))
  rw [show ((a.toNat : Nat) : Int) = a from by omega, show ((b.toNat : Nat) : Int) = b from by omega] at h2
  exact beq_iff_eq.1 h2
theorem bt_extract {t : ByteArray} {i j : Nat} (h : i + j < t.size) : bt (t.extract i t.size) (j : Int) = bt t ((i + j : Nat) : Int) := by
  have e : (t.extract i t.size).data.toList = t.data.toList.drop i := by
    rw [extract_list, List.take_of_length_le (by rw [size_list]; omega)]
  have h1 : j < (t.extract i t.size).data.toList.length := by rw [e, List.length_drop, size_list]; omega
  rw [bt_nat h1, bt_nat (show i + j < t.data.toList.length by rw [size_list]; omega)]
  congr 2
  simp only [e]
  rw [List.getElem_drop]
theorem coded_ev (t : ByteArray) (rs : List S85) (i : Nat) (hi : i < (La t rs).length) (ht : t.size ≤ 1099511627776) :
    (∃ h : i + 2 < (La t rs).length, isCode (La t rs)[i].1 (La t rs)[i + 1].1 (La t rs)[i + 2].1 = true ∧ Ev (fun k => percent_coded.f k (t.extract i t.size)) ((byteOf (La t rs)[i + 1].1 (La t rs)[i + 2].1).toNat, true)) ∨
    ((∀ h' : i + 2 < (La t rs).length, isCode (La t rs)[i].1 (La t rs)[i + 1].1 (La t rs)[i + 2].1 = false) ∧ Ev (fun k => percent_coded.f k (t.extract i t.size)) (0, false)) := by
  have hn := La_length t rs
  have hs : (t.extract i t.size).size = t.size - i := by simp [ByteArray.size_extract]
  by_cases h : i + 2 < (La t rs).length
  · have b0 : bt (t.extract i t.size) 0 = ((La t rs)[i].1.toNat : Int) := by
      have := bt_extract (t := t) (i := i) (j := 0) (by omega)
      rw [Nat.add_zero, La_get hi] at this
      exact this
    have b1 : bt (t.extract i t.size) 1 = ((La t rs)[i + 1].1.toNat : Int) := by
      have := bt_extract (t := t) (i := i) (j := 1) (by omega)
      rw [La_get (show i + 1 < (La t rs).length by omega)] at this
      exact this
    have b2 : bt (t.extract i t.size) 2 = ((La t rs)[i + 2].1.toNat : Int) := by
      have := bt_extract (t := t) (i := i) (j := 2) (by omega)
      rw [La_get h] at this
      exact this
    have r1 := hexV_range (La t rs)[i + 1].1
    have r2 := hexV_range (La t rs)[i + 2].1
    have e0 : ∀ k, percent_coded.f k (t.extract i t.size) = percent_coded.j0 k (t.extract i t.size) (((La t rs)[i].1.toNat : Int) != 37) := by
      intro k
      unfold percent_coded.f
      rw [hs, if_neg (by omega), if_pos (by omega), b0]
    by_cases h37 : (La t rs)[i].1 = 37
    · have e37 : (((La t rs)[i].1.toNat : Int) != 37) = false := by rw [h37]; rfl
      have e1 : ∀ k, percent_coded.j0 (k + 1) (t.extract i t.size) false = if hexV (La t rs)[i + 1].1 < 0 then some (0, false) else if hexV (La t rs)[i + 2].1 < 0 then some (0, false) else some (Go.bits .or .i64 (wrap64 (hexV (La t rs)[i + 1].1 * 16)) (hexV (La t rs)[i + 2].1) % 256, true) := by
        intro k
        simp only [percent_coded.j0, Bool.false_eq_true, if_false, hs, b1, b2, Hex_eq, Option.bind_some, if_pos (show (1 : Int) < ((t.size - i : Nat) : Int) by omega), if_pos (show (2 : Int) < ((t.size - i : Nat) : Int) by omega)]
      by_cases hA : 0 ≤ hexV (La t rs)[i + 1].1
      · by_cases hB : 0 ≤ hexV (La t rs)[i + 2].1
        · left
          refine ⟨h, by unfold isCode; rw [h37, decide_eq_true hA, decide_eq_true hB]; rfl, ?_⟩
          refine Ev.eq ?_ e0
          rw [e37]
          refine Ev.step1 (Ev.now _) (fun k => ?_)
          rw [e1, if_neg (by omega), if_neg (by omega), or16 _ _ hA r1.2 hB r2.2]
          congr 2
          unfold byteOf
          have : (16 * hexV (La t rs)[i + 1].1 + hexV (La t rs)[i + 2].1).toNat < 256 := by omega
          simp [Nat.mod_eq_of_lt this]
          omega
        · right
          refine ⟨fun _ => by unfold isCode; rw [decide_eq_false hB]; simp, ?_⟩
          refine Ev.eq ?_ e0
          rw [e37]
          refine Ev.step1 (Ev.now _) (fun k => ?_)
          rw [e1, if_neg (by omega), if_pos (by omega)]
      · right
        refine ⟨fun _ => by unfold isCode; rw [decide_eq_false hA]; simp, ?_⟩
        refine Ev.eq ?_ e0
        rw [e37]
        refine Ev.step1 (Ev.now _) (fun k => ?_)
        rw [e1, if_pos (by omega)]
    · right
      have e37 : (((La t rs)[i].1.toNat : Int) != 37) = true := by
        rw [bne_iff_ne]
        intro h5
        exact h37 ((u8_eq (n := 37) (by decide)).1 h5)
      refine ⟨fun _ => by unfold isCode; rw [beq_eq_false_iff_ne.2 h37]; rfl, ?_⟩
      refine Ev.eq ?_ e0
      rw [e37]
      refine Ev.step1 (Ev.now _) (fun k => ?_)
      simp only [percent_coded.j0, if_true]
  · right
    refine ⟨fun h' => absurd h' h, ?_⟩
    refine Ev.step1 (f := fun k => some (0, false)) (Ev.now _) (fun k => ?_)
    unfold percent_coded.f
    rw [hs, if_pos (by omega)]
    simp only [percent_coded.j0, if_true]
theorem cut_three {l : List Lc} {i : Nat} (h : i + 2 < l.length) : cutL l (i : Int) ((i : Int) + 3) = [l[i], l[i + 1], l[i + 2]] := by
  have := cutL_nat l i (i + 3) (by omega) (by omega)
  rw [show (((i + 3 : Nat)) : Int) = (i : Int) + 3 from by omega] at this
  have h0 : i < l.length := by omega
  have h1 : i + 1 < l.length := by omega
  rw [this, List.take_succ_eq_append_getElem h, List.take_succ_eq_append_getElem h1, List.take_succ_eq_append_getElem h0, List.append_assoc, List.append_assoc, List.drop_append, List.drop_eq_nil_of_le (by rw [List.length_take]; omega), List.length_take, Nat.min_eq_left (by omega), Nat.sub_self]
  rfl
theorem Decode_loop (t : ByteArray) (rs : List S85) (ht : t.size ≤ 1099511627776) (hr : rs.length ≤ 1099511627776) : ∀ (d i : Nat) (Xs : List (List Lc)), i + d = (La t rs).length → (∀ X ∈ Xs, Okl X) → Xs.length ≤ i → Xs.flatten.length ≤ i →
    Ev (fun k => percent_Decode.l0 k (Xs.map mkS) (i : Int) t rs) (canon (Xs.flatten ++ decL ((La t rs).drop i))) := by
  intro d
  have hn := La_length t rs
  have hO := La_ok t rs
  induction d using Nat.strongRecOn with
  | _ d ih =>
  intro i Xs hi hX hXl hXf
  have hlen : (Xs.map mkS).length < 3518437208883 := by rw [List.length_map]; omega
  by_cases hlt : i < (La t rs).length
  · have ho := hO.get hlt
    refine Ev.step1 (f := fun k => (percent_coded.f k (t.extract i t.size)).bind fun bt481 => _) ?_ (fun k => by
      simp only [percent_Decode.l0]
      rw [if_pos (by omega), if_pos (by omega), if_pos (by omega), show ((i : Int).toNat) = i from by simp])
    rcases coded_ev t rs i hlt ht with ⟨h, hc, hev⟩ | ⟨hc, hev⟩
    · refine Ev.bind hev ?_
      have ho1 := hO.get (show i + 1 < (La t rs).length by omega)
      have ho2 := hO.get h
      have hm : 0 ≤ max (max (La t rs)[i].2 (La t rs)[i + 1].2) (La t rs)[i + 2].2 ∧ max (max (La t rs)[i].2 (La t rs)[i + 1].2) (La t rs)[i + 2].2 ≤ 65536 := by constructor <;> omega
      rw [decL_yes h hc]
      simp only [if_true, if_pos hlen, w64 (x := (i : Int) + 3) (by omega) (by omega), w64 (x := (i : Int) + 2) (by omega) (by omega), w64 (x := (i : Int) + 2 + 1) (by omega) (by omega)]
      refine Ev.bind (Cut_spec t rs _ _ ht hr) ?_
      rw [cut_three h]
      refine Ev.bind (Worst_canon (fun c hc => by
        simp only [List.mem_cons, List.not_mem_nil, or_false] at hc
        rcases hc with rfl | rfl | rfl
        · exact ho
        · exact ho1
        · exact ho2) (by simp)) ?_
      have ew : worst ([(La t rs)[i], (La t rs)[i + 1], (La t rs)[i + 2]].map (·.2)) = max (max (La t rs)[i].2 (La t rs)[i + 1].2) (La t rs)[i + 2].2 := by
        unfold worst
        simp only [List.map_cons, List.map_nil, List.foldl_cons, List.foldl_nil]
        omega
      have es : strOfNums [((byteOf (La t rs)[i + 1].1 (La t rs)[i + 2].1).toNat : Int)] = ⟨#[byteOf (La t rs)[i + 1].1 (La t rs)[i + 2].1]⟩ := by
        have := strOfNums_map [byteOf (La t rs)[i + 1].1 (La t rs)[i + 2].1]
        exact this
      simp only [ew, es, of_one _ _ hm, Option.bind_some]
      have h2 := ih (d - 3) (by omega) (i + 3) (Xs ++ [[(byteOf (La t rs)[i + 1].1 (La t rs)[i + 2].1, max (max (La t rs)[i].2 (La t rs)[i + 1].2) (La t rs)[i + 2].2)]]) (by omega) (fun X hx => by
        rcases List.mem_append.1 hx with hx | hx
        · exact hX X hx
        · rw [List.mem_singleton] at hx; subst hx; exact Okl.one hm) (by simp; omega) (by rw [flat_snoc, List.length_append, List.length_singleton]; omega)
      rw [flat_snoc, List.append_assoc, List.map_append] at h2
      exact h2
    · refine Ev.bind hev ?_
      rw [decL_no hlt hc]
      simp only [Bool.false_eq_true, if_false, if_pos hlen, w64 (x := (i : Int) + 1) (by omega) (by omega)]
      refine Ev.bind (Cut_spec t rs _ _ ht hr) ?_
      rw [cut_one hlt]
      have h2 := ih (d - 1) (by omega) (i + 1) (Xs ++ [[(La t rs)[i]]]) (by omega) (fun X hx => by
        rcases List.mem_append.1 hx with hx | hx
        · exact hX X hx
        · rw [List.mem_singleton] at hx; subst hx; exact Okl.one ho) (by simp; omega) (by rw [flat_snoc, List.length_append, List.length_singleton]; omega)
      rw [flat_snoc, List.append_assoc, List.map_append] at h2
      exact h2
  · rw [List.drop_eq_nil_of_le (by omega), decL, List.append_nil]
    refine Ev.step1 (f := fun k => (mark_Cat.f k (Xs.map mkS)).bind fun b => some (b.1, b.2)) ?_ (fun k => by
      simp only [percent_Decode.l0]
      rw [if_neg (by omega)])
    exact Ev.bind (Cat_mk Xs hX (by omega) (by omega)) (Ev.now _)
theorem Decode_spec (t : ByteArray) (rs : List S85) (ht : t.size ≤ 1099511627776) (hr : rs.length ≤ 1099511627776) : Ev (fun k => percent_Decode.f k t rs) (canon (decL (La t rs))) := by
  have h := Decode_loop t rs ht hr (La t rs).length 0 [] (by omega) (fun _ h => by cases h) (by simp) (by simp)
  simpa [percent_Decode.f] using h
theorem Decode_canon {l : List Lc} (h : Okl l) (hl : l.length ≤ 1099511627776) : Ev (fun k => percent_Decode.f k (canon l).1 (canon l).2) (canon (decL l)) := by
  have hc := canon_runs l
  have := Decode_spec (canon l).1 (canon l).2 (by rw [canon_size]; exact hl) (by omega)
  rwa [La_canon h] at this
/-! ### back -/
theorem decL_skip (a : Lc) (l : List Lc) (h : a.1 ≠ 37) : decL (a :: l) = a :: decL l := by
  have := decL_no (l := a :: l) (i := 0) (by simp) (fun h' => by unfold isCode; rw [show ((a :: l)[0].1 == 37) = false from beq_eq_false_iff_ne.2 h]; rfl)
  simpa using this
theorem plain_not37 (c : UInt8) (h : plainB c = true) : c ≠ 37 := by
  rintro rfl
  revert h
  decide
theorem code_enc (c : UInt8) : isCode 37 (digB (c.toNat / 16)) (digB (c.toNat % 16)) = true ∧ byteOf (digB (c.toNat / 16)) (digB (c.toNat % 16)) = c := by
  have := byte_all' (fun c => isCode 37 (digB (c.toNat / 16)) (digB (c.toNat % 16)) && byteOf (digB (c.toNat / 16)) (digB (c.toNat % 16)) == c) (by decide +kernel) c
  simpa using this
theorem decL_encL : ∀ (l : List Lc), decL (encL l) = l
  | [] => rfl
  | c :: l => by
    have ih := decL_encL l
    rw [encL_cons]
    unfold encC
    split
    · rename_i hp
      rw [List.singleton_append, decL_skip c _ (plain_not37 _ hp), ih]
    · have hc := code_enc c.1
      simp only [enc3, List.map_cons, List.map_nil, List.cons_append, List.nil_append]
      rw [decL, if_pos hc.1, ih]
      simp only [hc.2]
      congr 1
      ext1
      · rfl
      · simp
end Go.Proofs.Ytljmmhihdcnbaaa.G
