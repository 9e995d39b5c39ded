/- Blanks: the pieces of a form. -/
import Derived.Test.YtljmmhihdcnbaaaDoorPa
import Derived.Test.YtljmmhihdcnbaaaDoorG71
namespace Go.Proofs.YtljmmhihdcnbaaaDoor.G
open Go.RowKit Go.Proofs.YtljmmhihdcnbaaaDoorW.PrintWords Go.Proofs.YtljmmhihdcnbaaaDoorW.PrintLast Go.Proofs.YtljmmhihdcnbaaaDoorW.PrintMore
set_option linter.unusedVariables false
set_option linter.unusedSimpArgs false
theorem idx_spec (c : UInt8) : ∀ l : List UInt8, (Go.Lib.indexByte l c = -1 ∧ c ∉ l) ∨ ∃ i : Nat, Go.Lib.indexByte l c = (i : Int) ∧ l.drop i = c :: l.drop (i + 1) ∧ c ∉ l.take i ∧ i < l.length
  | [] => .inl ⟨rfl, by simp⟩
  | b :: l => by
    unfold Go.Lib.indexByte
    by_cases e : b = c
    · right
      refine ⟨0, by simp [e], by simp [e], by simp, by simp⟩
    · have e1 : (b == c) = false := beq_eq_false_iff_ne.2 e
      rw [e1]
      rcases idx_spec c l with ⟨h1, h2⟩ | ⟨i, h1, h2, h3, h4⟩
      · left
        refine ⟨by simp [h1], ?_⟩
        simp only [List.mem_cons, not_or]
        exact ⟨Ne.symm e, h2⟩
      · right
        refine ⟨i + 1, ?_, by simpa using h2, ?_, by simp; omega⟩
        · have : ¬ ((i : Int) = -1) := by omega
          simp [h1, this]
          try omega
        · simp only [List.take_succ_cons, List.mem_cons, not_or]
          exact ⟨Ne.symm e, h3⟩
def isLow (c : UInt8) : Bool := decide (97 ≤ c.toNat ∧ c.toNat ≤ 122)
def nameLen (l : List UInt8) : Nat := (l.takeWhile isLow).length
theorem nameLen_le (l : List UInt8) : nameLen l ≤ l.length := (List.takeWhile_prefix _).length_le
theorem name_loop (x : ByteArray) (hx : x.size ≤ 1099511627776) : ∀ (d i : Nat), i + d = x.size → Ev (fun k => blanks_name.l0 k x (x.size : Int) (i : Int)) ((i + nameLen (x.data.toList.drop i) : Nat) : Int) := by
  intro d
  induction d with
  | zero =>
    intro i hi
    rw [List.drop_eq_nil_of_le (by rw [size_list]; omega)]
    refine Ev.step1 (Ev.now _) (fun k => ?_)
    simp only [blanks_name.l0]
    rw [if_neg (by omega)]
    simp [nameLen]
    omega
  | succ d ih =>
    intro i hi
    have hlt : i < x.data.toList.length := by rw [size_list]; omega
    rw [List.drop_eq_getElem_cons hlt]
    unfold nameLen
    rw [List.takeWhile_cons]
    by_cases h : 97 ≤ (x.data.toList[i]).toNat ∧ (x.data.toList[i]).toNat ≤ 122
    · have h2 := ih (i + 1) (by omega)
      rw [show isLow x.data.toList[i] = true from decide_eq_true h, if_pos rfl, List.length_cons, show i + ((List.takeWhile isLow (List.drop (i + 1) x.data.toList)).length + 1) = i + 1 + (List.takeWhile isLow (List.drop (i + 1) x.data.toList)).length from by omega]
      refine Ev.step1 h2 (fun k => ?_)
      simp only [blanks_name.l0]
      rw [if_pos (by omega), if_pos (by omega), if_pos (by omega), bt_nat hlt, if_neg (by omega), if_neg (by omega), w64 (by omega) (by omega)]
      rfl
    · rw [show isLow x.data.toList[i] = false from decide_eq_false h]
      refine Ev.step1 (Ev.now _) (fun k => ?_)
      simp only [blanks_name.l0]
      rw [if_pos (by omega), if_pos (by omega), if_pos (by omega), bt_nat hlt]
      by_cases h9 : (x.data.toList[i]).toNat < 97
      · rw [if_pos (by omega)]
        simp
      · rw [if_neg (by omega), if_pos (by omega)]
        simp
theorem name_spec (x : ByteArray) (hx : x.size ≤ 1099511627776) : Ev (fun k => blanks_name.f k x) (nameLen x.data.toList : Int) := by
  have := name_loop x hx x.size 0 (by omega)
  simpa [blanks_name.f] using this
/-- What stands behind a brace: a text or a name, and how many bytes are taken with the brace. -/
def tokOne (l : List UInt8) : (List UInt8 × Bool) × Nat :=
  if l.head? = some 123 then (([123], false), 2) else if 0 < nameLen l ∧ l[nameLen l]? = some 125 then ((l.take (nameLen l), true), nameLen l + 2) else (([123], false), 1)
theorem tokOne_pos (l : List UInt8) : 1 ≤ (tokOne l).2 := by unfold tokOne; split <;> (try split) <;> simp
theorem tokOne_le (l : List UInt8) : (tokOne l).2 ≤ l.length + 1 := by
  unfold tokOne
  split
  · rename_i h
    cases l with
    | nil => simp at h
    | cons => simp
  · split
    · rename_i h
      have := (List.getElem?_eq_some_iff.1 h.2).1
      simp only
      omega
    · simp
/-- The form in its smallest pieces. -/
def tokL : List UInt8 → List (List UInt8 × Bool)
  | [] => []
  | c :: l => if c = 123 then (tokOne l).1 :: tokL (l.drop ((tokOne l).2 - 1)) else ([c], false) :: tokL l
  termination_by l => l.length
  decreasing_by all_goals (simp only [List.length_drop, List.length_cons]; omega)
theorem tokL_brace (l : List UInt8) : tokL (123 :: l) = (tokOne l).1 :: tokL (l.drop ((tokOne l).2 - 1)) := by rw [tokL, if_pos rfl]
theorem tokL_text (c : UInt8) (l : List UInt8) (h : c ≠ 123) : tokL (c :: l) = ([c], false) :: tokL l := by rw [tokL, if_neg h]
theorem tokL_skip : ∀ (p r : List UInt8), 123 ∉ p → tokL (p ++ r) = p.map (fun c => ([c], false)) ++ tokL r
  | [], r, _ => rfl
  | c :: p, r, h => by
    simp only [List.mem_cons, not_or] at h
    rw [List.cons_append, tokL_text c _ (Ne.symm h.1), tokL_skip p r h.2]
    rfl
/-- A piece as it is filled. -/
def dn (g : List UInt8 → List Lc) (p : List UInt8 × Bool) : List Lc := if p.2 = true then g p.1 else allO p.1 0
def toP (p : S69) : List UInt8 × Bool := (p.f0.data.toList, p.f1)
def namesL (ps : List (List UInt8 × Bool)) : List (List UInt8) := (ps.filter (·.2)).map (·.1)
/-- Two rows of pieces that fill alike. -/
def Alike (ps qs : List (List UInt8 × Bool)) : Prop := (∀ g, ps.flatMap (dn g) = qs.flatMap (dn g)) ∧ namesL ps = namesL qs
theorem Alike.app {a b c d : List (List UInt8 × Bool)} (h : Alike a b) (h' : Alike c d) : Alike (a ++ c) (b ++ d) :=
  ⟨fun g => by rw [List.flatMap_append, List.flatMap_append, h.1, h'.1], by unfold namesL; rw [List.filter_append, List.filter_append, List.map_append, List.map_append]; exact congr (congrArg _ h.2) h'.2⟩
theorem Alike.text (p : List UInt8) : Alike [(p, false)] (p.map fun c => ([c], false)) := by
  constructor
  · intro g
    induction p with
    | nil => rfl
    | cons c p ih =>
      show dn g (c :: p, false) ++ [] = dn g ([c], false) ++ (p.map fun c => ([c], false)).flatMap (dn g)
      rw [← ih]
      rfl
  · induction p with
    | nil => rfl
    | cons c p ih => exact ih
theorem Alike.refl (p : List (List UInt8 × Bool)) : Alike p p := ⟨fun _ => rfl, rfl⟩
theorem HasPrefix_eq (a b : ByteArray) (ha : a.size ≤ 1099511627776) : strings_HasPrefix.f a b = some (decide (b.size ≤ a.size) && ((a.data.toList.take b.size) == b.data.toList)) := by
  unfold strings_HasPrefix.f stringslite_HasPrefix.f
  by_cases h : b.size ≤ a.size
  · rw [if_pos (by omega), if_pos (by omega), if_pos (by omega), Option.bind_some, decide_eq_true h, Bool.true_and, ByteArray.toList_eq, ByteArray.toList_eq, extract_list, List.drop_zero]
    simp
  · rw [if_neg (by omega), Option.bind_some, decide_eq_false h, Bool.false_and]
theorem bytesA_data (l : List UInt8) : (bytesA l).data.toList = l := by simp [bytesA]
theorem take_spec (y : ByteArray) (l : List UInt8) (hy : y.data.toList = 123 :: l) (hs : y.size ≤ 1099511627776) : Ev (fun k => blanks_take.f k y) (bytesA (tokOne l).1.1, (tokOne l).1.2, ((tokOne l).2 : Int)) := by
  have hsz : y.size = l.length + 1 := by rw [← size_list, hy]; rfl
  unfold blanks_take.f
  rw [HasPrefix_eq y _ hs]
  simp only [Option.bind_some]
  have hp : (decide ((⟨#[123, 123]⟩ : ByteArray).size ≤ y.size) && (y.data.toList.take (⟨#[123, 123]⟩ : ByteArray).size == (⟨#[123, 123]⟩ : ByteArray).data.toList)) = decide (l.head? = some 123) := by
    rw [hy, hsz]
    show (decide (2 ≤ l.length + 1) && (List.take 2 (123 :: l) == [123, 123])) = _
    cases l with
    | nil => rfl
    | cons c l =>
      have h2 : decide (2 ≤ (c :: l).length + 1) = true := decide_eq_true (by simp)
      rw [h2, Bool.true_and]
      by_cases hc : c = 123
      · subst hc; simp
      · simp [hc]
  rw [hp]
  unfold tokOne
  by_cases h : l.head? = some 123
  · simp only [decide_eq_true h, if_true, if_pos h]
    exact Ev.now _
  · simp only [decide_eq_false h, Bool.false_eq_true, if_false, if_neg h]
    simp only [if_pos (show (1 : Int) ≤ (y.size : Int) by omega)]
    have hl : (y.extract 1 y.size).data.toList = l := by
      rw [extract_list, List.take_of_length_le (by rw [size_list]; omega), hy]
      rfl
    have hz : (y.extract 1 y.size).size = l.length := by rw [← size_list, hl]
    have hn := name_spec (y.extract 1 y.size) (by omega)
    rw [hl] at hn
    refine Ev.bind hn ?_
    have hle := nameLen_le l
    rw [w64 (x := (nameLen l : Int) + 1) (by omega) (by omega), w64 (x := (nameLen l : Int) + 2) (by omega) (by omega)]
    by_cases h0 : 0 < nameLen l
    · simp only [if_pos (show (nameLen l : Int) > 0 by omega)]
      by_cases h1 : nameLen l < l.length
      · have hb : bt y ((nameLen l : Int) + 1) = (l[nameLen l].toNat : Int) := by
          have := bt_nat (t := y) (i := nameLen l + 1) (by rw [hy]; simp; omega)
          rw [show ((nameLen l + 1 : Nat) : Int) = (nameLen l : Int) + 1 from rfl] at this
          rw [this]
          simp [hy]
        simp only [if_pos (show (y.size : Int) > (nameLen l : Int) + 1 by omega), if_pos (show (0 : Int) ≤ (nameLen l : Int) + 1 by omega), if_pos (show (nameLen l : Int) + 1 < (y.size : Int) by omega), if_pos (show (1 : Int) ≤ (nameLen l : Int) + 1 by omega), if_pos (show (nameLen l : Int) + 1 ≤ (y.size : Int) by omega), hb]
        by_cases h5 : l[nameLen l] = 125
        · simp only [if_pos (show (l[nameLen l].toNat : Int) = 125 by rw [h5]; rfl)]
          rw [if_pos (show 0 < nameLen l ∧ l[nameLen l]? = some 125 from ⟨h0, by rw [List.getElem?_eq_getElem h1, h5]⟩)]
          have e : y.extract 1 ((nameLen l : Int) + 1).toNat = bytesA (l.take (nameLen l)) := by
            apply ByteArray.ext
            apply Array.toList_inj.1
            rw [extract_list, hy, bytesA_data, show ((nameLen l : Int) + 1).toNat = nameLen l + 1 from by omega]
            rfl
          rw [e]
          exact Ev.now _
        · simp only [if_neg (show ¬ (l[nameLen l].toNat : Int) = 125 from fun h6 => h5 ((u8_eq (n := 125) (by decide)).1 h6))]
          rw [if_neg (show ¬ (0 < nameLen l ∧ l[nameLen l]? = some 125) from fun h6 => by rw [List.getElem?_eq_getElem h1] at h6; exact h5 (Option.some.inj h6.2))]
          exact Ev.now _
      · simp only [if_neg (show ¬ (y.size : Int) > (nameLen l : Int) + 1 by omega)]
        rw [if_neg (show ¬ (0 < nameLen l ∧ l[nameLen l]? = some 125) from fun h6 => h1 (List.getElem?_eq_some_iff.1 h6.2).1)]
        exact Ev.now _
    · simp only [if_neg (show ¬ (nameLen l : Int) > 0 by omega)]
      rw [if_neg (show ¬ (0 < nameLen l ∧ l[nameLen l]? = some 125) from fun h6 => h0 h6.1)]
      exact Ev.now _
theorem pieces_loop : ∀ (n : Nat) (x : ByteArray) (acc : List S69), x.size = n → x.size ≤ 1099511627776 → acc.length + 2 * x.size ≤ 4398046511104 →
    ∃ ps : List S69, Alike (ps.map toP) (tokL x.data.toList) ∧ ps.length ≤ 2 * x.size ∧ Ev (fun k => blanks_pieces.l0 k x acc) (acc ++ ps) := by
  intro n
  induction n using Nat.strongRecOn with
  | _ n ih =>
  intro x acc hn hx ha
  by_cases h0 : x.data.toList = []
  · refine ⟨[], ?_, by simp, ?_⟩
    · rw [h0, tokL]; exact Alike.refl _
    · refine Ev.step1 (Ev.now _) (fun k => ?_)
      simp only [blanks_pieces.l0, ByteArray.toList_eq]
      rw [if_pos h0, List.append_nil]
  · have hpos : 0 < x.size := by rw [← size_list]; exact List.length_pos_iff.2 h0
    rcases idx_spec 123 x.data.toList with ⟨h1, h2⟩ | ⟨i, h1, h2, h3, h4⟩
    · refine ⟨[⟨x, false⟩], ?_, by simp; omega, ?_⟩
      · have := tokL_skip x.data.toList [] h2
        rw [List.append_nil] at this
        rw [this, tokL, List.append_nil]
        exact Alike.text _
      · refine Ev.step1 (Ev.now _) (fun k => ?_)
        simp only [blanks_pieces.l0, ByteArray.toList_eq, strings_IndexByte.f]
        rw [if_neg h0, Option.bind_some, show ((123 : Int).toNat.toUInt8) = 123 from rfl, h1, if_pos (by decide), if_pos (by omega)]
    · have hi : i < x.size := by rw [← size_list]; exact h4
      have hy : (x.extract i x.size).data.toList = 123 :: x.data.toList.drop (i + 1) := by
        rw [extract_list, List.take_of_length_le (by rw [size_list]; omega), h2]
      have hys : (x.extract i x.size).size ≤ 1099511627776 := by rw [ByteArray.size_extract]; omega
      have ht := take_spec _ _ hy hys
      have hu1 := tokOne_pos (x.data.toList.drop (i + 1))
      have hu2 := tokOne_le (x.data.toList.drop (i + 1))
      rw [List.length_drop, size_list] at hu2
      generalize hT : tokOne (x.data.toList.drop (i + 1)) = T at ht hu1 hu2
      have hzs : (x.extract (i + T.2) x.size).size = x.size - (i + T.2) := by rw [ByteArray.size_extract]; omega
      obtain ⟨ps, hA, hl, hE⟩ := ih (x.extract (i + T.2) x.size).size (by omega) (x.extract (i + T.2) x.size) (acc ++ [⟨x.extract 0 i, false⟩, ⟨bytesA T.1.1, T.1.2⟩]) rfl (by omega) (by simp; omega)
      refine ⟨[⟨x.extract 0 i, false⟩, ⟨bytesA T.1.1, T.1.2⟩] ++ ps, ?_, by simp; omega, ?_⟩
      · have e1 : x.data.toList = x.data.toList.take i ++ (123 :: x.data.toList.drop (i + 1)) := by rw [← h2, List.take_append_drop]
        have e2 : (x.extract (i + T.2) x.size).data.toList = (x.data.toList.drop (i + 1)).drop (T.2 - 1) := by
          rw [extract_list, List.take_of_length_le (by rw [size_list]; omega), List.drop_drop]
          congr 1
          omega
        have e3 : tokL x.data.toList = (x.data.toList.take i).map (fun c => ([c], false)) ++ (T.1 :: tokL ((x.data.toList.drop (i + 1)).drop (T.2 - 1))) := by
          rw [e1, tokL_skip _ _ h3, tokL_brace, ← e1, hT]
        rw [e3, ← e2]
        have e4 : toP ⟨x.extract 0 i, false⟩ = (x.data.toList.take i, false) := by
          unfold toP
          simp only [extract_list, List.drop_zero]
        rw [List.map_append, List.map_cons, List.map_cons, List.map_nil, e4]
        exact (Alike.text _).app (Alike.app (a := [T.1]) (b := [T.1]) (Alike.refl _) hA)
      · rw [← List.append_assoc]
        refine Ev.step1 (f := fun k => (blanks_take.f k (x.extract i x.size)).bind fun bt610 => if 0 ≤ wrap64 ((i : Int) + bt610.2.2) then (if wrap64 ((i : Int) + bt610.2.2) ≤ (x.size : Int) then blanks_pieces.l0 k (x.extract (wrap64 ((i : Int) + bt610.2.2)).toNat x.size) (acc ++ [⟨x.extract 0 i, false⟩, ⟨bt610.1, bt610.2.1⟩]) else none) else none) ?_ (fun k => by
          simp only [blanks_pieces.l0, ByteArray.toList_eq, strings_IndexByte.f]
          rw [if_neg h0, Option.bind_some, show ((123 : Int).toNat.toUInt8) = 123 from rfl, h1, if_neg (by omega), if_pos (by omega), if_pos (by omega), show ((i : Int)).toNat = i from by omega]
          simp only [Option.bind_some, List.length_cons, List.length_nil]
          simp only [if_pos (show acc.length + 2 < 5864062014805 by omega)])
        refine Ev.bind ht ?_
        simp only [w64 (x := (i : Int) + (T.2 : Int)) (by omega) (by omega), if_pos (show (0 : Int) ≤ (i : Int) + (T.2 : Int) by omega), if_pos (show (i : Int) + (T.2 : Int) ≤ (x.size : Int) by omega), show ((i : Int) + (T.2 : Int)).toNat = i + T.2 from by omega]
        exact hE
theorem pieces_spec (x : ByteArray) (hx : x.size ≤ 1099511627776) : ∃ ps : List S69, Alike (ps.map toP) (tokL x.data.toList) ∧ ps.length ≤ 2 * x.size ∧ Ev (fun k => blanks_pieces.f k x) ps := by
  obtain ⟨ps, h1, h2, h3⟩ := pieces_loop x.size x [] rfl hx (by simp; omega)
  exact ⟨ps, h1, h2, by simpa [blanks_pieces.f] using h3⟩
end Go.Proofs.YtljmmhihdcnbaaaDoor.G
