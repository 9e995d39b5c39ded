/- SeekTells: where a text stands, whether it is at the beginning, fields, and how far some bytes go. -/
import Derived.Test.YtljmmhihdcnbaaaPf
import Derived.Test.YtljmmhihdcnbaaaPn
import Derived.Test.YtljmmhihdcnbaaaGT
namespace Go.Proofs.Ytljmmhihdcnbaaa.G
open Go.RowKit Go.Proofs.YtljmmhihdcnbaaaW.PrintWords Go.Proofs.YtljmmhihdcnbaaaW.PrintLast Go.Proofs.YtljmmhihdcnbaaaW.PrintMore
set_option linter.unusedVariables false
set_option linter.unusedSimpArgs false
theorem SeekT_alive : Ev (fun k => glazierlaw04_alive.f k) true := Ev.of (fun k => glazierlaw04_alive.mono k) (k := 60) (by decide +kernel)
theorem fst_get {l : List Lc} {i : Nat} (h : i < l.length) : (l.map (·.1))[i]'(by rw [List.length_map]; exact h) = l[i].1 := by simp
theorem u8_beq (a b : UInt8) : (((a.toNat : Int)) == (b.toNat : Int)) = (a == b) := by
  by_cases h : a = b
  · subst h; simp
  · rw [beq_eq_false_iff_ne.2 h]
    exact beq_eq_false_iff_ne.2 (fun h' => h (UInt8.toNat_inj.1 (by omega)))
/-! ### the reference's Index -/
def resI (bs p : List UInt8) (i : Nat) : Int := if Go.Lib.index (bs.drop i) p < 0 then -1 else (i : Int) + Go.Lib.index (bs.drop i) p
theorem RefIndex_l1 (l : List Lc) (p : ByteArray) (hl : l.length ≤ 1099511627776) (hp : p.size ≤ 1099511627776) (i : Nat) (hip : i + p.size ≤ l.length) (r : Int) : ∀ (d j : Nat) (b : Bool), j + d = p.size →
    ((b && (p.data.toList.drop j).isPrefixOf ((l.map (·.1)).drop (i + j))) = true → r = (i : Int)) → ((b && (p.data.toList.drop j).isPrefixOf ((l.map (·.1)).drop (i + j))) = false → Ev (fun k => glazierref01_Index.l0 k (l.map toC) p ((i : Int) + 1)) r) →
    Ev (fun k => glazierref01_Index.l1 k (l.map toC) p (i : Int) b (j : Int)) r := by
  have hz := size_list p
  intro d
  induction d with
  | zero =>
    intro j b hj h1 h2
    rw [List.drop_eq_nil_of_le (show p.data.toList.length ≤ j by omega)] at h1 h2
    cases b with
    | true =>
      rw [h1 rfl]
      refine Ev.step1 (Ev.now _) (fun k => ?_)
      simp only [glazierref01_Index.l1]
      rw [if_neg (by omega), if_pos trivial]
    | false =>
      refine Ev.step1 (h2 rfl) (fun k => ?_)
      simp only [glazierref01_Index.l1]
      rw [if_neg (by omega), if_neg (by simp), w64 (by omega) (by omega)]
  | succ d ih =>
    intro j b hj h1 h2
    have hlt : j < p.data.toList.length := by omega
    have hlt2 : i + j < (l.map (·.1)).length := by rw [List.length_map]; omega
    have hlt3 : i + j < l.length := by omega
    rw [List.drop_eq_getElem_cons hlt, List.drop_eq_getElem_cons hlt2, fst_get hlt3] at h1 h2
    cases b with
    | true =>
      have e : ((true && (p.data.toList[j] :: p.data.toList.drop (j + 1)).isPrefixOf (l[i + j].1 :: (l.map (·.1)).drop (i + j + 1)))) = (((l[i + j].1) == p.data.toList[j]) && (p.data.toList.drop (j + 1)).isPrefixOf ((l.map (·.1)).drop (i + (j + 1)))) := by
        rw [Bool.true_and, List.isPrefixOf_cons_cons, show (p.data.toList[j] == l[i + j].1) = (l[i + j].1 == p.data.toList[j]) from Bool.eq_iff_iff.2 ⟨fun h => by simpa using (beq_iff_eq.1 h).symm, fun h => by simpa using (beq_iff_eq.1 h).symm⟩]
        rfl
      rw [e] at h1 h2
      refine Ev.step1 (ih (j + 1) (l[i + j].1 == p.data.toList[j]) (by omega) h1 h2) (fun k => ?_)
      simp only [glazierref01_Index.l1]
      have e1 : wrap64 ((i : Int) + (j : Int)) = ((i + j : Nat) : Int) := by rw [w64 (by omega) (by omega)]; omega
      rw [if_pos (by omega), if_pos trivial, e1, if_pos (by omega), if_pos (by rw [List.length_map]; omega), if_pos (by omega), rdC hlt3, bt_nat hlt, w64 (x := (j : Int) + 1) (by omega) (by omega)]
      show glazierref01_Index.l1 k _ p _ (((l[i + j].1.toNat : Int)) == _) _ = _
      rw [u8_beq]
      rfl
    | false =>
      refine Ev.step1 (ih (j + 1) false (by omega) (fun h => by simp at h) (fun _ => h2 (by simp))) (fun k => ?_)
      simp only [glazierref01_Index.l1]
      rw [if_pos (by omega), if_neg (by simp), w64 (x := (j : Int) + 1) (by omega) (by omega)]
      rfl
theorem RefIndex_l0 (l : List Lc) (p : ByteArray) (hl : l.length ≤ 1099511627776) (hp : p.size ≤ 1099511627776) : ∀ (d i : Nat), i + d = l.length → Ev (fun k => glazierref01_Index.l0 k (l.map toC) p (i : Int)) (resI (l.map (·.1)) p.data.toList i) := by
  have hz := size_list p
  have hm : (l.map (·.1)).length = l.length := List.length_map _
  intro d
  induction d with
  | zero =>
    intro i hi
    by_cases h : p.size = 0
    · have hn : p.data.toList = [] := List.eq_nil_of_length_eq_zero (by omega)
      have hr : resI (l.map (·.1)) p.data.toList i = (i : Int) := by
        unfold resI
        rw [hn, Go.Lib.index_empty, if_neg (by omega)]
        omega
      refine Ev.step1 (RefIndex_l1 l p hl hp i (by omega) _ p.size 0 true (by omega) (fun _ => hr) (fun h' => ?_)) (fun k => ?_)
      · rw [hn] at h'
        simp at h'
      · simp only [glazierref01_Index.l0]
        rw [w64 (by omega) (by omega), if_pos (by rw [List.length_map]; omega)]
        rfl
    · have hr : resI (l.map (·.1)) p.data.toList i = -1 := by
        unfold resI
        rw [List.drop_eq_nil_of_le (by omega)]
        have : Go.Lib.index [] p.data.toList = -1 := by
          unfold Go.Lib.index
          rw [if_neg (by intro e; have := List.isEmpty_iff.1 e; rw [this] at hz; simp at hz; omega)]
        rw [this]
        rfl
      rw [hr]
      refine Ev.step1 (Ev.now _) (fun k => ?_)
      simp only [glazierref01_Index.l0]
      rw [w64 (by omega) (by omega), if_neg (by rw [List.length_map]; omega)]
  | succ d ih =>
    intro i hi
    have hlt : i < (l.map (·.1)).length := by omega
    by_cases h : i + p.size ≤ l.length
    · have h2 := ih (i + 1) (by omega)
      have hun : Go.Lib.index ((l.map (·.1)).drop i) p.data.toList = if p.data.toList.isPrefixOf ((l.map (·.1)).drop i) then 0 else if Go.Lib.index ((l.map (·.1)).drop (i + 1)) p.data.toList == -1 then -1 else Go.Lib.index ((l.map (·.1)).drop (i + 1)) p.data.toList + 1 := by
        rw [List.drop_eq_getElem_cons hlt]
        rfl
      refine Ev.step1 (RefIndex_l1 l p hl hp i h (resI (l.map (·.1)) p.data.toList i) p.size 0 true (by omega) (fun h' => ?_) (fun h' => ?_)) (fun k => ?_)
      · rw [List.drop_zero, Nat.add_zero, Bool.true_and] at h'
        unfold resI
        rw [hun, if_pos h', if_neg (by omega)]
        omega
      · rw [List.drop_zero, Nat.add_zero, Bool.true_and] at h'
        have hge := Go.Lib.index_ge ((l.map (·.1)).drop (i + 1)) p.data.toList
        rw [if_neg (show ¬ p.data.toList.isPrefixOf ((l.map (·.1)).drop i) = true by rw [h']; simp)] at hun
        have e : resI (l.map (·.1)) p.data.toList i = resI (l.map (·.1)) p.data.toList (i + 1) := by
          unfold resI
          by_cases h3 : Go.Lib.index ((l.map (·.1)).drop (i + 1)) p.data.toList = -1
          · rw [if_pos (by rw [h3]; rfl)] at hun
            rw [hun, h3]
            rfl
          · rw [if_neg (by simpa using h3)] at hun
            rw [hun, if_neg (by omega), if_neg (by omega)]
            omega
        rw [e]
        exact h2
      · simp only [glazierref01_Index.l0]
        rw [w64 (by omega) (by omega), if_pos (by rw [List.length_map]; omega)]
        rfl
    · have hr : resI (l.map (·.1)) p.data.toList i = -1 := by
        unfold resI
        rw [Go.Lib.index_none (fun j hj => ?_)]
        · rfl
        · unfold Go.Lib.occAt
          rw [Bool.eq_false_iff]
          intro h3
          have h4 := (List.isPrefixOf_iff_prefix.1 h3).length_le
          rw [List.length_drop, List.length_drop] at h4
          omega
      rw [hr]
      refine Ev.step1 (Ev.now _) (fun k => ?_)
      simp only [glazierref01_Index.l0]
      rw [w64 (by omega) (by omega), if_neg (by rw [List.length_map]; omega)]
theorem from_nat (a : Int) (n : Nat) : ∃ i : Nat, mn (mx a 0) (n : Int) = (i : Int) ∧ i ≤ n := by
  rw [mn_eq, mx_eq]
  exact ⟨(min (max a 0) (n : Int)).toNat, by omega, by omega⟩
/-! ### the reference's Fields -/
theorem RefFields_loop (l : List Lc) (hl : l.length ≤ 1099511627776) : ∀ (d i : Nat) (out : List (List Lc)) (cur : List Lc), i + d = l.length → out.length ≤ i → cur.length ≤ i →
    Ev (fun k => glazierref01_Fields.l0 k (l.map toC) (out.map (List.map toC)) (cur.map toC) (i : Int)) ((out ++ (cutsA (qB sps) cur (l.drop i)).filter fun x => !x.isEmpty).map (List.map toC)) := by
  have hm : (l.map toC).length = l.length := List.length_map _
  intro d
  induction d with
  | zero =>
    intro i out cur hi ho hc
    rw [List.drop_eq_nil_of_le (by omega), cutsA]
    by_cases h : cur = []
    · subst h
      rw [List.filter_cons_of_neg (by simp), List.filter_nil, List.append_nil]
      refine Ev.step1 (Ev.now _) (fun k => ?_)
      simp only [glazierref01_Fields.l0]
      rw [if_neg (by omega), if_neg (by simp)]
    · have h0 : 0 < cur.length := List.length_pos_iff.2 h
      rw [List.filter_cons_of_pos (by simp [h]), List.filter_nil, List.map_append]
      refine Ev.step1 (Ev.now _) (fun k => ?_)
      simp only [glazierref01_Fields.l0]
      rw [if_neg (by omega), if_pos (by rw [List.length_map]; omega), if_pos (by rw [List.length_map]; omega)]
      rfl
  | succ d ih =>
    intro i out cur hi ho hc
    have hlt : i < l.length := by omega
    have hol : (out.map (List.map toC)).length = out.length := List.length_map _
    have hcl : (cur.map toC).length = cur.length := List.length_map _
    refine Ev.step1 (f := fun k => (glazierref01_In.f k (l[i].1.toNat : Int) sps).bind fun t => if t = true then (if ((cur.map toC).length : Int) > 0 then glazierref01_Fields.l0 k (l.map toC) (out.map (List.map toC) ++ [cur.map toC]) [] ((i : Int) + 1) else glazierref01_Fields.l0 k (l.map toC) (out.map (List.map toC)) [] ((i : Int) + 1)) else glazierref01_Fields.l0 k (l.map toC) (out.map (List.map toC)) (cur.map toC ++ [toC l[i]]) ((i : Int) + 1)) ?_ (fun k => by
      simp only [glazierref01_Fields.l0]
      rw [if_pos (by omega), if_pos (by omega), rdC hlt, show (toC l[i]).f0 = (l[i].1.toNat : Int) from rfl, w64 (by omega) (by omega), show (⟨#[9, 10, 12, 13, 32]⟩ : ByteArray) = sps from rfl]
      congr 1
      funext t
      split
      · rw [if_pos (show (out.map (List.map toC)).length < 5864062014805 by omega)]
      · rw [if_pos (show (cur.map toC).length < 8796093022208 by omega)]
        rfl)
    refine Ev.bind (In_spec sps (by decide) l[i].1) ?_
    rw [List.drop_eq_getElem_cons hlt, cutsA]
    cases hq : inB sps l[i].1 with
    | true =>
      rw [if_pos (show qB sps l[i] = true from hq)]
      simp only [if_true]
      by_cases h : cur = []
      · subst h
        rw [List.filter_cons_of_neg (by simp)]
        simp only [if_neg (show ¬ ((([] : List Lc).map toC).length : Int) > 0 by simp)]
        exact ih (i + 1) out [] (by omega) (by omega) (by simp)
      · have h0 : 0 < cur.length := List.length_pos_iff.2 h
        have h2 := ih (i + 1) (out ++ [cur]) [] (by omega) (by simp; omega) (by simp)
        rw [List.map_append, List.append_assoc] at h2
        rw [List.filter_cons_of_pos (by simp [h])]
        simp only [if_pos (show ((cur.map toC).length : Int) > 0 by omega)]
        exact h2
    | false =>
      rw [if_neg (show ¬ qB sps l[i] = true by rw [show qB sps l[i] = false from hq]; simp)]
      simp only [Bool.false_eq_true, if_false]
      have h2 := ih (i + 1) out (cur ++ [l[i]]) (by omega) (by omega) (by simp; omega)
      rw [List.map_append] at h2
      exact h2
theorem RefFields_spec (l : List Lc) (hl : l.length ≤ 1099511627776) : Ev (fun k => glazierref01_Fields.f k (l.map toC)) ((fieldsL l).map (List.map toC)) := by
  have h := RefFields_loop l hl l.length 0 [] [] (by omega) (by simp) (by simp)
  rw [List.drop_zero, List.nil_append] at h
  exact h
/-! ### at the beginning -/
def lowT (t : List UInt8) : List UInt8 := t.map lowB
theorem lower_spec (t : ByteArray) (ht : t.size ≤ 1099511627776) : Ev (fun k => seek_lower.f k t) (bytesA (lowT t.data.toList)) := by
  unfold seek_lower.f
  refine Ev.bind (Lower_spec t [] ht (by simp)) ?_
  have e : (canon (lowL (La t []))).1 = bytesA (lowT t.data.toList) := by
    show bytesA ((lowL (La t [])).map (·.1)) = _
    rw [← La_fst t []]
    unfold lowL lowT
    rw [List.map_map, List.map_map]
    rfl
  simp only [e]
  exact Ev.now _
def beginsT (t p : List UInt8) : Bool := decide (p.length ≤ t.length) && (lowT t).take p.length == lowT p
theorem HasPrefix_is (a b : ByteArray) (ha : a.size ≤ 1099511627776) : strings_HasPrefix.f a b = some (decide (b.size ≤ a.size) && ((a.data.toList.take b.size) == b.data.toList)) := by
  unfold strings_HasPrefix.f stringslite_HasPrefix.f
  by_cases h : b.size ≤ a.size
  · rw [if_pos (by omega), if_pos (by omega), if_pos (by omega), Option.bind_some, decide_eq_true h, Bool.true_and, ByteArray.toList_eq, ByteArray.toList_eq, extract_list, List.drop_zero]
    simp
  · rw [if_neg (by omega), Option.bind_some, decide_eq_false h, Bool.false_and]
theorem bytes_of (l : List UInt8) : (bytesA l).data.toList = l := by simp [bytesA]
theorem Begins_spec (t : ByteArray) (rs : List S85) (p : ByteArray) (ht : t.size ≤ 1099511627776) (hp : p.size ≤ 1099511627776) : Ev (fun k => seek_Begins.f k t rs p) (beginsT t.data.toList p.data.toList) := by
  unfold seek_Begins.f
  refine Ev.bind (lower_spec t ht) (Ev.bind (lower_spec p hp) ?_)
  have e1 : (bytesA (lowT t.data.toList)).size = t.size := by rw [bytesA_size]; unfold lowT; rw [List.length_map, size_list]
  have e2 : (bytesA (lowT p.data.toList)).size = p.size := by rw [bytesA_size]; unfold lowT; rw [List.length_map, size_list]
  rw [HasPrefix_is _ _ (by omega)]
  simp only [Option.bind_some]
  have e : (decide ((bytesA (lowT p.data.toList)).size ≤ (bytesA (lowT t.data.toList)).size) && ((bytesA (lowT t.data.toList)).data.toList.take (bytesA (lowT p.data.toList)).size == (bytesA (lowT p.data.toList)).data.toList)) = beginsT t.data.toList p.data.toList := by
    unfold beginsT
    rw [e1, e2, bytes_of, bytes_of, size_list, size_list]
  rw [e]
  exact Ev.now _
/-! ### how far some bytes go -/
def spanN (bs : ByteArray) (t : List UInt8) : Nat := (t.takeWhile (inB bs)).length
theorem spanN_le (bs : ByteArray) (t : List UInt8) : spanN bs t ≤ t.length := (List.takeWhile_prefix _).length_le
theorem Span_loop (t : ByteArray) (rs : List S85) (bs : ByteArray) (ht : t.size ≤ 1099511627776) : ∀ (d i : Nat), i + d = t.size → Ev (fun k => seek_Span.l0 k bs (t.size : Int) (i : Int) t rs) ((i + spanN bs (t.data.toList.drop i) : Nat) : Int) := by
  have hz := size_list t
  intro d
  induction d with
  | zero =>
    intro i hi
    rw [List.drop_eq_nil_of_le (by omega)]
    refine Ev.step1 (Ev.now _) (fun k => ?_)
    simp only [seek_Span.l0]
    rw [if_neg (by omega)]
    congr 1
    simp [spanN]
    omega
  | succ d ih =>
    intro i hi
    have hlt : i < t.data.toList.length := by omega
    have hb := bt_nat hlt
    have e3 : ((t.data.toList[i].toNat : Int)).toNat.toUInt8 = t.data.toList[i] := by simp
    have hidx := indexByte_in bs.data.toList t.data.toList[i]
    have e : spanN bs (t.data.toList.drop i) = if inB bs t.data.toList[i] = true then spanN bs (t.data.toList.drop (i + 1)) + 1 else 0 := by
      unfold spanN
      rw [List.drop_eq_getElem_cons hlt, List.takeWhile_cons]
      split <;> simp
    cases hin : inB bs t.data.toList[i] with
    | true =>
      rw [e, hin, if_pos rfl]
      have hge : Go.Lib.indexByte bs.data.toList t.data.toList[i] ≥ 0 := of_decide_eq_true (hidx.trans hin)
      have h2 := ih (i + 1) (by omega)
      rw [show i + 1 + spanN bs (t.data.toList.drop (i + 1)) = i + (spanN bs (t.data.toList.drop (i + 1)) + 1) by omega] at h2
      refine Ev.step1 h2 (fun k => ?_)
      simp only [seek_Span.l0]
      rw [if_pos (by omega), if_pos (by omega), if_pos (by omega), hb]
      unfold strings_IndexByte.f
      rw [e3, Option.bind_some, if_neg (by omega), w64 (by omega) (by omega)]
      rfl
    | false =>
      rw [e, hin, if_neg (by simp)]
      have hge : ¬ Go.Lib.indexByte bs.data.toList t.data.toList[i] ≥ 0 := of_decide_eq_false (hidx.trans hin)
      refine Ev.step1 (Ev.now _) (fun k => ?_)
      simp only [seek_Span.l0]
      rw [if_pos (by omega), if_pos (by omega), if_pos (by omega), hb]
      unfold strings_IndexByte.f
      rw [e3, Option.bind_some, if_pos (by omega)]
      rfl
theorem Span_spec (t : ByteArray) (rs : List S85) (bs : ByteArray) (ht : t.size ≤ 1099511627776) : Ev (fun k => seek_Span.f k t rs bs) ((spanN bs t.data.toList : Nat) : Int) := by
  have h := Span_loop t rs bs ht t.size 0 (by omega)
  rw [List.drop_zero, Nat.zero_add] at h
  exact h
theorem IndexM_spec (t : ByteArray) (rs : List S85) (p : ByteArray) (a : Int) (ht : t.size ≤ 1048576) (i : Nat) (hi : mn (mx a 0) (t.size : Int) = (i : Int)) (hle : i ≤ t.size) : seek_IndexM.f t rs p a = some (resI t.data.toList p.data.toList i) := by
  have hge := Go.Lib.index_ge (t.data.toList.drop i) p.data.toList
  have hlt := Go.Lib.index_le (t.data.toList.drop i) p.data.toList
  have hz := size_list t
  rw [List.length_drop] at hlt
  unfold seek_IndexM.f
  rw [hi, if_pos (by omega), if_pos (by omega)]
  unfold strings_IndexM.f
  have hs : (t.extract (i : Int).toNat t.size).size < 4294967281 := by
    rw [← size_list, extract_list, List.length_drop, List.length_take]
    omega
  have he : (t.extract (i : Int).toNat t.size).data.toList = t.data.toList.drop i := by
    rw [extract_list, Int.toNat_natCast, List.take_of_length_le (by omega)]
  rw [if_pos hs, Option.bind_some, he]
  unfold resI
  split
  · rfl
  · rw [w64 (by omega) (by omega)]
/-! ### the law -/
theorem Tells_l2 (t : ByteArray) (rs : List S85) (p bs : ByteArray) (a : Int) (b : Bool) (sp : Int) (L : List S29) (Fs : List (List Lc)) (hF : ∀ X ∈ Fs, X.length ≤ 1048576) (hn : Fs.length ≤ 1048577)
    (hfin : Ev (fun k => (seek_IndexM.f t rs p a).bind fun t1323 => ((glazierref01_Index.f k L p a).bind fun t1324 => (if t1323 = t1324 then ((seek_Begins.f k t rs p).bind fun t1325 => (if (t1325 == b) = true then ((seek_Span.f k t rs bs).bind fun t1326 => (some (t1326 == sp))) else (none))) else (none)))) true) :
    ∀ (d i : Nat), i + d = Fs.length → Ev (fun k => glazierlaw04_SeekTells.l2 k p a bs L b sp (Fs.map (List.map toC)) (Fs.map mkS) (i : Int) t rs) true := by
  have h1 : (Fs.map (List.map toC)).length = Fs.length := List.length_map _
  have h2 : (Fs.map mkS).length = Fs.length := List.length_map _
  intro d
  induction d with
  | zero =>
    intro i hi
    refine Ev.step1 hfin (fun k => ?_)
    simp only [glazierlaw04_SeekTells.l2]
    rw [if_neg (by omega)]
  | succ d ih =>
    intro i hi
    have hlt : i < Fs.length := by omega
    have e1 : rd_T24 (Fs.map mkS) (i : Int) = mkS Fs[i] := by rw [rdT24 (by omega)]; simp
    have e2 : rd_L10 (Fs.map (List.map toC)) (i : Int) = Fs[i].map toC := by simp [rd_L10, hlt]
    refine Ev.step1 (f := fun k => (glazierref01_Is.f k (canon Fs[i]).1 (canon Fs[i]).2 (Fs[i].map toC)).bind fun x => if x = true then glazierlaw04_SeekTells.l2 k p a bs L b sp (Fs.map (List.map toC)) (Fs.map mkS) ((i : Int) + 1) t rs else none) ?_ (fun k => by
      simp only [glazierlaw04_SeekTells.l2]
      rw [if_pos (by omega), if_pos (by omega), if_pos (by omega), e1, e2, w64 (by omega) (by omega)]
      rfl)
    have hx := hF _ (List.getElem_mem hlt)
    refine Ev.bind (Is_spec Fs[i] (by omega)) ?_
    simp only [if_true]
    exact ih (i + 1) (by omega)
theorem Tells_l1 (t : ByteArray) (rs : List S85) (p bs : ByteArray) (a : Int) (b : Bool) (l : List Lc) (hl : l.length ≤ 1048576) (hbs : bs.size ≤ 1048576)
    (hfin : Ev (fun k => glazierlaw04_SeekTells.j3 k p a bs (l.map toC) b ((spanN bs (l.map (·.1)) : Nat) : Int) t rs) true) :
    ∀ (d i : Nat), i + d = l.length → i + spanN bs ((l.map (·.1)).drop i) = spanN bs (l.map (·.1)) → Ev (fun k => glazierlaw04_SeekTells.l1 k p a bs (l.map toC) b (i : Int) t rs) true := by
  have h1 : (l.map toC).length = l.length := List.length_map _
  have h2 : (l.map (·.1)).length = l.length := List.length_map _
  intro d
  induction d with
  | zero =>
    intro i hi he
    rw [List.drop_eq_nil_of_le (by omega), show spanN bs [] = 0 from rfl, Nat.add_zero] at he
    rw [← he] at hfin
    refine Ev.step1 hfin (fun k => ?_)
    simp only [glazierlaw04_SeekTells.l1]
    rw [if_neg (by omega)]
  | succ d ih =>
    intro i hi he
    have hlt : i < l.length := by omega
    have hlt2 : i < (l.map (·.1)).length := by omega
    refine Ev.step1 (f := fun k => (glazierref01_In.f k (l[i].1.toNat : Int) bs).bind fun x => if x = true then glazierlaw04_SeekTells.l1 k p a bs (l.map toC) b ((i : Int) + 1) t rs else glazierlaw04_SeekTells.j3 k p a bs (l.map toC) b (i : Int) t rs) ?_ (fun k => by
      simp only [glazierlaw04_SeekTells.l1]
      rw [if_pos (by omega), if_pos (by omega), rdC hlt, w64 (by omega) (by omega)]
      rfl)
    refine Ev.bind (In_spec bs (by omega) l[i].1) ?_
    have e : spanN bs ((l.map (·.1)).drop i) = if inB bs l[i].1 = true then spanN bs ((l.map (·.1)).drop (i + 1)) + 1 else 0 := by
      unfold spanN
      rw [List.drop_eq_getElem_cons hlt2, fst_get hlt, List.takeWhile_cons]
      split <;> simp
    cases hin : inB bs l[i].1 with
    | true =>
      rw [e, hin, if_pos rfl] at he
      simp only [if_true]
      exact ih (i + 1) (by omega) (by omega)
    | false =>
      rw [e, hin, if_neg (by simp)] at he
      simp only [Bool.false_eq_true, if_false]
      rw [← he] at hfin
      exact hfin
theorem Tells_l0 (t : ByteArray) (rs : List S85) (p bs : ByteArray) (a : Int) (l : List Lc) (hl : l.length ≤ 1048576) (hp : p.size ≤ 1048576) (B : Bool) (hfin : Ev (fun k => glazierlaw04_SeekTells.l1 k p a bs (l.map toC) B 0 t rs) true) :
    ∀ (d i : Nat) (b : Bool), i + d = p.size → (b = true → p.size ≤ l.length) → (b && ((lowT (l.map (·.1))).drop i).take (p.size - i) == (lowT p.data.toList).drop i) = B → Ev (fun k => glazierlaw04_SeekTells.l0 k p a bs (l.map toC) b (i : Int) t rs) true := by
  have hz := size_list p
  have h1 : (l.map toC).length = l.length := List.length_map _
  have h2 : (lowT (l.map (·.1))).length = l.length := by unfold lowT; rw [List.length_map, List.length_map]
  have h3 : (lowT p.data.toList).length = p.size := by unfold lowT; rw [List.length_map, size_list]
  have hstop : ∀ (i : Nat) (b : Bool), b = B → Ev (fun k => glazierlaw04_SeekTells.j1 k p a bs (l.map toC) b (i : Int) false t rs) true := fun i b hb => by
    subst hb
    refine Ev.step1 hfin (fun k => ?_)
    simp only [glazierlaw04_SeekTells.j1]
    rw [if_neg (by simp)]
  intro d
  induction d with
  | zero =>
    intro i b hi hb hB
    have e : b = B := by
      rw [← hB, show p.size - i = 0 by omega, List.take_zero, List.drop_eq_nil_of_le (by omega)]
      simp
    refine Ev.step1 (hstop i b e) (fun k => ?_)
    simp only [glazierlaw04_SeekTells.l0]
    rw [if_neg (by omega)]
  | succ d ih =>
    intro i b hi hb hB
    have hlt : i < p.data.toList.length := by omega
    cases b with
    | false =>
      refine Ev.step1 (hstop i false (by rw [← hB]; rfl)) (fun k => ?_)
      simp only [glazierlaw04_SeekTells.l0]
      rw [if_pos (by omega)]
    | true =>
      have hle := hb rfl
      have hlt2 : i < l.length := by omega
      have e1 : (lowT (l.map (·.1))).drop i = lowB l[i].1 :: (lowT (l.map (·.1))).drop (i + 1) := by
        rw [List.drop_eq_getElem_cons (by omega)]
        congr 1
        unfold lowT
        simp
      have e2 : (lowT p.data.toList).drop i = lowB p.data.toList[i] :: (lowT p.data.toList).drop (i + 1) := by
        rw [List.drop_eq_getElem_cons (by omega)]
        congr 1
        unfold lowT
        simp
      rw [e1, e2, show p.size - i = (p.size - (i + 1)) + 1 by omega, List.take_succ_cons, Bool.true_and, List.cons_beq_cons] at hB
      have h4 := ih (i + 1) (lowB l[i].1 == lowB p.data.toList[i]) (by omega) (fun _ => hle) hB
      refine Ev.step1 (f := fun k => glazierlaw04_SeekTells.j1 k p a bs (l.map toC) true (i : Int) true t rs) (Ev.step1 h4 (fun k => ?_)) (fun k => ?_)
      · simp only [glazierlaw04_SeekTells.j1]
        rw [if_pos trivial, if_pos (by omega), if_pos (by omega), rdC hlt2, show (toC l[i]).f0 = (l[i].1.toNat : Int) from rfl, refLow, Option.bind_some, if_pos (by omega), bt_nat hlt, refLow, Option.bind_some, u8_beq, w64 (by omega) (by omega)]
        rfl
      · simp only [glazierlaw04_SeekTells.l0]
        rw [if_pos (by omega)]
theorem SeekTells_pure (t : ByteArray) (rs : List S85) (p : ByteArray) (a : Int) (bs : ByteArray) (ht : t.size ≤ 1048576) (hr : rs.length ≤ 1048576) (hp : p.size + 1 ≤ 1048577) (ha : (Lit.int .i64 a).wf = true) (hbs : bs.size + 1 ≤ 1048577) : ∃ k, glazierlaw04_SeekTells.f k t rs p a bs = some true := by
  refine Ev.rounds ?_
  unfold glazierlaw04_SeekTells.f
  refine Ev.bind SeekT_alive ?_
  simp only [if_true]
  have hn := La_length t rs
  refine Ev.bind (RefOf_spec t rs (by omega) (by omega)) ?_
  have hm : ((La t rs).map toC).length = (La t rs).length := List.length_map _
  have hnum := fieldsL_num (La t rs)
  obtain ⟨i, hi, hle⟩ := from_nat a t.size
  have hI := RefIndex_l0 (La t rs) p (by omega) (by omega) ((La t rs).length - i) i (by omega)
  rw [La_fst] at hI
  have hI2 : Ev (fun k => glazierref01_Index.f k ((La t rs).map toC) p a) (resI t.data.toList p.data.toList i) := by
    unfold glazierref01_Index.f
    rw [hm, hn, hi]
    exact hI
  have hfin : Ev (fun k => (seek_IndexM.f t rs p a).bind fun t1323 => ((glazierref01_Index.f k ((La t rs).map toC) p a).bind fun t1324 => (if t1323 = t1324 then ((seek_Begins.f k t rs p).bind fun t1325 => (if (t1325 == beginsT t.data.toList p.data.toList) = true then ((seek_Span.f k t rs bs).bind fun t1326 => (some (t1326 == ((spanN bs t.data.toList : Nat) : Int)))) else (none))) else (none)))) true := by
    rw [IndexM_spec t rs p a ht i hi hle]
    simp only [Option.bind_some]
    refine Ev.bind hI2 ?_
    simp only [if_true]
    refine Ev.bind (Begins_spec t rs p (by omega) (by omega)) ?_
    simp only [beq_self_eq_true, if_true]
    refine Ev.bind (Span_spec t rs bs (by omega)) ?_
    simp only [beq_self_eq_true]
    exact Ev.now _
  have hl2 := Tells_l2 t rs p bs a (beginsT t.data.toList p.data.toList) ((spanN bs t.data.toList : Nat) : Int) ((La t rs).map toC) (fieldsL (La t rs)) (fun X hX => by have := fieldsL_len hX; omega) (by omega) hfin (fieldsL (La t rs)).length 0 (by omega)
  have hj3 : Ev (fun k => glazierlaw04_SeekTells.j3 k p a bs ((La t rs).map toC) (beginsT t.data.toList p.data.toList) ((spanN bs ((La t rs).map (·.1)) : Nat) : Int) t rs) true := by
    rw [La_fst]
    refine Ev.step1 (f := fun k => (glazierref01_Fields.f k ((La t rs).map toC)).bind fun t1314 => ((seek_Fields.f k t rs).bind fun t1317 => (if (t1314.length : Int) = (t1317.length : Int) then (glazierlaw04_SeekTells.l2 k p a bs ((La t rs).map toC) (beginsT t.data.toList p.data.toList) ((spanN bs t.data.toList : Nat) : Int) t1314 t1317 0 t rs) else (none)))) ?_ (fun k => by
      simp only [glazierlaw04_SeekTells.j3])
    refine Ev.bind (RefFields_spec (La t rs) (by omega)) (Ev.bind (Fields_spec t rs (by omega) (by omega)) ?_)
    simp only [List.length_map, if_true]
    exact hl2
  have hl1 := Tells_l1 t rs p bs a (beginsT t.data.toList p.data.toList) (La t rs) (by omega) (by omega) hj3 (La t rs).length 0 (by omega) (by rw [List.drop_zero, Nat.zero_add])
  have hpl := size_list p
  have htl := size_list t
  refine Tells_l0 t rs p bs a (La t rs) (by omega) (by omega) (beginsT t.data.toList p.data.toList) hl1 p.size 0 (decide ((p.size : Int) ≤ (((La t rs).map toC).length : Int))) (by omega) (fun h => by have := of_decide_eq_true h; omega) ?_
  rw [La_fst, List.drop_zero, List.drop_zero, Nat.sub_zero]
  unfold beginsT
  rw [hpl, htl, hm, hn]
  congr 1
  exact decide_eq_decide.2 ⟨fun h => by omega, fun h => by omega⟩
end Go.Proofs.Ytljmmhihdcnbaaa.G
