/- What url's Ready, end, Scheme and Rest compute. -/
import Derived.Test.YtljmmhihdcnbaaaPf
import Derived.Test.YtljmmhihdcnbaaaG12
import Derived.Test.YtljmmhihdcnbaaaG15
import Derived.Test.YtljmmhihdcnbaaaG16
import Derived.Test.YtljmmhihdcnbaaaG20
namespace Go.Proofs.Ytljmmhihdcnbaaa.G
open Go.RowKit Go.Proofs.YtljmmhihdcnbaaaW.PrintWords Go.Proofs.YtljmmhihdcnbaaaW.PrintLast Go.Proofs.YtljmmhihdcnbaaaW.PrintMore
set_option linter.unusedVariables false
set_option linter.unusedSimpArgs false

def tnr : ByteArray := ⟨#[9, 10, 13]⟩
def readyL (l : List Lc) : List Lc := withoutL tnr (trimL endP l)
theorem readyL_ok {l : List Lc} (h : Okl l) : Okl (readyL l) := withoutL_ok (trimL_ok h)
theorem readyL_length (l : List Lc) : (readyL l).length ≤ l.length := Nat.le_trans (withoutL_length _ _) (trimL_length _ _)
theorem Ready_spec (t : ByteArray) (rs : List S85) (ht : t.size ≤ 1099511627776) (hr : rs.length ≤ 1099511627776) : Ev (fun k => url_Ready.f k t rs) (canon (readyL (La t rs))) := by
  unfold url_Ready.f
  refine Ev.bind (Ends_spec t rs ht hr) ?_
  have hl := trimL_length endP (La t rs)
  have hn := La_length t rs
  have hc := canon_runs (trimL endP (La t rs))
  have h := Without_spec (canon (trimL endP (La t rs))).1 (canon (trimL endP (La t rs))).2 tnr (by rw [canon_size]; omega) (by omega)
  rw [La_canon (trimL_ok (La_ok t rs))] at h
  exact Ev.bind h (Ev.now _)
def letters : List UInt8 := [97, 98, 99, 100, 101, 102, 103, 104, 105, 106, 107, 108, 109, 110, 111, 112, 113, 114, 115, 116, 117, 118, 119, 120, 121, 122, 65, 66, 67, 68, 69, 70, 71, 72, 73, 74, 75, 76, 77, 78, 79, 80, 81, 82, 83, 84, 85, 86, 87, 88, 89, 90]
def others : List UInt8 := [97, 98, 99, 100, 101, 102, 103, 104, 105, 106, 107, 108, 109, 110, 111, 112, 113, 114, 115, 116, 117, 118, 119, 120, 121, 122, 65, 66, 67, 68, 69, 70, 71, 72, 73, 74, 75, 76, 77, 78, 79, 80, 81, 82, 83, 84, 85, 86, 87, 88, 89, 90, 48, 49, 50, 51, 52, 53, 54, 55, 56, 57, 43, 45, 46]
/-- May this byte stand at place i of a scheme? -/
def schemeB (i : Nat) (c : UInt8) : Bool := letters.contains c || (decide (0 < i) && others.contains c)
/-- Where the scheme ends, from place i on; -1: there is none. -/
def colonL : Nat → List UInt8 → Int
  | _, [] => -1
  | i, c :: l => if c = 58 ∧ 0 < i then (i : Int) else if schemeB i c = true then colonL (i + 1) l else -1
theorem colonL_range : ∀ (l : List UInt8) (i : Nat), -1 ≤ colonL i l ∧ colonL i l < (i : Int) + l.length
  | [], i => by simp [colonL]; omega
  | c :: l, i => by
    have ih := colonL_range l (i + 1)
    unfold colonL
    simp only [List.length_cons]
    split
    · omega
    · split
      · omega
      · omega
theorem end_loop (t : ByteArray) (rs : List S85) (ht : t.size ≤ 1099511627776) : ∀ (d i : Nat), i + d = t.size → Ev (fun k => url_end.l0 k (t.size : Int) (i : Int) t rs) (colonL i (t.data.toList.drop i)) := by
  intro d
  induction d with
  | zero =>
    intro i hi
    refine Ev.step1 (Ev.now _) (fun k => ?_)
    simp only [url_end.l0]
    rw [if_neg (by omega), List.drop_eq_nil_of_le (by rw [size_list]; omega)]
    rfl
  | succ d ih =>
    intro i hi
    have hlt : i < t.data.toList.length := by rw [size_list]; omega
    have hb := bt_nat hlt
    have e3 : (t.data.toList[i].toNat : Int).toNat.toUInt8 = t.data.toList[i] := by simp
    rw [List.drop_eq_getElem_cons hlt, colonL]
    refine Ev.step1 (f := fun k => url_end.j1 k (i : Int) (t.data.toList[i].toNat : Int) (t.size : Int) (i : Int) (decide (t.data.toList[i] = 58 ∧ 0 < i)) t rs) ?_ (fun k => by
      simp only [url_end.l0]
      rw [if_pos (by omega), if_pos (by omega), if_pos (by omega), hb]
      by_cases h58 : t.data.toList[i] = 58
      · rw [if_pos (by rw [h58]; rfl)]
        congr 1
        by_cases h0 : 0 < i
        · rw [decide_eq_true (show (i : Int) > 0 by omega), decide_eq_true (show t.data.toList[i] = 58 ∧ 0 < i from ⟨h58, h0⟩)]
        · rw [decide_eq_false (show ¬ (i : Int) > 0 by omega), decide_eq_false (show ¬ (t.data.toList[i] = 58 ∧ 0 < i) from fun h => h0 h.2)]
      · have hne : ¬ (t.data.toList[i].toNat : Int) = 58 := fun h => h58 ((u8_eq (n := 58) (by decide)).1 h)
        rw [if_neg hne, show decide (t.data.toList[i] = 58 ∧ 0 < i) = false from decide_eq_false (fun h => h58 h.1)])
    by_cases hc : t.data.toList[i] = 58 ∧ 0 < i
    · rw [if_pos hc, decide_eq_true hc]
      refine Ev.step1 (Ev.now _) (fun k => ?_)
      simp only [url_end.j1, if_true]
    · rw [if_neg hc, decide_eq_false hc]
      have h1 := indexByte_in letters t.data.toList[i]
      have h2 := indexByte_in others t.data.toList[i]
      have ih' := ih (i + 1) (by omega)
      have key : ∀ k, url_end.j1 (k + 1) (i : Int) (t.data.toList[i].toNat : Int) (t.size : Int) (i : Int) false t rs = if schemeB i t.data.toList[i] = true then url_end.l0 k (t.size : Int) ((i : Int) + 1) t rs else some (-1) := by
        intro k
        simp only [url_end.j1, Bool.false_eq_true, if_false]
        unfold strings_IndexByte.f
        rw [e3, Option.bind_some, w64 (by omega) (by omega)]
        unfold schemeB
        show (if Go.Lib.indexByte letters t.data.toList[i] ≥ 0 then _ else if (i : Int) > 0 then Option.bind (some (Go.Lib.indexByte others t.data.toList[i])) _ else _) = _
        rw [← h1, ← h2]
        by_cases a : Go.Lib.indexByte letters t.data.toList[i] ≥ 0
        · rw [if_pos a, decide_eq_true a]; rfl
        · rw [if_neg a, decide_eq_false a, Bool.false_or]
          by_cases b : 0 < i
          · rw [if_pos (by omega), decide_eq_true b, Bool.true_and, Option.bind_some]
            by_cases c : Go.Lib.indexByte others t.data.toList[i] ≥ 0
            · rw [if_pos c, decide_eq_true c]; rfl
            · rw [if_neg c, decide_eq_false c]; rfl
          · rw [if_neg (by omega), decide_eq_false b]; rfl
      cases hs : schemeB i t.data.toList[i] with
      | true => exact Ev.step1 ih' (fun k => by rw [key, hs]; rfl)
      | false => exact Ev.step1 (Ev.now _) (fun k => by rw [key, hs]; rfl)
theorem end_spec (t : ByteArray) (rs : List S85) (ht : t.size ≤ 1099511627776) : Ev (fun k => url_end.f k t rs) (colonL 0 t.data.toList) := end_loop t rs ht t.size 0 (by omega)
def colonOf (l : List Lc) : Int := colonL 0 (l.map (·.1))
theorem colonOf_range (l : List Lc) : -1 ≤ colonOf l ∧ colonOf l < l.length := by
  have := colonL_range (l.map (·.1)) 0
  simpa [colonOf] using this
theorem end_canon (l : List Lc) (hl : l.length ≤ 1099511627776) : Ev (fun k => url_end.f k (canon l).1 (canon l).2) (colonOf l) := by
  have h := end_spec (canon l).1 (canon l).2 (by rw [canon_size]; exact hl)
  exact h
/-- The scheme of what is ready, and if there is one. -/
def schemeL (r : List Lc) : List Lc := if colonOf r < 0 then [] else lowL (r.take (colonOf r).toNat)
theorem schemeL_ok {r : List Lc} (h : Okl r) : Okl (schemeL r) := by
  unfold schemeL
  split
  · exact Okl.nil
  · exact lowL_ok (h.sub fun _ hc => List.mem_of_mem_take hc)
theorem schemeL_length (r : List Lc) : (schemeL r).length ≤ r.length := by
  unfold schemeL
  split
  · simp
  · simp [lowL]; omega
theorem Scheme_spec (t : ByteArray) (rs : List S85) (ht : t.size ≤ 1099511627776) (hr : rs.length ≤ 1099511627776) : Ev (fun k => url_Scheme.f k t rs) ((canon (schemeL (readyL (La t rs)))).1, (canon (schemeL (readyL (La t rs)))).2, decide (0 ≤ colonOf (readyL (La t rs)))) := by
  unfold url_Scheme.f
  have hO := readyL_ok (La_ok t rs)
  have hl := readyL_length (La t rs)
  have hn := La_length t rs
  have hrange := colonOf_range (readyL (La t rs))
  refine Ev.bind (Ready_spec t rs ht hr) ?_
  refine Ev.bind (end_canon _ (by omega)) ?_
  by_cases h : colonOf (readyL (La t rs)) < 0
  · simp only [if_pos h]
    have e : schemeL (readyL (La t rs)) = [] := by unfold schemeL; rw [if_pos h]
    rw [e, decide_eq_false (by omega)]
    exact Ev.now _
  · simp only [if_neg h]
    refine Ev.bind (Cut_canon hO (by omega) _ _) ?_
    have e : cutL (readyL (La t rs)) 0 (colonOf (readyL (La t rs))) = (readyL (La t rs)).take (colonOf (readyL (La t rs))).toNat := by
      have := cutL_nat (readyL (La t rs)) 0 (colonOf (readyL (La t rs))).toNat (by omega) (by omega)
      rw [show ((colonOf (readyL (La t rs))).toNat : Int) = colonOf (readyL (La t rs)) from by omega] at this
      exact this
    have e2 : schemeL (readyL (La t rs)) = lowL ((readyL (La t rs)).take (colonOf (readyL (La t rs))).toNat) := by unfold schemeL; rw [if_neg h]
    rw [e, e2, decide_eq_true (by omega)]
    refine Ev.bind (Lower_canon (hO.sub fun _ hc => List.mem_of_mem_take hc) (by rw [List.length_take]; omega)) ?_
    exact Ev.now _
def restL (r : List Lc) : List Lc := r.drop (colonOf r + 1).toNat
theorem restL_ok {r : List Lc} (h : Okl r) : Okl (restL r) := h.sub fun _ hc => List.mem_of_mem_drop hc
theorem restL_length (r : List Lc) : (restL r).length ≤ r.length := by unfold restL; rw [List.length_drop]; omega
theorem Rest_spec (t : ByteArray) (rs : List S85) (ht : t.size ≤ 1099511627776) (hr : rs.length ≤ 1099511627776) : Ev (fun k => url_Rest.f k t rs) (canon (restL (readyL (La t rs)))) := by
  unfold url_Rest.f
  have hO := readyL_ok (La_ok t rs)
  have hl := readyL_length (La t rs)
  have hn := La_length t rs
  have hrange := colonOf_range (readyL (La t rs))
  refine Ev.bind (Ready_spec t rs ht hr) ?_
  refine Ev.bind (end_canon _ (by omega)) ?_
  have e0 : wrap64 (colonOf (readyL (La t rs)) + 1) = colonOf (readyL (La t rs)) + 1 := w64 (by omega) (by omega)
  simp only [e0, canon_size]
  refine Ev.bind (Cut_canon hO (by omega) _ _) ?_
  have e : cutL (readyL (La t rs)) (colonOf (readyL (La t rs)) + 1) ((readyL (La t rs)).length : Int) = restL (readyL (La t rs)) := by
    have := cutL_nat (readyL (La t rs)) (colonOf (readyL (La t rs)) + 1).toNat (readyL (La t rs)).length (by omega) (by omega)
    rw [show ((colonOf (readyL (La t rs)) + 1).toNat : Int) = colonOf (readyL (La t rs)) + 1 from by omega] at this
    rw [this, List.take_of_length_le (Nat.le_refl _)]
    rfl
  rw [e]
  exact Ev.now _
theorem Scheme_canon {l : List Lc} (h : Okl l) (hl : l.length ≤ 1099511627776) : Ev (fun k => url_Scheme.f k (canon l).1 (canon l).2) ((canon (schemeL (readyL l))).1, (canon (schemeL (readyL l))).2, decide (0 ≤ colonOf (readyL l))) := by
  have hc := canon_runs l
  have := Scheme_spec (canon l).1 (canon l).2 (by rw [canon_size]; exact hl) (by omega)
  rwa [La_canon h] at this
theorem Ready_canon {l : List Lc} (h : Okl l) (hl : l.length ≤ 1099511627776) : Ev (fun k => url_Ready.f k (canon l).1 (canon l).2) (canon (readyL l)) := by
  have hc := canon_runs l
  have := Ready_spec (canon l).1 (canon l).2 (by rw [canon_size]; exact hl) (by omega)
  rwa [La_canon h] at this
/-! ### ready once more -/
theorem withoutL_idem (bs : ByteArray) (l : List Lc) : withoutL bs (withoutL bs l) = withoutL bs l := by
  unfold withoutL
  rw [List.filter_filter]
  congr 1
  funext c
  simp
theorem filter_head {α : Type} (q : α → Bool) (l : List α) (h : ∀ x, l.head? = some x → q x = true) (x : α) (hx : (l.filter q).head? = some x) : l.head? = some x := by
  cases l with
  | nil => cases hx
  | cons a l =>
    rw [List.filter_cons, h a rfl] at hx
    exact hx
theorem filter_last {α : Type} (q : α → Bool) (l : List α) (h : ∀ x, l.getLast? = some x → q x = true) (x : α) (hx : (l.filter q).getLast? = some x) : l.getLast? = some x := by
  rw [← List.head?_reverse] at hx ⊢
  rw [← List.filter_reverse] at hx
  exact filter_head q l.reverse (fun y hy => h y (by rw [← List.head?_reverse]; exact hy)) x hx
theorem endP_tnr (c : UInt8) (h : endP c = false) : inB tnr c = false := by
  have := byte_all (fun c => endP c || !inB tnr c) (by decide +kernel) c
  simp only [h, Bool.false_or] at this
  simpa using this
theorem readyL_idem (l : List Lc) : readyL (readyL l) = readyL l := by
  have hE := trimL_ends endP l
  have h1 : ∀ c, (trimL endP l).head? = some c → (!inB tnr c.1) = true := fun c hc => by rw [endP_tnr _ (hE.1 c hc)]; rfl
  have h2 : ∀ c, (trimL endP l).getLast? = some c → (!inB tnr c.1) = true := fun c hc => by rw [endP_tnr _ (hE.2 c hc)]; rfl
  have e : trimL endP (readyL l) = readyL l := by
    refine trimL_none endP _ (fun c hc => ?_) (fun c hc => ?_)
    · exact hE.1 c (filter_head _ _ h1 c hc)
    · exact hE.2 c (filter_last _ _ h2 c hc)
  show withoutL tnr (trimL endP (readyL l)) = readyL l
  rw [e]
  exact withoutL_idem tnr _
end Go.Proofs.Ytljmmhihdcnbaaa.G
