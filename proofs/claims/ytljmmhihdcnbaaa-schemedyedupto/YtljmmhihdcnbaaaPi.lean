/- Schemes: which are known, what is safe, what is let through. -/
import Derived.Test.YtljmmhihdcnbaaaPg
import Derived.Test.YtljmmhihdcnbaaaG64
import Derived.Test.YtljmmhihdcnbaaaG101
import Derived.Test.YtljmmhihdcnbaaaG99
namespace Go.Proofs.Ytljmmhihdcnbaaa.G
open Go.RowKit Go.Proofs.YtljmmhihdcnbaaaW.PrintWords Go.Proofs.YtljmmhihdcnbaaaW.PrintLast Go.Proofs.YtljmmhihdcnbaaaW.PrintMore
set_option linter.unusedVariables false
set_option linter.unusedSimpArgs false
theorem Scheme_alive : Ev (fun k => glazierlaw07_alive.f k) true := Ev.of (fun k => glazierlaw07_alive.mono k) (k := 60) (by decide +kernel)
/-! ### a list of texts -/
def idxL (a : ByteArray) : Nat → List ByteArray → Int
  | _, [] => -1
  | i, x :: l => if a.toList = x.toList then (i : Int) else idxL a (i + 1) l
theorem rdOfB {l : List ByteArray} {i : Nat} (h : i < l.length) : rdOf ByteArray.empty l (i : Int) = l[i] := by simp [rdOf, h]
theorem Index_loop (l : List ByteArray) (a : ByteArray) (hl : l.length ≤ 1099511627776) : ∀ (d i : Nat), i + d = l.length → Ev (fun k => slices_Index_string_string.l0 k l a (l.length : Int) (i : Int)) (idxL a i (l.drop i)) := by
  intro d
  induction d with
  | zero =>
    intro i hi
    rw [List.drop_eq_nil_of_le (by omega)]
    refine Ev.step1 (Ev.now _) (fun k => ?_)
    simp only [slices_Index_string_string.l0]
    rw [if_neg (by omega)]
    rfl
  | succ d ih =>
    intro i hi
    have hlt : i < l.length := by omega
    rw [List.drop_eq_getElem_cons hlt, idxL]
    by_cases h : a.toList = l[i].toList
    · rw [if_pos h]
      refine Ev.step1 (Ev.now _) (fun k => ?_)
      simp only [slices_Index_string_string.l0]
      rw [if_pos (by omega), if_pos (by omega), if_pos (by omega), rdOfB hlt, if_pos h]
    · rw [if_neg h]
      refine Ev.step1 (ih (i + 1) (by omega)) (fun k => ?_)
      simp only [slices_Index_string_string.l0]
      rw [if_pos (by omega), if_pos (by omega), if_pos (by omega), rdOfB hlt, if_neg h, w64 (by omega) (by omega)]
      rfl
theorem idxL_ge (a : ByteArray) : ∀ (l : List ByteArray) (i : Nat), decide (idxL a i l ≥ 0) = l.any fun x => a.toList == x.toList
  | [], i => rfl
  | x :: l, i => by
    rw [idxL, List.any_cons]
    by_cases h : a.toList = x.toList
    · rw [if_pos h, beq_iff_eq.2 h, Bool.true_or]
      exact decide_eq_true (by omega)
    · rw [if_neg h, beq_eq_false_iff_ne.2 h, Bool.false_or]
      exact idxL_ge a l (i + 1)
theorem Contains_spec (l : List ByteArray) (a : ByteArray) (hl : l.length ≤ 1099511627776) : Ev (fun k => slices_Contains_string_string.f k l a) (l.any fun x => a.toList == x.toList) := by
  have h := Index_loop l a hl l.length 0 (by omega)
  rw [List.drop_zero] at h
  unfold slices_Contains_string_string.f
  rw [← idxL_ge a l 0]
  exact Ev.bind h (Ev.now _)
def http : ByteArray := ⟨#[104, 116, 116, 112]⟩
def https : ByteArray := ⟨#[104, 116, 116, 112, 115]⟩
def mailto : ByteArray := ⟨#[109, 97, 105, 108, 116, 111]⟩
def knownB (a : ByteArray) : Bool := [http, https, mailto].any fun x => a.toList == x.toList
theorem Known_spec (a : ByteArray) : Ev (fun k => scheme_Known.f k a) (knownB a) := by
  unfold scheme_Known.f
  simp only [scheme_Names.f, Option.bind_some]
  exact Ev.bind (Contains_spec [http, https, mailto] a (by decide)) (Ev.now _)
theorem knownB_ne {a : ByteArray} (h : knownB a = true) : 0 < a.size := by
  rcases Nat.eq_zero_or_pos a.size with h0 | h0
  · have : a = ⟨#[]⟩ := by
      obtain ⟨⟨l⟩⟩ := a
      cases l with
      | nil => rfl
      | cons => simp [ByteArray.size] at h0
    subst this
    revert h
    decide +kernel
  · exact h0
/-! ### Safe -/
theorem Pure_canon {l : List Lc} (h : Okl l) (hl : l.length ≤ 1099511627776) : Ev (fun k => mark_Pure.f k (canon l).1 (canon l).2) (worst (l.map (·.2)) == 0) := by
  unfold mark_Pure.f
  exact Ev.bind (Worst_canon h hl) (Ev.now _)
/-- The origin of the colon behind the scheme. -/
def markAt (l : List Lc) (i : Nat) : Int := if h : i < l.length then l[i].2 else 65536
/-- Whether an address made ready may be taken. -/
def safeL (r : List Lc) : Bool := if 0 ≤ colonOf r then knownB (canon (schemeL r)).1 && (worst ((schemeL r).map (·.2)) == 0 && (markAt r (colonOf r).toNat == 0)) else true
theorem schemeL_size {r : List Lc} (h : 0 ≤ colonOf r) : (canon (schemeL r)).1.size = (colonOf r).toNat := by
  have := colonOf_range r
  rw [canon_size]
  unfold schemeL
  rw [if_neg (by omega)]
  unfold lowL
  rw [List.length_map, List.length_take]
  omega
theorem At_canon {l : List Lc} (h : Okl l) (hl : l.length ≤ 1099511627776) (i : Nat) (hi : i < l.length) : Ev (fun k => mark_At.f k (canon l).1 (canon l).2 (i : Int)) (markAt l i) := by
  have hc := canon_runs l
  have e := La_canon h
  have := At_spec (canon l).1 (canon l).2 i (by rw [e]; exact hi) (by rw [canon_size]; exact hl) (by omega)
  unfold markAt
  rw [dif_pos hi]
  simpa only [e] using this
theorem Safe_spec (t : ByteArray) (rs : List S85) (ht : t.size ≤ 1099511627776) (hr : rs.length ≤ 1099511627776) : Ev (fun k => scheme_Safe.f k t rs) (safeL (readyL (La t rs))) := by
  have hO := readyL_ok (La_ok t rs)
  have hl := readyL_length (La t rs)
  have hn := La_length t rs
  have hrange := colonOf_range (readyL (La t rs))
  have hs := schemeL_length (readyL (La t rs))
  unfold scheme_Safe.f
  refine Ev.bind (Scheme_spec t rs ht hr) ?_
  unfold safeL
  by_cases h : 0 ≤ colonOf (readyL (La t rs))
  · simp only [decide_eq_true h, if_true, if_pos h]
    refine Ev.bind (Ready_spec t rs ht hr) ?_
    rw [schemeL_size h]
    refine Ev.bind (At_canon hO (by omega) _ (by omega)) ?_
    refine Ev.bind (Known_spec _) ?_
    cases knownB (canon (schemeL (readyL (La t rs)))).1 with
    | false => simp only [Bool.false_eq_true, if_false, Bool.false_and]; exact Ev.now _
    | true =>
      simp only [if_true, Bool.true_and]
      refine Ev.bind (Pure_canon (schemeL_ok hO) (by omega)) ?_
      cases worst ((schemeL (readyL (La t rs))).map (·.2)) == 0 with
      | false => simp only [Bool.false_eq_true, if_false, Bool.false_and]; exact Ev.now _
      | true => simp only [if_true, Bool.true_and]; exact Ev.now _
  · simp only [decide_eq_false h, Bool.false_eq_true, if_false, if_neg h]
    exact Ev.now _
theorem Safe_canon {l : List Lc} (h : Okl l) (hl : l.length ≤ 1099511627776) : Ev (fun k => scheme_Safe.f k (canon l).1 (canon l).2) (safeL (readyL l)) := by
  have hc := canon_runs l
  have := Safe_spec (canon l).1 (canon l).2 (by rw [canon_size]; exact hl) (by omega)
  rwa [La_canon h] at this
theorem Filter_spec (t : ByteArray) (rs : List S85) (ht : t.size ≤ 1099511627776) (hr : rs.length ≤ 1099511627776) : Ev (fun k => scheme_Filter.f k t rs) (if safeL (readyL (La t rs)) = true then ((canon (readyL (La t rs))).1, (canon (readyL (La t rs))).2, true) else (⟨#[]⟩, [], false)) := by
  unfold scheme_Filter.f
  refine Ev.bind (Safe_spec t rs ht hr) ?_
  cases safeL (readyL (La t rs)) with
  | true => simp only [if_true]; exact Ev.bind (Ready_spec t rs ht hr) (Ev.now _)
  | false => simp only [Bool.false_eq_true, if_false]; exact Ev.now _
end Go.Proofs.Ytljmmhihdcnbaaa.G
