/- UrlTells: the document's answer and the program's are the same function on labelled texts. -/
import Derived.Test.YtljmmhihdcnbaaaPg
import Derived.Test.YtljmmhihdcnbaaaG28
import Derived.Test.YtljmmhihdcnbaaaG38
namespace Go.Proofs.Ytljmmhihdcnbaaa.G
open Go.RowKit Go.Proofs.YtljmmhihdcnbaaaW.PrintWords Go.Proofs.YtljmmhihdcnbaaaW.PrintLast Go.Proofs.YtljmmhihdcnbaaaW.PrintMore
set_option linter.unusedVariables false
set_option linter.unusedSimpArgs false
theorem Url_alive' : Ev (fun k => glazierlaw06_alive.f k) true := Ev.of (fun k => glazierlaw06_alive.mono k) (k := 60) (by decide +kernel)
/-- The bytes from 0 up to n - 1. -/
def upB (n : Nat) : ByteArray := ⟨((List.range n).map UInt8.ofNat).toArray⟩
theorem upB_size (n : Nat) : (upB n).size = n := by simp [upB, ByteArray.size]
theorem upB_snoc (n : Nat) (h : n < 256) : upB n ++ strOfNums [(n : Int) % 256] = upB (n + 1) := by
  apply ByteArray.ext
  rw [ByteArray.data_append]
  unfold upB strOfNums
  apply Array.toList_inj.1
  rw [Array.toList_append]
  simp [List.range_succ]
  congr 1
  omega
theorem endP_up (c : UInt8) : inB (upB 33) c = endP c := by
  have := byte_all (fun c => inB (upB 33) c == endP c) (by decide +kernel) c
  simpa using this
theorem ready_loop (l : List Lc) (hl : l.length ≤ 1099511627776) : ∀ (d i : Nat), i + d = 33 → Ev (fun k => glazierlaw06_ready.l0 k (l.map toC) (upB i) (i : Int)) ((readyL l).map toC) := by
  intro d
  induction d with
  | zero =>
    intro i hi
    have : i = 33 := by omega
    subst this
    refine Ev.step1 (f := fun k => (glazierref01_Trim.f k (l.map toC) (upB 33)).bind fun t356 => ((glazierref01_Without.f k t356 (⟨#[9, 10, 13]⟩ : ByteArray)).bind fun t359 => (some t359))) ?_ (fun k => by
      simp only [glazierlaw06_ready.l0]
      rw [if_neg (by omega)])
    refine Ev.bind (RefTrim_spec l (upB 33) hl (by rw [upB_size]; omega)) ?_
    have e : trimL (inB (upB 33)) l = trimL endP l := by rw [show inB (upB 33) = endP from funext endP_up]
    rw [e]
    have h1 := trimL_length endP l
    exact Ev.bind (RefWithout_spec (trimL endP l) tnr (by omega) (by show 3 ≤ 1099511627776; omega)) (Ev.now _)
  | succ d ih =>
    intro i hi
    refine Ev.step1 (ih (i + 1) (by omega)) (fun k => ?_)
    simp only [glazierlaw06_ready.l0]
    have e2 : (strOfNums [(i : Int) % 256]).size = 1 := rfl
    rw [if_pos (by omega), Option.bind_some, upB_size, e2, if_pos (by omega), upB_snoc i (by omega), w64 (by omega) (by omega)]
    rfl
theorem ready_spec (l : List Lc) (hl : l.length ≤ 1099511627776) : Ev (fun k => glazierlaw06_ready.f k (l.map toC)) ((readyL l).map toC) := ready_loop l hl 33 0 (by omega)
theorem letter_eq (c : UInt8) : glazierlaw06_letter.f (c.toNat : Int) = some (letters.contains c) := by
  have := byte_all (fun c => glazierlaw06_letter.f (c.toNat : Int) == some (letters.contains c)) (by decide +kernel) c
  simpa using this
theorem schemeB_eq (i : Nat) (c : UInt8) : schemeB i c = (letters.contains c || (decide (0 < i) && (decide (48 ≤ c.toNat ∧ c.toNat ≤ 57) || inB ⟨#[43, 45, 46]⟩ c))) := by
  have := byte_all (fun c => (letters.contains c || others.contains c) == (letters.contains c || (decide (48 ≤ c.toNat ∧ c.toNat ≤ 57) || inB ⟨#[43, 45, 46]⟩ c))) (by decide +kernel) c
  simp only [beq_iff_eq] at this
  unfold schemeB
  cases decide (0 < i) with
  | true => simpa using this
  | false => simp
theorem colon_loop (l : List Lc) (hl : l.length ≤ 1099511627776) : ∀ (d i : Nat), i + d = l.length → Ev (fun k => glazierlaw06_colon.l0 k (l.map toC) (i : Int)) (colonL i ((l.drop i).map (·.1))) := by
  intro d
  induction d with
  | zero =>
    intro i hi
    refine Ev.step1 (Ev.now _) (fun k => ?_)
    simp only [glazierlaw06_colon.l0]
    rw [List.length_map, if_neg (by omega), List.drop_eq_nil_of_le (by omega)]
    rfl
  | succ d ih =>
    intro i hi
    have hlt : i < l.length := by omega
    have hg := rdC hlt
    have hf0 : (toC l[i]).f0 = (l[i].1.toNat : Int) := rfl
    rw [List.drop_eq_getElem_cons hlt, List.map_cons, colonL]
    refine Ev.step1 (f := fun k => glazierlaw06_colon.j1 k (l.map toC) (i : Int) (l[i].1.toNat : Int) (decide (l[i].1 = 58 ∧ 0 < i))) ?_ (fun k => by
      simp only [glazierlaw06_colon.l0]
      rw [List.length_map, if_pos (by omega), if_pos (by omega), hg, hf0]
      by_cases h58 : l[i].1 = 58
      · rw [if_pos (by rw [h58]; rfl)]
        congr 1
        by_cases h0 : 0 < i
        · rw [decide_eq_true (show (i : Int) > 0 by omega), decide_eq_true (show l[i].1 = 58 ∧ 0 < i from ⟨h58, h0⟩)]
        · rw [decide_eq_false (show ¬ (i : Int) > 0 by omega), decide_eq_false (show ¬ (l[i].1 = 58 ∧ 0 < i) from fun h => h0 h.2)]
      · have hne : ¬ (l[i].1.toNat : Int) = 58 := fun h => h58 ((u8_eq (n := 58) (by decide)).1 h)
        rw [if_neg hne, show decide (l[i].1 = 58 ∧ 0 < i) = false from decide_eq_false (fun h => h58 h.1)])
    by_cases hc : l[i].1 = 58 ∧ 0 < i
    · rw [if_pos hc, decide_eq_true hc]
      refine Ev.step1 (Ev.now _) (fun k => ?_)
      simp only [glazierlaw06_colon.j1, if_true]
    · rw [if_neg hc, decide_eq_false hc]
      have ih' := ih (i + 1) (by omega)
      have key : ∀ k, glazierlaw06_colon.j1 (k + 1) (l.map toC) (i : Int) (l[i].1.toNat : Int) false = if letters.contains l[i].1 = true then glazierlaw06_colon.l0 k (l.map toC) ((i : Int) + 1) else if i = 0 then some (-1) else if 48 ≤ l[i].1.toNat ∧ l[i].1.toNat ≤ 57 then glazierlaw06_colon.l0 k (l.map toC) ((i : Int) + 1) else (glazierref01_In.f k (l[i].1.toNat : Int) ⟨#[43, 45, 46]⟩).bind fun t => if t = true then glazierlaw06_colon.l0 k (l.map toC) ((i : Int) + 1) else some (-1) := by
        intro k
        simp only [glazierlaw06_colon.j1, Bool.false_eq_true, if_false]
        rw [letter_eq, Option.bind_some, w64 (by omega) (by omega)]
        by_cases a : letters.contains l[i].1 = true
        · rw [if_pos a, if_pos a]
        · rw [if_neg a, if_neg a]
          by_cases b : i = 0
          · rw [if_pos (by omega), if_pos b]
          · rw [if_neg (by omega), if_neg b]
            by_cases c1 : 48 ≤ l[i].1.toNat
            · rw [if_pos (by omega)]
              by_cases c2 : l[i].1.toNat ≤ 57
              · rw [if_pos (by omega), if_pos ⟨c1, c2⟩]
              · rw [if_neg (by omega), if_neg (by omega)]
            · rw [if_neg (by omega), if_neg (by omega)]
      refine Ev.step1 (f := fun k => if letters.contains l[i].1 = true then glazierlaw06_colon.l0 k (l.map toC) ((i : Int) + 1) else if i = 0 then some (-1) else if 48 ≤ l[i].1.toNat ∧ l[i].1.toNat ≤ 57 then glazierlaw06_colon.l0 k (l.map toC) ((i : Int) + 1) else (glazierref01_In.f k (l[i].1.toNat : Int) ⟨#[43, 45, 46]⟩).bind fun t => if t = true then glazierlaw06_colon.l0 k (l.map toC) ((i : Int) + 1) else some (-1)) ?_ key
      rw [schemeB_eq]
      cases a : letters.contains l[i].1 with
      | true => simp only [if_true, Bool.true_or]; exact ih'
      | false =>
        simp only [Bool.false_eq_true, if_false, Bool.false_or]
        by_cases b : i = 0
        · simp only [if_pos b]
          rw [decide_eq_false (by omega), Bool.false_and]
          exact Ev.now _
        · simp only [if_neg b]
          rw [decide_eq_true (by omega), Bool.true_and]
          by_cases c1 : 48 ≤ l[i].1.toNat ∧ l[i].1.toNat ≤ 57
          · simp only [if_pos c1, decide_eq_true c1, Bool.true_or, if_true]
            exact ih'
          · simp only [if_neg c1, decide_eq_false c1, Bool.false_or]
            refine Ev.bind (In_spec ⟨#[43, 45, 46]⟩ (by show 3 ≤ 1099511627776; omega) l[i].1) ?_
            cases inB ⟨#[43, 45, 46]⟩ l[i].1 with
            | true => simp only [if_true]; exact ih'
            | false => simp only [Bool.false_eq_true, if_false]; exact Ev.now _
theorem colon_spec (l : List Lc) (hl : l.length ≤ 1099511627776) : Ev (fun k => glazierlaw06_colon.f k (l.map toC)) (colonOf l) := by
  have := colon_loop l hl l.length 0 (by omega)
  simpa [glazierlaw06_colon.f, colonOf] using this
theorem UrlTells_pure (t : ByteArray) (rs : List S85) (ht : t.size ≤ 1099511627776) (hr : rs.length ≤ 1099511627776) : ∃ k, glazierlaw06_UrlTells.f k t rs = some true := by
  refine Ev.rounds ?_
  unfold glazierlaw06_UrlTells.f
  refine Ev.bind Url_alive' ?_
  simp only [if_true]
  have hO := readyL_ok (La_ok t rs)
  have hl := readyL_length (La t rs)
  have hn := La_length t rs
  have hrange := colonOf_range (readyL (La t rs))
  have hs := schemeL_length (readyL (La t rs))
  have hrl := restL_length (readyL (La t rs))
  refine Ev.bind (RefOf_spec t rs ht hr) (Ev.bind (ready_spec (La t rs) (by omega)) (Ev.bind (colon_spec _ (by omega)) ?_))
  have last : Ev (fun k => glazierlaw06_UrlTells.j0 k ((readyL (La t rs)).map toC) (colonOf (readyL (La t rs))) ((schemeL (readyL (La t rs))).map toC) t rs) true := by
    refine Ev.step (fun _ => rfl) ?_
    simp only [glazierlaw06_UrlTells.j0]
    refine Ev.bind (Scheme_spec t rs ht hr) (Ev.bind (Ready_spec t rs ht hr) ?_)
    refine Ev.bind (Is_spec (readyL (La t rs)) (by omega)) ?_
    simp only [if_true]
    have e1 : (decide (0 ≤ colonOf (readyL (La t rs))) == decide (colonOf (readyL (La t rs)) ≥ 0)) = true := beq_self_eq_true _
    simp only [e1, if_true]
    refine Ev.bind (Is_spec (schemeL (readyL (La t rs))) (by omega)) ?_
    simp only [if_true]
    refine Ev.bind (Rest_spec t rs ht hr) ?_
    have e2 : wrap64 (colonOf (readyL (La t rs)) + 1) = colonOf (readyL (La t rs)) + 1 := w64 (by omega) (by omega)
    simp only [e2, List.length_map]
    simp only [if_pos (show 0 ≤ colonOf (readyL (La t rs)) + 1 by omega), if_pos (show colonOf (readyL (La t rs)) + 1 ≤ ((readyL (La t rs)).length : Int) by omega)]
    have e3 : ((readyL (La t rs)).map toC).drop (colonOf (readyL (La t rs)) + 1).toNat = (restL (readyL (La t rs))).map toC := by unfold restL; rw [List.map_drop]
    rw [e3]
    exact Ev.bind (Is_spec (restL (readyL (La t rs))) (by omega)) (Ev.now _)
  by_cases h : 0 ≤ colonOf (readyL (La t rs))
  · simp only [if_pos (show colonOf (readyL (La t rs)) ≥ 0 from h), if_pos h, List.length_map]
    simp only [if_pos (show colonOf (readyL (La t rs)) ≤ ((readyL (La t rs)).length : Int) by omega)]
    have e : ((readyL (La t rs)).map toC).take (colonOf (readyL (La t rs))).toNat = ((readyL (La t rs)).take (colonOf (readyL (La t rs))).toNat).map toC := by rw [List.map_take]
    have e2 : schemeL (readyL (La t rs)) = lowL ((readyL (La t rs)).take (colonOf (readyL (La t rs))).toNat) := by unfold schemeL; rw [if_neg (by omega)]
    rw [e]
    refine Ev.bind (RefLower_spec _ (by rw [List.length_take]; omega)) ?_
    rw [← e2]
    exact last
  · simp only [if_neg (show ¬ colonOf (readyL (La t rs)) ≥ 0 from h)]
    have e2 : schemeL (readyL (La t rs)) = [] := by unfold schemeL; rw [if_pos (by omega)]
    rw [e2] at last
    exact last
end Go.Proofs.Ytljmmhihdcnbaaa.G
