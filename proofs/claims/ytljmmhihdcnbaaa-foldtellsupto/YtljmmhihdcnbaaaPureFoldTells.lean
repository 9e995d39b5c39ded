/- FoldTells: what is lowered, trimmed, cleaned and swapped is byte by byte what the page says. -/
import Derived.Test.YtljmmhihdcnbaaaPk
import Derived.Test.YtljmmhihdcnbaaaPj
import Derived.Test.YtljmmhihdcnbaaaG11
import Derived.Test.YtljmmhihdcnbaaaG79
namespace Go.Proofs.Ytljmmhihdcnbaaa.G
open Go.RowKit Go.Proofs.YtljmmhihdcnbaaaW.PrintWords Go.Proofs.YtljmmhihdcnbaaaW.PrintLast Go.Proofs.YtljmmhihdcnbaaaW.PrintMore
set_option linter.unusedVariables false
set_option linter.unusedSimpArgs false
theorem Fold_alive' : Ev (fun k => glazierlaw03_alive.f k) true := Ev.of (fun k => glazierlaw03_alive.mono k) (k := 60) (by decide +kernel)
/-- The bytes from 0 up to n - 1. -/
def upF (n : Nat) : ByteArray := ⟨((List.range n).map UInt8.ofNat).toArray⟩
theorem upF_size (n : Nat) : (upF n).size = n := by simp [upF, ByteArray.size]
theorem upF_snoc (n : Nat) (h : n < 256) : upF n ++ strOfNums [(n : Int) % 256] = upF (n + 1) := by
  apply ByteArray.ext
  rw [ByteArray.data_append]
  unfold upF strOfNums
  apply Array.toList_inj.1
  rw [Array.toList_append]
  simp [List.range_succ]
  congr 1
  omega
theorem endP_upF (c : UInt8) : inB (upF 33) c = endP c := by
  have := byte_all (fun c => inB (upF 33) c == endP c) (by decide +kernel) c
  simpa using this
def allLow (l : List Lc) : Bool := l.all fun c => lowB c.1 == c.1
theorem FoldTells_l1 (t : ByteArray) (rs : List S85) (ht : t.size ≤ 1048576) (x1 : ByteArray) (v : UInt8) (x3 : ByteArray) (hx3 : x3.size + 1 ≤ 1048576) (x10 : ByteArray) (r : Bool) (b0 : Bool)
    (h : Ev (fun k => glazierlaw03_FoldTells.l1 k x1 (v.toNat : Int) x3 ((La t rs).map toC) x10 ((swapL v x3 (La t rs)).map toC) (allLow (La t rs)) ((La t rs).length : Int) t rs) r) : ∀ (d i : Nat) (w : List Lc) (b : Bool), i + d = (La t rs).length → w.length ≤ i * (x3.size + 1) → w ++ swapL v x3 ((La t rs).drop i) = swapL v x3 (La t rs) → (b && allLow ((La t rs).drop i)) = allLow (La t rs) →
    Ev (fun k => glazierlaw03_FoldTells.l1 k x1 (v.toNat : Int) x3 ((La t rs).map toC) x10 (w.map toC) b (i : Int) t rs) r := by
  have hn := La_length t rs
  intro d
  induction d with
  | zero =>
    intro i w b hi hw he hb
    rw [List.drop_eq_nil_of_le (by omega)] at he hb
    have e1 : w = swapL v x3 (La t rs) := by rw [← he]; simp [swapL]
    have e2 : b = allLow (La t rs) := by rw [← hb]; simp [allLow]
    rw [e1, e2, show i = (La t rs).length by omega]
    exact h
  | succ d ih =>
    intro i w b hi hw he hb
    have hlt : i < (La t rs).length := by omega
    have hm : i * (x3.size + 1) ≤ 1099511627776 := mul_bound (by omega) hx3
    have hcl := swapC_length v x3 (La t rs)[i]
    rw [List.drop_eq_getElem_cons hlt] at he hb
    have es : swapL v x3 ((La t rs)[i] :: (La t rs).drop (i + 1)) = swapC v x3 (La t rs)[i] ++ swapL v x3 ((La t rs).drop (i + 1)) := List.flatMap_cons
    have el : allLow ((La t rs)[i] :: (La t rs).drop (i + 1)) = (lowB (La t rs)[i].1 == (La t rs)[i].1 && allLow ((La t rs).drop (i + 1))) := List.all_cons
    rw [es, ← List.append_assoc] at he
    rw [el, ← Bool.and_assoc] at hb
    have h2 := ih (i + 1) _ _ (by omega) (by rw [List.length_append, Nat.add_mul, Nat.one_mul]; omega) he hb
    have f0 : (toC (La t rs)[i]).f0 = ((La t rs)[i].1.toNat : Int) := rfl
    have f1 : (toC (La t rs)[i]).f1 = (La t rs)[i].2 := rfl
    have fe : (⟨((La t rs)[i].1.toNat : Int), (La t rs)[i].2⟩ : S29) = toC (La t rs)[i] := rfl
    have elow : (((La t rs)[i].1.toNat : Int) == ((lowB (La t rs)[i].1).toNat : Int)) = (lowB (La t rs)[i].1 == (La t rs)[i].1) := by
      by_cases hq : lowB (La t rs)[i].1 = (La t rs)[i].1
      · rw [hq, beq_self_eq_true, beq_self_eq_true]
      · rw [beq_eq_false_iff_ne.2 hq, beq_eq_false_iff_ne]
        intro h5
        exact hq (UInt8.toNat_inj.1 (by omega))
    have key : Ev (fun k => if ((La t rs)[i].1.toNat : Int) = (v.toNat : Int) then (glazierref01_All.f k x3 (La t rs)[i].2).bind fun t831 => (if (w.map toC).length + t831.length < 8796093022208 then glazierlaw03_FoldTells.l1 k x1 (v.toNat : Int) x3 ((La t rs).map toC) x10 (w.map toC ++ t831) (b && (lowB (La t rs)[i].1 == (La t rs)[i].1)) ((i : Int) + 1) t rs else none) else if (w.map toC).length < 8796093022208 then glazierlaw03_FoldTells.l1 k x1 (v.toNat : Int) x3 ((La t rs).map toC) x10 (w.map toC ++ [toC (La t rs)[i]]) (b && (lowB (La t rs)[i].1 == (La t rs)[i].1)) ((i : Int) + 1) t rs else none) r := by
      rw [List.map_append] at h2
      unfold swapC at h2
      by_cases hv : (La t rs)[i].1 = v
      · have hvi : ((La t rs)[i].1.toNat : Int) = (v.toNat : Int) := by rw [hv]
        rw [if_pos hv] at h2
        simp only [if_pos hvi]
        refine Ev.bind (RefAll_spec _ _ (by omega)) ?_
        simp only [List.length_map, allO_length, size_list]
        simp only [if_pos (show w.length + x3.size < 8796093022208 by omega)]
        exact h2
      · have hvi : ¬ ((La t rs)[i].1.toNat : Int) = (v.toNat : Int) := fun h5 => hv (UInt8.toNat_inj.1 (by omega))
        rw [if_neg hv] at h2
        simp only [if_neg hvi, List.length_map]
        simp only [if_pos (show w.length < 8796093022208 by omega)]
        exact h2
    refine Ev.step1 key (fun k => ?_)
    cases b with
    | true =>
      simp only [glazierlaw03_FoldTells.l1, List.length_map, if_true]
      rw [if_pos (by omega), if_pos (by omega), rdC hlt, f0, f1, fe, refLow, Option.bind_some, w64 (by omega) (by omega), elow, Bool.true_and]
    | false =>
      simp only [glazierlaw03_FoldTells.l1, List.length_map, Bool.false_eq_true, if_false]
      rw [if_pos (by omega), if_pos (by omega), rdC hlt, f0, f1, fe, w64 (by omega) (by omega), Bool.false_and]
theorem FoldTells_l0 (t : ByteArray) (rs : List S85) (x1 : ByteArray) (v : Int) (x3 : ByteArray) (r : Bool) (h : Ev (fun k => glazierlaw03_FoldTells.l1 k x1 v x3 ((La t rs).map toC) (upF 33) [] true 0 t rs) r) : ∀ (d i : Nat), i + d = 33 → Ev (fun k => glazierlaw03_FoldTells.l0 k x1 v x3 ((La t rs).map toC) (upF i) (i : Int) t rs) r := by
  intro d
  induction d with
  | zero =>
    intro i hi
    have : i = 33 := by omega
    subst this
    refine Ev.step1 h (fun k => ?_)
    simp only [glazierlaw03_FoldTells.l0]
    rw [if_neg (by omega)]
  | succ d ih =>
    intro i hi
    refine Ev.step1 (ih (i + 1) (by omega)) (fun k => ?_)
    simp only [glazierlaw03_FoldTells.l0]
    have e2 : (strOfNums [(i : Int) % 256]).size = 1 := rfl
    rw [if_pos (by omega), Option.bind_some, upF_size, e2, if_pos (by omega), upF_snoc i (by omega), w64 (by omega) (by omega)]
    rfl
theorem FoldTells_small (t : ByteArray) (rs : List S85) (x1 : ByteArray) (v : UInt8) (x3 : ByteArray) (ht : t.size ≤ 1048576) (hr : rs.length ≤ 1048576) (h1 : x1.size ≤ 1048576) (h3 : x3.size + 1 ≤ 1048576) : ∃ k, glazierlaw03_FoldTells.f k t rs x1 (v.toNat : Int) x3 = some true := by
  refine Ev.rounds ?_
  have hn := La_length t rs
  unfold glazierlaw03_FoldTells.f
  refine Ev.bind Fold_alive' ?_
  simp only [if_true]
  refine Ev.bind (RefOf_spec t rs (by omega) (by omega)) ?_
  refine FoldTells_l0 t rs x1 _ x3 true ?_ 33 0 (by omega)
  refine FoldTells_l1 t rs ht x1 v x3 h3 (upF 33) true true ?_ (La t rs).length 0 [] true (by omega) (by simp) (by simp) (by simp)
  have k1 := trimL_length (inB (upF 33)) (La t rs)
  have k2 := trimL_length (inB ws) (La t rs)
  have k3 := withoutL_length x1 (La t rs)
  have k4 := Nat.le_trans (swapL_length v x3 (La t rs)) (mul_bound (n := (La t rs).length) (by omega) h3)
  refine Ev.step1 (f := fun k => (fold_Lower.f k t rs).bind fun b => _) ?_ (fun k => by
    simp only [glazierlaw03_FoldTells.l1, List.length_map]
    rw [if_neg (by omega)])
  refine Ev.bind (Lower_spec t rs (by omega) (by omega)) (Ev.bind (RefLower_spec _ (by omega)) (Ev.bind (Is_spec _ (by unfold lowL; rw [List.length_map]; omega)) ?_))
  simp only [if_true]
  refine Ev.bind (Ends_spec t rs (by omega) (by omega)) (Ev.bind (RefTrim_spec _ (upF 33) (by omega) (by rw [upF_size]; omega)) ?_)
  rw [← show inB (upF 33) = endP from funext endP_upF]
  refine Ev.bind (Is_spec _ (by omega)) ?_
  simp only [if_true]
  refine Ev.bind (Trim_spec t rs (by omega) (by omega)) (Ev.bind (RefTrim_spec _ ws (by omega) (by show 5 ≤ 1099511627776; omega)) (Ev.bind (Is_spec _ (by omega)) ?_))
  simp only [if_true]
  refine Ev.bind (Without_spec t rs x1 (by omega) (by omega)) (Ev.bind (RefWithout_spec _ x1 (by omega) (by omega)) (Ev.bind (Is_spec _ (by omega)) ?_))
  simp only [if_true]
  refine Ev.bind (Swap_spec t rs v x3 ht hr h3) (Ev.bind (Is_spec _ (by omega)) ?_)
  simp only [if_true]
  have e : fold_IsLower.f t = some (allLow (La t rs)) := by
    unfold fold_IsLower.f
    rw [if_pos (by omega)]
    unfold allLow
    rw [← La_fst t rs, List.all_map]
    rfl
  simp only [e, Option.bind_some, beq_self_eq_true]
  exact Ev.now _
theorem FoldTells_pure (t : ByteArray) (rs : List S85) (x1 : ByteArray) (a : Int) (x3 : ByteArray) (ht : t.size ≤ 1048576) (hr : rs.length ≤ 1048576) (h1 : x1.size ≤ 1048576) (ha : (Lit.int .u8 a).wf = true) (h3 : x3.size + 1 ≤ 1048576) : ∃ k, glazierlaw03_FoldTells.f k t rs x1 a x3 = some true := by
  obtain ⟨c, rfl⟩ := wf_byte ha
  exact FoldTells_small t rs x1 c x3 ht hr h1 h3
end Go.Proofs.Ytljmmhihdcnbaaa.G
