/- fold's Swap, Trim and IsLower as plain lists. -/
import Derived.Test.YtljmmhihdcnbaaaPf
import Derived.Test.YtljmmhihdcnbaaaG75
import Derived.Test.YtljmmhihdcnbaaaG74
import Derived.Test.YtljmmhihdcnbaaaG78
namespace Go.Proofs.Ytljmmhihdcnbaaa.G
open Go.RowKit Go.Proofs.YtljmmhihdcnbaaaW.PrintWords Go.Proofs.YtljmmhihdcnbaaaW.PrintLast Go.Proofs.YtljmmhihdcnbaaaW.PrintMore
set_option linter.unusedVariables false
set_option linter.unusedSimpArgs false
def swapC (v : UInt8) (bs : ByteArray) (c : Lc) : List Lc := if c.1 = v then allO bs.data.toList c.2 else [c]
def swapL (v : UInt8) (bs : ByteArray) (l : List Lc) : List Lc := l.flatMap (swapC v bs)
theorem swapC_ok {v : UInt8} {bs : ByteArray} {c : Lc} (h : 0 ≤ c.2 ∧ c.2 ≤ 65536) : Okl (swapC v bs c) := by
  unfold swapC
  split
  · exact allO_ok _ _
  · exact Okl.one h
theorem swapL_ok {v : UInt8} {bs : ByteArray} {l : List Lc} (h : Okl l) : Okl (swapL v bs l) := fun c hc => by
  obtain ⟨x, hx, hc⟩ := List.mem_flatMap.1 hc
  exact swapC_ok (h x hx) c hc
theorem allO_length (t : List UInt8) (o : Int) : (allO t o).length = t.length := by unfold allO; rw [List.length_map]
theorem swapC_length (v : UInt8) (bs : ByteArray) (c : Lc) : (swapC v bs c).length ≤ bs.size + 1 := by
  unfold swapC
  split
  · rw [allO_length, size_list]; omega
  · simp
theorem swapL_length (v : UInt8) (bs : ByteArray) (l : List Lc) : (swapL v bs l).length ≤ l.length * (bs.size + 1) := by
  induction l with
  | nil => simp [swapL]
  | cons c l ih =>
    have h1 := swapC_length v bs c
    have e : swapL v bs (c :: l) = swapC v bs c ++ swapL v bs l := by simp [swapL]
    rw [e, List.length_append, List.length_cons, Nat.add_mul, Nat.one_mul]
    omega
theorem swapL_append (v : UInt8) (bs : ByteArray) (a b : List Lc) : swapL v bs (a ++ b) = swapL v bs a ++ swapL v bs b := by simp [swapL]
theorem swapL_one (v : UInt8) (bs : ByteArray) (c : Lc) : swapL v bs [c] = swapC v bs c := by simp [swapL]
theorem mul_bound {n m : Nat} (hn : n ≤ 1048576) (hm : m + 1 ≤ 1048576) : n * (m + 1) ≤ 1099511627776 := Nat.le_trans (Nat.mul_le_mul hn hm) (by decide)
theorem Swap_loop (t : ByteArray) (rs : List S85) (v : UInt8) (bs : ByteArray) (ht : t.size ≤ 1048576) (hr : rs.length ≤ 1048576) (hb : bs.size + 1 ≤ 1048576) : ∀ (d i fr : Nat) (Xs : List (List Lc)), i + d = (La t rs).length → fr ≤ i → (∀ X ∈ Xs, Okl X) → Xs.length ≤ 2 * i →
    Xs.flatten ++ ((La t rs).take i).drop fr = swapL v bs ((La t rs).take i) →
    Ev (fun k => fold_Swap.l0 k (v.toNat : Int) bs (Xs.map mkS) (fr : Int) (t.size : Int) (i : Int) t rs) (canon (swapL v bs (La t rs))) := by
  intro d
  have hn := La_length t rs
  have hO := La_ok t rs
  have hlen := Nat.le_trans (swapL_length v bs (La t rs)) (mul_bound (n := (La t rs).length) (by omega) hb)
  induction d with
  | zero =>
    intro i fr Xs hi hf hX hXl h
    have e1 : (La t rs).take i = La t rs := List.take_of_length_le (by omega)
    rw [e1] at h
    have hc : cutL (La t rs) (fr : Int) (t.size : Int) = (La t rs).drop fr := by
      rw [← hn, cutL_nat _ _ _ (Nat.le_refl _) (by omega), List.take_of_length_le (Nat.le_refl _)]
    refine Ev.step1 (f := fun k => (mark_Cut.f k t rs (fr : Int) (t.size : Int)).bind fun b => (if (Xs.map mkS).length < 3518437208883 then ((mark_Cat.f k (Xs.map mkS ++ [(⟨b.1, b.2⟩ : S24)])).bind fun bt282 => (some (bt282.1, bt282.2))) else (none))) ?_ (fun k => by
      simp only [fold_Swap.l0]
      rw [if_neg (by omega)])
    refine Ev.bind (Cut_spec t rs _ _ (by omega) (by omega)) ?_
    simp only [if_pos (show (Xs.map mkS).length < 3518437208883 from by rw [List.length_map]; omega)]
    have e2 : (Xs ++ [cutL (La t rs) (fr : Int) (t.size : Int)]).flatten = swapL v bs (La t rs) := by rw [flat_snoc, hc, h]
    have h3 := Cat_mk (Xs ++ [cutL (La t rs) (fr : Int) (t.size : Int)]) (fun X hx => by
      rcases List.mem_append.1 hx with hx | hx
      · exact hX X hx
      · rw [List.mem_singleton] at hx; subst hx; exact hO.cut _ _) (by simp; omega) (by rw [e2]; exact hlen)
    rw [e2, List.map_append] at h3
    exact Ev.bind h3 (Ev.now _)
  | succ d ih =>
    intro i fr Xs hi hf hX hXl h
    have hlt : i < (La t rs).length := by omega
    have hbt := La_get hlt
    have ho := hO.get hlt
    by_cases hv : (La t rs)[i].1 = v
    · have hvi : ((La t rs)[i].1.toNat : Int) = (v.toNat : Int) := by rw [hv]
      have hc : cutL (La t rs) (fr : Int) (i : Int) = ((La t rs).take i).drop fr := cutL_nat _ _ _ (by omega) (by omega)
      have h2 := ih (i + 1) (i + 1) (Xs ++ [((La t rs).take i).drop fr, allO bs.data.toList (La t rs)[i].2]) (by omega) (by omega) (fun X hx => by
        rcases List.mem_append.1 hx with hx | hx
        · exact hX X hx
        · simp only [List.mem_cons, List.not_mem_nil, or_false] at hx
          rcases hx with rfl | rfl
          · rw [← hc]; exact hO.cut _ _
          · exact allO_ok _ _) (by simp; omega) (by
          rw [show ((La t rs).take (i + 1)).drop (i + 1) = [] from List.drop_eq_nil_of_le (by rw [List.length_take]; omega), List.append_nil, List.flatten_append, take_snoc' hlt, swapL_append, swapL_one, ← h]
          unfold swapC
          rw [if_pos hv]
          simp)
      refine Ev.step1 (f := fun k => (mark_Cut.f k t rs (fr : Int) (i : Int)).bind fun b => (mark_At.f k t rs (i : Int)).bind fun t807 => (mark_Of.f bs t807).bind fun bt808 => (if (Xs.map mkS).length + 2 < 3518437208883 then fold_Swap.l0 k (v.toNat : Int) bs (Xs.map mkS ++ [(⟨b.1, b.2⟩ : S24), (⟨bt808.1, bt808.2⟩ : S24)]) ((i : Int) + 1) (t.size : Int) ((i : Int) + 1) t rs else none)) ?_ (fun k => by
        simp only [fold_Swap.l0]
        rw [if_pos (by omega), if_pos (by omega), if_pos (by omega), hbt, if_pos hvi, w64 (by omega) (by omega)]
        rfl)
      refine Ev.bind (Cut_spec t rs _ _ (by omega) (by omega)) (Ev.bind (At_spec t rs i hlt (by omega) (by omega)) ?_)
      rw [Of_spec bs _ (by omega)]
      simp only [Option.bind_some, if_pos (show (Xs.map mkS).length + 2 < 3518437208883 from by rw [List.length_map]; omega), hc]
      rw [List.map_append] at h2
      exact h2
    · have hvi : ¬ ((La t rs)[i].1.toNat : Int) = (v.toNat : Int) := fun h5 => hv (UInt8.toNat_inj.1 (by omega))
      have h2 := ih (i + 1) fr Xs (by omega) (by omega) hX (by omega) (by
        rw [take_snoc' hlt, List.drop_append, List.length_take, show fr - min i (La t rs).length = 0 from by omega, List.drop_zero, ← List.append_assoc, h, swapL_append, swapL_one]
        unfold swapC
        rw [if_neg hv])
      refine Ev.step1 h2 (fun k => ?_)
      simp only [fold_Swap.l0]
      rw [if_pos (by omega), if_pos (by omega), if_pos (by omega), hbt, if_neg hvi, w64 (by omega) (by omega)]
      rfl
theorem Swap_spec (t : ByteArray) (rs : List S85) (v : UInt8) (bs : ByteArray) (ht : t.size ≤ 1048576) (hr : rs.length ≤ 1048576) (hb : bs.size + 1 ≤ 1048576) : Ev (fun k => fold_Swap.f k t rs (v.toNat : Int) bs) (canon (swapL v bs (La t rs))) := by
  have h := Swap_loop t rs v bs ht hr hb (La t rs).length 0 0 [] (by omega) (by omega) (fun _ h => by cases h) (by simp) (by simp [swapL])
  exact h
def ws : ByteArray := ⟨#[9, 10, 12, 13, 32]⟩
theorem trimP_ws : trimP = inB ws := by
  funext c
  have := indexByte_in ws.data.toList c
  exact this
theorem Trim_spec (t : ByteArray) (rs : List S85) (ht : t.size ≤ 1099511627776) (hr : rs.length ≤ 1099511627776) : Ev (fun k => fold_Trim.f k t rs) (canon (trimL (inB ws) (La t rs))) := by
  have h := Cut_spec t rs (inFrom trimP t : Int) (inTo trimP t : Int) ht hr
  rw [trim_of_cut, trimP_ws] at h
  refine Ev.eq h (fun k => ?_)
  unfold fold_Trim.f
  rw [if_pos (by omega), trimP_ws]
end Go.Proofs.Ytljmmhihdcnbaaa.G
