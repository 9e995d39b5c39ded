/- What fold's Lower, Ends, Trim and Without compute, and glazierref01's In, Lower, Trim and Without. -/
import Derived.Test.YtljmmhihdcnbaaaPa
import Derived.Test.YtljmmhihdcnbaaaPq
import Derived.Test.YtljmmhihdcnbaaaG14
import Derived.Test.YtljmmhihdcnbaaaG6
import Derived.Test.YtljmmhihdcnbaaaG11
namespace Go.Proofs.Ytljmmhihdcnbaaa.G
open Go.RowKit Go.Proofs.YtljmmhihdcnbaaaW.PrintWords Go.Proofs.YtljmmhihdcnbaaaW.PrintLast Go.Proofs.YtljmmhihdcnbaaaW.PrintMore
set_option linter.unusedVariables false
set_option linter.unusedSimpArgs false

theorem Ends_spec (t : ByteArray) (rs : List S85) (ht : t.size ≤ 1099511627776) (hr : rs.length ≤ 1099511627776) : Ev (fun k => fold_Ends.f k t rs) (canon (trimL endP (La t rs))) := by
  have h := Cut_spec t rs (inFrom endP t : Int) (inTo endP t : Int) ht hr
  rw [trim_of_cut] at h
  refine Ev.eq h (fun k => ?_)
  unfold fold_Ends.f
  rw [if_pos (by omega)]
/-! ### Without -/
def withoutL (bs : ByteArray) (l : List Lc) : List Lc := l.filter fun c => !inB bs c.1
theorem withoutL_ok {bs : ByteArray} {l : List Lc} (h : Okl l) : Okl (withoutL bs l) := h.sub fun _ hc => (List.mem_filter.1 hc).1
theorem withoutL_length (bs : ByteArray) (l : List Lc) : (withoutL bs l).length ≤ l.length := List.length_filter_le _ _
theorem Without_loop (t : ByteArray) (rs : List S85) (bs : ByteArray) (ht : t.size ≤ 1099511627776) (hr : rs.length ≤ 1099511627776) : ∀ (d i fr : Nat) (Xs : List (List Lc)), i + d = (La t rs).length → fr ≤ i → (∀ X ∈ Xs, Okl X) → Xs.length ≤ i →
    Xs.flatten ++ ((La t rs).take i).drop fr = withoutL bs ((La t rs).take i) →
    Ev (fun k => fold_Without.l0 k bs (Xs.map mkS) (fr : Int) (t.size : Int) (i : Int) t rs) (canon (withoutL bs (La t rs))) := by
  intro d
  have hn := La_length t rs
  have hO := La_ok t rs
  induction d with
  | zero =>
    intro i fr Xs hi hf hX hXl h
    have e1 : (La t rs).take i = La t rs := List.take_of_length_le (by omega)
    rw [e1] at h
    have hc : cutL (La t rs) (fr : Int) (t.size : Int) = (La t rs).drop fr := by
      rw [← hn, cutL_nat _ _ _ (Nat.le_refl _) (by omega), List.take_of_length_le (Nat.le_refl _)]
    refine Ev.step1 (f := fun k => (mark_Cut.f k t rs (fr : Int) (t.size : Int)).bind fun b => (if (Xs.map mkS).length < 3518437208883 then ((mark_Cat.f k (Xs.map mkS ++ [(⟨b.1, b.2⟩ : S24)])).bind fun bt282 => (some (bt282.1, bt282.2))) else (none))) ?_ (fun k => by
      simp only [fold_Without.l0]
      rw [if_neg (by omega)])
    refine Ev.bind (Cut_spec t rs _ _ ht hr) ?_
    simp only [if_pos (show (Xs.map mkS).length < 3518437208883 from by rw [List.length_map]; omega)]
    have e2 : (Xs ++ [cutL (La t rs) (fr : Int) (t.size : Int)]).flatten = withoutL bs (La t rs) := by rw [flat_snoc, hc, h]
    have hl := withoutL_length bs (La t rs)
    have h3 := Cat_mk (Xs ++ [cutL (La t rs) (fr : Int) (t.size : Int)]) (fun X hx => by
      rcases List.mem_append.1 hx with hx | hx
      · exact hX X hx
      · rw [List.mem_singleton] at hx; subst hx; exact hO.cut _ _) (by simp; omega) (by rw [e2]; omega)
    rw [e2, List.map_append] at h3
    exact Ev.bind h3 (Ev.now _)
  | succ d ih =>
    intro i fr Xs hi hf hX hXl h
    have hlt : i < (La t rs).length := by omega
    have hb := La_get hlt
    have e3 : ((La t rs)[i].1.toNat : Int).toNat.toUInt8 = (La t rs)[i].1 := by simp
    have hidx := indexByte_in bs.data.toList (La t rs)[i].1
    cases hin : inB bs (La t rs)[i].1 with
    | true =>
      have hge : Go.Lib.indexByte bs.data.toList (La t rs)[i].1 ≥ 0 := of_decide_eq_true (hidx.trans hin)
      have hc : cutL (La t rs) (fr : Int) (i : Int) = ((La t rs).take i).drop fr := cutL_nat _ _ _ (by omega) (by omega)
      have h2 := ih (i + 1) (i + 1) (Xs ++ [((La t rs).take i).drop fr]) (by omega) (by omega) (fun X hx => by
        rcases List.mem_append.1 hx with hx | hx
        · exact hX X hx
        · rw [List.mem_singleton] at hx; subst hx; rw [← hc]; exact hO.cut _ _) (by simp; omega) (by
          rw [flat_snoc, h, List.drop_eq_nil_of_le (by rw [List.length_take]; omega), List.append_nil, take_snoc' hlt]
          unfold withoutL
          rw [List.filter_append, List.filter_cons, hin]
          simp)
      refine Ev.step1 (f := fun k => (mark_Cut.f k t rs (fr : Int) (i : Int)).bind fun b => (if (Xs.map mkS).length < 3518437208883 then fold_Without.l0 k bs (Xs.map mkS ++ [(⟨b.1, b.2⟩ : S24)]) ((i : Int) + 1) (t.size : Int) ((i : Int) + 1) t rs else none)) ?_ (fun k => by
        simp only [fold_Without.l0]
        rw [if_pos (by omega), if_pos (by omega), if_pos (by omega), hb]
        unfold strings_IndexByte.f
        rw [e3, Option.bind_some, if_pos hge, w64 (by omega) (by omega)])
      refine Ev.bind (Cut_spec t rs _ _ ht hr) ?_
      simp only [if_pos (show (Xs.map mkS).length < 3518437208883 from by rw [List.length_map]; omega), hc]
      rw [List.map_append] at h2
      exact h2
    | false =>
      have hge : ¬ Go.Lib.indexByte bs.data.toList (La t rs)[i].1 ≥ 0 := of_decide_eq_false (hidx.trans hin)
      have h2 := ih (i + 1) fr Xs (by omega) (by omega) hX (by omega) (by
        rw [take_snoc' hlt, List.drop_append, List.length_take, show fr - min i (La t rs).length = 0 from by omega, List.drop_zero, ← List.append_assoc, h]
        unfold withoutL
        rw [List.filter_append, List.filter_cons, hin]
        simp)
      refine Ev.step1 h2 (fun k => ?_)
      simp only [fold_Without.l0]
      rw [if_pos (by omega), if_pos (by omega), if_pos (by omega), hb]
      unfold strings_IndexByte.f
      rw [e3, Option.bind_some, if_neg hge, w64 (by omega) (by omega)]
      rfl
theorem Without_spec (t : ByteArray) (rs : List S85) (bs : ByteArray) (ht : t.size ≤ 1099511627776) (hr : rs.length ≤ 1099511627776) : Ev (fun k => fold_Without.f k t rs bs) (canon (withoutL bs (La t rs))) := by
  have h := Without_loop t rs bs ht hr (La t rs).length 0 0 [] (by omega) (by omega) (fun _ h => by cases h) (by simp) (by simp [withoutL])
  exact h
end Go.Proofs.Ytljmmhihdcnbaaa.G
