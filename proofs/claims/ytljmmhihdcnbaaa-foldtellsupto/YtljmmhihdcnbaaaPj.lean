/- The page's All and Worst on lists of marked bytes. -/
import Derived.Test.YtljmmhihdcnbaaaPe
import Derived.Test.YtljmmhihdcnbaaaG44
import Derived.Test.YtljmmhihdcnbaaaG46
namespace Go.Proofs.Ytljmmhihdcnbaaa.G
open Go.RowKit Go.Proofs.YtljmmhihdcnbaaaW.PrintWords Go.Proofs.YtljmmhihdcnbaaaW.PrintLast Go.Proofs.YtljmmhihdcnbaaaW.PrintMore
set_option linter.unusedVariables false
set_option linter.unusedSimpArgs false
theorem RefAll_loop (t : ByteArray) (o : Int) (ht : t.size ≤ 1099511627776) : ∀ (d i : Nat) (w : List S29), i + d = t.size → w.length ≤ i → Ev (fun k => glazierref01_All.l0 k t o w (i : Int)) (w ++ (allO (t.data.toList.drop i) o).map toC) := by
  intro d
  induction d with
  | zero =>
    intro i w hi hw
    rw [List.drop_eq_nil_of_le (by rw [size_list]; omega)]
    refine Ev.step1 (Ev.now _) (fun k => ?_)
    simp only [glazierref01_All.l0]
    rw [if_neg (by omega)]
    simp [allO]
  | succ d ih =>
    intro i w hi hw
    have hlt : i < t.data.toList.length := by rw [size_list]; omega
    have h2 := ih (i + 1) (w ++ [toC (t.data.toList[i], nr o)]) (by omega) (by simp; omega)
    have e : allO (t.data.toList.drop i) o = (t.data.toList[i], nr o) :: allO (t.data.toList.drop (i + 1)) o := by rw [List.drop_eq_getElem_cons hlt]; rfl
    rw [e]
    rw [List.append_assoc] at h2
    refine Ev.step1 h2 (fun k => ?_)
    simp only [glazierref01_All.l0]
    rw [if_pos (by omega), if_pos (by omega), refnear_eq, Option.bind_some, if_pos (by omega), bt_nat hlt, w64 (by omega) (by omega)]
    rfl
theorem RefAll_spec (t : ByteArray) (o : Int) (ht : t.size ≤ 1099511627776) : Ev (fun k => glazierref01_All.f k t o) ((allO t.data.toList o).map toC) := by
  have := RefAll_loop t o ht t.size 0 [] (by omega) (by simp)
  simpa [glazierref01_All.f] using this
theorem RefWorst_loop (l : List Lc) (hl : l.length ≤ 1099511627776) : ∀ (d i : Nat) (a : Int), i + d = l.length → Ev (fun k => glazierref01_Worst.l0 k (l.map toC) a (i : Int)) (((l.drop i).map (·.2)).foldl max a) := by
  intro d
  induction d with
  | zero =>
    intro i a hi
    rw [List.drop_eq_nil_of_le (by omega)]
    refine Ev.step1 (Ev.now _) (fun k => ?_)
    simp only [glazierref01_Worst.l0]
    rw [List.length_map, if_neg (by omega)]
    rfl
  | succ d ih =>
    intro i a hi
    have hlt : i < l.length := by omega
    rw [List.drop_eq_getElem_cons hlt]
    refine Ev.step1 (ih (i + 1) (max a l[i].2) (by omega)) (fun k => ?_)
    simp only [glazierref01_Worst.l0]
    rw [List.length_map, if_pos (by omega), if_pos (by omega), rdC hlt, mx_eq, w64 (by omega) (by omega)]
    rfl
theorem RefWorst_spec (l : List Lc) (hl : l.length ≤ 1099511627776) : Ev (fun k => glazierref01_Worst.f k (l.map toC)) (worst (l.map (·.2))) := by
  have := RefWorst_loop l hl l.length 0 0 (by omega)
  exact this
theorem byte_of {a : Int} (h0 : 0 ≤ a) (h1 : a < 256) : ∃ c : UInt8, a = (c.toNat : Int) := ⟨UInt8.ofNat a.toNat, by simp; omega⟩
theorem wf_byte {a : Int} (h : (Lit.int .u8 a).wf = true) : ∃ c : UInt8, a = (c.toNat : Int) := by
  have h' : 0 ≤ a ∧ a < 256 := by
    simp [Lit.wf, IntKind.min, IntKind.max, IntKind.signed, IntKind.bits] at h
    omega
  exact byte_of h'.1 h'.2
end Go.Proofs.Ytljmmhihdcnbaaa.G
