/- style's Parse as plain lists. -/
import Derived.Test.YtljmmhihdcnbaaaDoorPq
import Derived.Test.YtljmmhihdcnbaaaDoorPp
import Derived.Test.YtljmmhihdcnbaaaDoorG23
namespace Go.Proofs.YtljmmhihdcnbaaaDoor.G
open Go.RowKit Go.Proofs.YtljmmhihdcnbaaaDoorW.PrintWords Go.Proofs.YtljmmhihdcnbaaaDoorW.PrintLast Go.Proofs.YtljmmhihdcnbaaaDoorW.PrintMore
set_option linter.unusedVariables false
set_option linter.unusedSimpArgs false
theorem rdT32 {l : List S32} {i : Nat} (h : i < l.length) : rd_T32 l (i : Int) = l[i] := by simp [rd_T32, h]
theorem Trim_canon {l : List Lc} (h : Okl l) (hl : l.length ≤ 1099511627776) : Ev (fun k => fold_Trim.f k (canon l).1 (canon l).2) (canon (trimL (inB ws) l)) := by
  have hc := canon_runs l
  have := Trim_spec (canon l).1 (canon l).2 (by rw [canon_size]; omega) (by omega)
  rwa [La_canon h] at this
/-- One declaration: its name and its value. -/
abbrev Dc := List Lc × List Lc
def mkD (d : Dc) : S32 := ⟨mkS d.1, mkS d.2⟩
def Okd (d : Dc) : Prop := Okl d.1 ∧ Okl d.2
def declL (X : List Lc) : Option Dc := if atL 58 X < X.length then some (lowL (trimL (inB ws) (aheadL 58 X)), trimL (inB ws) (behindL 58 X)) else none
def parseL (l : List Lc) : List Dc := (cutsA (qB (bytesA [59])) [] l).filterMap declL
theorem mkD_snoc (a : List Dc) (d : Dc) : (a ++ [d]).map mkD = a.map mkD ++ [(⟨(⟨(canon d.1).1, (canon d.1).2⟩ : S24), (⟨(canon d.2).1, (canon d.2).2⟩ : S24)⟩ : S32)] := by rw [List.map_append]; rfl
theorem mkS_bytes (X : List Lc) : (mkS X).f0.data.toList = X.map (·.1) := by simp [mkS, canon, bytesA]
theorem cut_ahead {X : List Lc} (h : atL 58 X < X.length) : cutL X 0 ((atL 58 X : Nat) : Int) = aheadL 58 X := by
  have := cutL_nat X 0 (atL 58 X) (by omega) (by omega)
  rw [show ((0 : Nat) : Int) = 0 from rfl] at this
  rw [this, List.drop_zero]; rfl
theorem cut_behind {X : List Lc} (h : atL 58 X < X.length) : cutL X ((atL 58 X : Int) + 1) (X.length : Int) = behindL 58 X := by
  have := cutL_nat X (atL 58 X + 1) X.length (by omega) (by omega)
  rw [Int.natCast_add, Int.natCast_one] at this
  rw [this, List.take_length]; unfold behindL; rw [if_pos h]
theorem Parse_loop (Cs : List (List Lc)) (hC : ∀ X ∈ Cs, Okl X ∧ X.length ≤ 1099511627775) (hl : Cs.length ≤ 1099511627777) : ∀ (d i : Nat) (acc : List Dc), i + d = Cs.length → acc.length ≤ i → Ev (fun k => style_Parse.l0 k (acc.map mkD) (Cs.map mkS) ((Cs.map mkS).length : Int) (i : Int)) ((acc ++ (Cs.drop i).filterMap declL).map mkD) := by
  intro d
  have hm : (Cs.map mkS).length = Cs.length := List.length_map _
  induction d with
  | zero =>
    intro i acc hi ha
    rw [List.drop_eq_nil_of_le (by omega), List.filterMap_nil, List.append_nil]
    refine Ev.step1 (Ev.now _) (fun k => ?_)
    simp only [style_Parse.l0]
    rw [if_neg (by omega)]
  | succ d ih =>
    intro i acc hi ha
    have hlt : i < Cs.length := by omega
    obtain ⟨hX, hX2⟩ := hC Cs[i] (List.getElem_mem hlt)
    have e : rd_T24 (Cs.map mkS) (i : Int) = mkS Cs[i] := by rw [rdT24 (by omega)]; simp
    have eI : seek_Index.f (mkS Cs[i]).f0 (mkS Cs[i]).f1 (⟨#[58]⟩ : ByteArray) 0 = some (Go.Lib.indexByte (mkS Cs[i]).f0.data.toList 58) := Index0 _ _ 58 (by rw [show (mkS Cs[i]).f0 = (canon Cs[i]).1 from rfl, canon_size]; omega)
    rw [mkS_bytes, indexByte_at] at eI
    rw [List.drop_eq_getElem_cons hlt]
    by_cases h : atL 58 Cs[i] < Cs[i].length
    · rw [if_pos h] at eI
      have hd : declL Cs[i] = some (lowL (trimL (inB ws) (aheadL 58 Cs[i])), trimL (inB ws) (behindL 58 Cs[i])) := if_pos h
      have h2 := ih (i + 1) (acc ++ [(lowL (trimL (inB ws) (aheadL 58 Cs[i])), trimL (inB ws) (behindL 58 Cs[i]))]) (by omega) (by simp; omega)
      rw [List.append_assoc, List.singleton_append, mkD_snoc] at h2
      rw [List.filterMap_cons_some hd]
      have ha1 : (aheadL 58 Cs[i]).length ≤ 1099511627775 := by rw [aheadL_length]; omega
      have hb1 := behindL_length 58 Cs[i]
      have ht1 := trimL_length (inB ws) (aheadL 58 Cs[i])
      refine Ev.step (f := ?ff) ?hh ?kk
      case hh =>
        intro k
        simp only [style_Parse.l0]
        rw [if_pos (by omega), if_pos (by omega), if_pos (by omega), e, eI, Option.bind_some, if_neg (by omega), w64 (by omega) (by omega), w64 (by omega) (by omega)]
      case kk =>
        have c1 := Cut_canon hX (by omega) 0 (atL 58 Cs[i] : Int)
        have c2 := Cut_canon hX (by omega) ((atL 58 Cs[i] : Int) + 1) (Cs[i].length : Int)
        rw [cut_ahead h] at c1
        rw [cut_behind h] at c2
        refine Ev.bind c1 ?_
        have es : ((mkS Cs[i]).f0.size : Int) = (Cs[i].length : Int) := by rw [show (mkS Cs[i]).f0 = (canon Cs[i]).1 from rfl, canon_size]
        simp only [es]
        refine Ev.bind c2 ?_
        refine Ev.bind (Trim_canon (aheadL_ok hX) (by omega)) ?_
        refine Ev.bind (Lower_canon (trimL_ok (aheadL_ok hX)) (by omega)) ?_
        refine Ev.bind (Trim_canon (behindL_ok hX) (by omega)) ?_
        refine Ev.eq h2 (fun k => ?_)
        rw [if_pos (by rw [List.length_map]; omega)]
        rfl
    · rw [if_neg h] at eI
      have h2 := ih (i + 1) acc (by omega) (by omega)
      have hd : declL Cs[i] = none := if_neg h
      rw [List.filterMap_cons_none hd]
      refine Ev.step1 h2 (fun k => ?_)
      simp only [style_Parse.l0]
      rw [if_pos (by omega), if_pos (by omega), if_pos (by omega), e, eI, Option.bind_some, if_pos (by omega), w64 (by omega) (by omega)]
      rfl
theorem Parse_spec (t : ByteArray) (rs : List S56) (ht : t.size ≤ 1099511627775) (hr : rs.length ≤ 1099511627776) : Ev (fun k => style_Parse.f k t rs) ((parseL (La t rs)).map mkD) := by
  have hn := La_length t rs
  unfold style_Parse.f
  refine Ev.bind (Split_spec t rs 59 (by omega) hr) ?_
  have h1 := cutsA_length (qB (bytesA [59])) (La t rs) []
  have h2 : (La t rs).countP (qB (bytesA [59])) ≤ (La t rs).length := List.countP_le_length
  have h := Parse_loop (cutsA (qB (bytesA [59])) [] (La t rs)) (fun X hX => ⟨cutsA_ok (La_ok t rs) X hX, by have := cutsA_len hX; omega⟩) (by omega) _ 0 [] (Nat.zero_add _) (by simp)
  rw [List.drop_zero, List.nil_append] at h
  exact h
theorem Parse_canon {l : List Lc} (h : Okl l) (hl : l.length ≤ 1099511627775) : Ev (fun k => style_Parse.f k (canon l).1 (canon l).2) ((parseL l).map mkD) := by
  have hc := canon_runs l
  have := Parse_spec (canon l).1 (canon l).2 (by rw [canon_size]; omega) (by omega)
  rwa [La_canon h] at this
end Go.Proofs.YtljmmhihdcnbaaaDoor.G
