/- SeekSplits: what is split has one part more than there are such bytes, and none of them; joined again it is the text. -/
import Derived.Test.YtljmmhihdcnbaaaPp
import Derived.Test.YtljmmhihdcnbaaaG112
import Derived.Test.YtljmmhihdcnbaaaG113
namespace Go.Proofs.Ytljmmhihdcnbaaa.G
open Go.RowKit Go.Proofs.YtljmmhihdcnbaaaW.PrintWords Go.Proofs.YtljmmhihdcnbaaaW.PrintLast Go.Proofs.YtljmmhihdcnbaaaW.PrintMore
set_option linter.unusedVariables false
set_option linter.unusedSimpArgs false
theorem SeekS_alive : Ev (fun k => glazierlaw04_alive.f k) true := Ev.of (fun k => glazierlaw04_alive.mono k) (k := 60) (by decide +kernel)
theorem Splits_l1 (t : ByteArray) (rs : List S85) (c : UInt8) (Cs : List (List Lc)) (n : Int) (hn : (Cs.length : Int) = n) (hl : Cs.length ≤ 1048577) (hs : ∀ X ∈ Cs, X.length ≤ 1048576) (hno : ∀ X ∈ Cs, Go.Lib.indexByte ((mkS X).f0.data.toList) c = -1)
    (hj : Ev (fun k => seek_Join.f k (Cs.map mkS) (canon [(c, 0)]).1 (canon [(c, 0)]).2) (canon (joinA [(c, 0)] Cs))) (ht : (canon (joinA [(c, 0)] Cs)).1 = t) : ∀ (d i : Nat), i + d = Cs.length → Ev (fun k => glazierlaw04_SeekSplits.l1 k (c.toNat : Int) n (Cs.map mkS) (i : Int) t rs) true := by
  have hm : (Cs.map mkS).length = Cs.length := List.length_map _
  intro d
  induction d with
  | zero =>
    intro i hi
    refine Ev.step1 (f := fun k => (seek_Join.f k (Cs.map mkS) (canon [(c, 0)]).1 (canon [(c, 0)]).2).bind fun b => some (b.1.toList == t.toList)) (Ev.bind hj (by rw [ht]; simp only [beq_self_eq_true]; exact Ev.now _)) (fun k => ?_)
    simp only [glazierlaw04_SeekSplits.l1]
    rw [if_neg (by omega), if_pos (by rw [hm]; exact hn), str_byte, show mark_Of.f (bytesA [c]) 0 = some (canon [(c, 0)]) from of_one c 0 ⟨by decide, by decide⟩]
    rfl
  | succ d ih =>
    intro i hi
    have hlt : i < Cs.length := by omega
    have e : rd_T24 (Cs.map mkS) (i : Int) = mkS Cs[i] := by rw [rdT24 (by omega)]; simp
    have hsz : (mkS Cs[i]).f0.size ≤ 1099511627776 := by
      have h1 := hs _ (List.getElem_mem hlt)
      have h2 : (mkS Cs[i]).f0.size = Cs[i].length := canon_size _
      omega
    refine Ev.step1 (ih (i + 1) (by omega)) (fun k => ?_)
    simp only [glazierlaw04_SeekSplits.l1]
    rw [if_pos (by omega), if_pos (by omega), e, str_byte, Index0 _ _ _ hsz, Option.bind_some, hno _ (List.getElem_mem hlt), if_neg (by omega), w64 (by omega) (by omega)]
    rfl
theorem Splits_l0 (t : ByteArray) (rs : List S85) (c : UInt8) (ht : t.size ≤ 1048576) (h : Ev (fun k => (seek_Split.f k t rs (c.toNat : Int)).bind fun l => glazierlaw04_SeekSplits.l1 k (c.toNat : Int) ((t.data.toList.countP (· == c) + 1 : Nat) : Int) l 0 t rs) true) : ∀ (d i : Nat), i + d = t.size →
    Ev (fun k => glazierlaw04_SeekSplits.l0 k (c.toNat : Int) (((t.data.toList.take i).countP (· == c) + 1 : Nat) : Int) (i : Int) t rs) true := by
  have hz := size_list t
  intro d
  induction d with
  | zero =>
    intro i hi
    rw [List.take_of_length_le (by omega)]
    refine Ev.step1 h (fun k => ?_)
    simp only [glazierlaw04_SeekSplits.l0]
    rw [if_neg (by omega)]
  | succ d ih =>
    intro i hi
    have hlt : i < t.data.toList.length := by omega
    have h2 := ih (i + 1) (by omega)
    have hc : (t.data.toList.take i).countP (· == c) ≤ i := Nat.le_trans List.countP_le_length (by rw [List.length_take]; omega)
    rw [List.take_succ_eq_append_getElem hlt, List.countP_append, List.countP_cons, List.countP_nil] at h2
    have hb := bt_nat hlt
    by_cases e : t.data.toList[i] = c
    · rw [if_pos (by simp [e])] at h2
      refine Ev.step1 h2 (fun k => ?_)
      simp only [glazierlaw04_SeekSplits.l0]
      rw [if_pos (by omega), if_pos (by omega), hb, if_pos (by rw [e]), w64 (by omega) (by omega), w64 (by omega) (by omega)]
      rfl
    · rw [if_neg (by simpa using e)] at h2
      refine Ev.step1 h2 (fun k => ?_)
      simp only [glazierlaw04_SeekSplits.l0]
      rw [if_pos (by omega), if_pos (by omega), hb, if_neg (fun h3 => e (UInt8.toNat_inj.1 (by omega))), w64 (by omega) (by omega)]
      rfl
theorem SeekSplits_pure (t : ByteArray) (rs : List S85) (a : Int) (ht : t.size ≤ 1048576) (hr : rs.length ≤ 1048576) (ha : (Lit.int .u8 a).wf = true) : ∃ k, glazierlaw04_SeekSplits.f k t rs a = some true := by
  obtain ⟨c, rfl⟩ := byte_wf ha
  refine Ev.rounds ?_
  unfold glazierlaw04_SeekSplits.f
  refine Ev.bind SeekS_alive ?_
  simp only [if_true]
  have hn := La_length t rs
  have hlen := cutsA_length (qB (bytesA [c])) (La t rs) []
  rw [count_La] at hlen
  have hcl : t.data.toList.countP (· == c) ≤ t.size := by rw [← size_list]; exact List.countP_le_length
  have hcut := joinA_cuts (qB (bytesA [c])) (fun x : Lc => x.1) (c, 0) (fun x hx => by rw [qB_byte] at hx; simpa using hx) (La t rs) []
  rw [List.nil_append] at hcut
  have hjl : (joinA [((c, 0) : Lc)] (cutsA (qB (bytesA [c])) [] (La t rs))).length = (La t rs).length := by
    have := congrArg List.length hcut
    simpa using this
  have hj := JoinA_spec (cutsA (qB (bytesA [c])) [] (La t rs)) [(c, 0)] (by omega) (Okl.one ⟨Int.le_refl 0, by show (0 : Int) ≤ 65536; decide⟩) (cutsA_ok (La_ok t rs)) (by omega)
  have htx : (canon (joinA [((c, 0) : Lc)] (cutsA (qB (bytesA [c])) [] (La t rs)))).1 = t := by
    show bytesA (List.map (fun x : Lc => x.1) _) = t
    rw [hcut, La_fst]
    rfl
  have h := Splits_l0 t rs c ht (Ev.bind (Split_spec t rs c (by omega) (by omega)) (Splits_l1 t rs c (cutsA (qB (bytesA [c])) [] (La t rs)) _ (by rw [hlen]) (by omega) (fun X hX => by have := cutsA_len hX; omega) (fun X hX => split_none c _ X hX) hj htx (cutsA (qB (bytesA [c])) [] (La t rs)).length 0 (by omega))) t.size 0 (by omega)
  exact h
end Go.Proofs.Ytljmmhihdcnbaaa.G
