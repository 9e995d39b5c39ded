/- A contract walked by hand, for this claim. -/
import Derived.Test.YtljmmhihdcnbaaaG0
import Derived.Test.YtljmmhihdcnbaaaG132
import Derived.Test.YtljmmhihdcnbaaaG15
import Derived.Test.YtljmmhihdcnbaaaG13
import Derived.Test.YtljmmhihdcnbaaaG37
import Derived.Test.YtljmmhihdcnbaaaG28
import Derived.Laws.IdiomStrings
import Derived.Outline
namespace Go.Proofs.Ytljmmhihdcnbaaa.G
open Go.RowKit Go.Proofs.YtljmmhihdcnbaaaW.PrintWords Go.Proofs.YtljmmhihdcnbaaaW.PrintLast Go.Proofs.YtljmmhihdcnbaaaW.PrintMore
set_option linter.unusedVariables false
set_option linter.unusedSimpArgs false
def hashI (L : List S29) : Nat := L.findIdx fun x => x.f0 == 35
def questI (L : List S29) : Nat := (L.take (hashI L)).findIdx fun x => x.f0 == 63
def queryP (L : List S29) : List S29 := if questI L < hashI L then (L.take (hashI L)).drop (questI L + 1) else []
def fragP (L : List S29) : List S29 := if hashI L < L.length then L.drop (hashI L + 1) else []
theorem hashI_le (L : List S29) : hashI L ≤ L.length := List.findIdx_le_length
theorem questI_le (L : List S29) : questI L ≤ hashI L := by
  have h1 : questI L ≤ (L.take (hashI L)).length := List.findIdx_le_length
  have h2 := hashI_le L
  rw [List.length_take] at h1
  omega
/-- What the law's run comes to, rounds k. -/
structure UrlPartsOk (k : Nat) (a0_0 : ByteArray) (l0_1 : List S85) (r : Bool) : Prop where
  yes : r = true
  alive : glazierlaw06_alive.f k = some true
  ex : ∃ (R1 : ByteArray) (R2 : List S85) (L : List S29) (p1 : ByteArray) (p2 : List S85) (q1 : ByteArray) (q2 : List S85) (f1 : ByteArray) (f2 : List S85), url_Rest.f k a0_0 l0_1 = some (R1, R2) ∧ glazierref01_Of.f k R1 R2 = some L ∧ L.length ≤ 1099511627776 ∧ url_Parts.f k a0_0 l0_1 = some (p1, p2, q1, q2, f1, f2) ∧
    glazierref01_Is.f k p1 p2 (L.take (questI L)) = some true ∧ glazierref01_Is.f k q1 q2 (queryP L) = some true ∧ glazierref01_Is.f k f1 f2 (fragP L) = some true
theorem idx_down {L : List S29} {p : S29 → Bool} {j : Nat} (hj : j < L.length) : j + (L.drop j).findIdx p = if p L[j] = true then j else j + 1 + (L.drop (j + 1)).findIdx p := by
  rw [List.drop_eq_getElem_cons hj, List.findIdx_cons]
  cases h : p L[j]
  · simp; omega
  · simp
theorem Is_nil (k : Nat) (a0_0 : ByteArray) (A0_1 : Option Addr) (c0_1 : Nat) (l0_1 : List (S85)) (r : Bool) (w : World) (hr0_1 : Kd.C k85 w A0_1 l0_1.length l0_1) (hc0_1 : l0_1.length ≤ c0_1) (h : glazierref01_Is.f k a0_0 l0_1 [] = some r) :
    Calls Try.prog 24 #[.agg #[.string a0_0, .slice A0_1 l0_1.length c0_1], .slice none 0 0] w fun e w' => e = .returned (.bool r) ∧ Below w.heap.size w w' :=
  glazierref01_Is.calls k a0_0 A0_1 c0_1 l0_1 none 0 [] r w hr0_1 hc0_1 (Kd.C_nil _ _) (Nat.le_refl _) h
set_option maxHeartbeats 3200000 in
set_option maxRecDepth 100000 in
theorem glazierlaw06_UrlParts.calls (k : Nat) (a0_0 : ByteArray) (A0_1 : Option Addr) (c0_1 : Nat) (l0_1 : List (S85)) (r : Bool) (w : World) (hr0_1 : Kd.C k85 w A0_1 l0_1.length l0_1) (hc0_1 : l0_1.length ≤ c0_1) (h : UrlPartsOk k a0_0 l0_1 r) :
    Calls Try.prog 21 #[.agg #[.string a0_0, .slice A0_1 l0_1.length c0_1]] w fun e w' => e = .returned (.bool r) ∧ Below w.heap.size w w' := by
  obtain ⟨rfl, hal, R1, R2, L, p1, p2, q1, q2, f1, f2, hrest, hof, hlen, hparts, hp, hq, hf⟩ := h
  have hu24 := Try.underlying24
  have hu29 := Try.underlying29
  have hu26 := Try.underlying26
  have HAL := Aside0.mk hal; have HRE := Aside0.mk hrest; have HOF := Aside0.mk hof; have HPA := Aside0.mk hparts; have HP := Aside0.mk hp; have HQ := Aside0.mk hq; have HF := Aside0.mk hf
  have HC := Aside0.mk hc0_1
  obtain ⟨W0, HW0⟩ : ∃ W0 : World, W0 = w.alloc (.cells #[.string a0_0, .slice A0_1 l0_1.length c0_1] 24) := ⟨_, rfl⟩
  have HB : Aside0 (Below w.heap.size w W0) := ⟨by rw [HW0]; exact below_alloc (Below.refl _ _) _⟩
  have HX : Aside0 (W0.heap[w.heap.size]? = some (.cells #[.string a0_0, .slice A0_1 l0_1.length c0_1] 24 (0, 0))) := ⟨by rw [HW0]; exact blk_new _ _⟩
  have HR := Aside0.mk hr0_1
  have HW0' := Aside0.mk HW0
  clear hal hrest hof hparts hp hq hf hr0_1 hc0_1 HW0
  go_enter Try.func21, Try.ntmps21
  go_wp2_with fail
  rw [← HW0'.out]
  clear HW0'
  refine (glazierlaw06_alive.calls k true _ HAL.out).mono ?_
  rintro e w1 ⟨rfl, hb⟩
  have HB1 := Aside0.mk (below_step HB.out hb)
  have HX1 := Aside0.mk (blk_below HX.out hb)
  clear hb HB HX
  have hz0 := blk_cell HX1.out 0
  have hz1 := blk_cell HX1.out 1
  go_wp2_with fail
  clear hz0 hz1
  refine (url_Rest.calls k a0_0 _ _ l0_1 R1 R2 _ (Kd.C_below HR.out HB1.out) HC.out HRE.out).mono ?_
  rintro e w2 ⟨v, rfl, hR, hb⟩
  obtain ⟨A2, c2, e2⟩ := Kd.R_slice hR
  subst e2
  obtain ⟨-, hc2, hC2⟩ := Kd.R_reads' hR
  have HC2 := Aside0.mk hC2
  have HL2 := Aside0.mk hc2
  have HB2 := Aside0.mk (below_step HB1.out hb)
  have HX2 := Aside0.mk (blk_below HX1.out hb)
  clear hR hb hC2 hc2 HB1 HX1
  go_wp2_with fail
  refine (glazierref01_Of.calls k R1 _ _ R2 L _ HC2.out HL2.out HOF.out).mono ?_
  rintro e w3 ⟨v, rfl, hR, hb⟩
  obtain ⟨A3, c3, e3⟩ := Kd.R_slice hR
  subst e3
  obtain ⟨-, hc3, hC3⟩ := Kd.R_reads' hR
  have HC3 := Aside0.mk hC3
  have HL3 := Aside0.mk hc3
  have HB3 := Aside0.mk (below_step HB2.out hb)
  have HX3 := Aside0.mk (blk_below HX2.out hb)
  clear hR hb hC3 hc3 HB2 HX2 HC2 HL2
  go_wp2_with fail
  go_loop [4, 6] (fun h i => ∃ j : Nat, i = .int .i64 ((j : Int) - 1) ∧ h = .int .i64 ((j + (L.drop j).findIdx (fun x => x.f0 == 35) : Nat) : Int) ∧ Aside0 (j ≤ L.length)) (fun _ i => (intOf i + 1).toNat)
  case atStart => exact ⟨L.length, rfl, by rw [List.drop_eq_nil_of_le (Nat.le_refl _)]; rfl, ⟨Nat.le_refl _⟩⟩
  case round =>
    obtain ⟨j, rfl, rfl, HJ⟩ := hrel
    have hj : j ≤ L.length := HJ.out
    cases j with
    | succ m =>
      have hm : m < L.length := hj
      have e0 : (((m + 1 : Nat) : Int) - 1) = (m : Int) := by omega
      rw [e0]
      obtain ⟨ad, eA, hx0, hx1⟩ := at_T29 HC3.out (m : Int) (by omega) (by omega)
      subst eA
      rw [show rd_T29 L (m : Int) = L[m] from by simp [rd_T29, hm], Int.toNat_natCast] at hx0
      clear hx1
      have hup := Aside0.mk (idx_down (p := fun x : S29 => x.f0 == 35) hm)
      have hlt : (m : Int) < (L.length : Int) := by omega
      have h0 : (0 : Int) ≤ (m : Int) := by omega
      by_cases hq : L[m].f0 = 35
      · have hb1 : ((L[m].f0 : Int) == 35) = true := beq_iff_eq.2 hq
        have HQ2 := Aside0.mk hq
        clear hq
        go_wp2_with fail
        go_round
        case rel => exact ⟨m, by go_num, by rw [hup.out, if_pos (beq_iff_eq.2 HQ2.out)], ⟨by omega⟩⟩
        case measure => (first | (simp [intOf]; done) | (simp [intOf]; omega))
      · have hb1 : ((L[m].f0 : Int) == 35) = false := beq_eq_false_iff_ne.2 hq
        have HQ2 := Aside0.mk hq
        clear hq
        go_wp2_with fail
        go_round
        case rel => exact ⟨m, by go_num, by rw [hup.out, if_neg (by simpa using HQ2.out)], ⟨by omega⟩⟩
        case measure => (first | (simp [intOf]; done) | (simp [intOf]; omega))
    | zero =>
      rw [List.drop_zero, Nat.zero_add]
      obtain ⟨hI, EH⟩ : ∃ hI : Nat, Aside0 (hI = hashI L) := ⟨_, ⟨rfl⟩⟩
      rw [show L.findIdx (fun x => x.f0 == 35) = hI from EH.out.symm]
      have hIl : hI ≤ L.length := by rw [EH.out]; exact hashI_le L
      have e0 : (((0 : Nat) : Int) - 1) = -1 := rfl
      rw [e0]
      go_wp2_with fail
      go_loop [5, 7] (fun h i => ∃ j : Nat, i = .int .i64 ((j : Int) - 1) ∧ h = .int .i64 ((j + ((L.take hI).drop j).findIdx (fun x => x.f0 == 63) : Nat) : Int) ∧ Aside0 (j ≤ hI)) (fun _ i => (intOf i + 1).toNat)
      case atStart => exact ⟨hI, rfl, by rw [List.drop_eq_nil_of_le (by rw [List.length_take]; omega)]; rfl, ⟨Nat.le_refl _⟩⟩
      case round =>
        obtain ⟨j, rfl, rfl, HJ⟩ := hrel
        have hj : j ≤ hI := HJ.out
        cases j with
        | succ m =>
          have hm : m < (L.take hI).length := by rw [List.length_take]; omega
          have hmL : m < L.length := by omega
          have e0 : (((m + 1 : Nat) : Int) - 1) = (m : Int) := by omega
          rw [e0]
          obtain ⟨ad, eA, hx0, hx1⟩ := at_T29 HC3.out (m : Int) (by omega) (by omega)
          subst eA
          rw [show rd_T29 L (m : Int) = L[m] from by simp [rd_T29, hmL], Int.toNat_natCast] at hx0
          clear hx1
          have hup := Aside0.mk (idx_down (p := fun x : S29 => x.f0 == 63) hm)
          rw [List.getElem_take] at hup
          have hlt : (m : Int) < (L.length : Int) := by omega
          have h0 : (0 : Int) ≤ (m : Int) := by omega
          by_cases hq : L[m].f0 = 63
          · have hb1 : ((L[m].f0 : Int) == 63) = true := beq_iff_eq.2 hq
            have HQ2 := Aside0.mk hq
            clear hq
            go_wp2_with fail
            go_round
            case rel => exact ⟨m, by go_num, by rw [hup.out, if_pos (beq_iff_eq.2 HQ2.out)], ⟨by omega⟩⟩
            case measure => (first | (simp [intOf]; done) | (simp [intOf]; omega))
          · have hb1 : ((L[m].f0 : Int) == 63) = false := beq_eq_false_iff_ne.2 hq
            have HQ2 := Aside0.mk hq
            clear hq
            go_wp2_with fail
            go_round
            case rel => exact ⟨m, by go_num, by rw [hup.out, if_neg (by simpa using HQ2.out)], ⟨by omega⟩⟩
            case measure => (first | (simp [intOf]; done) | (simp [intOf]; omega))
        | zero =>
          rw [List.drop_zero, Nat.zero_add]
          obtain ⟨qI, EQ⟩ : ∃ qI : Nat, Aside0 (qI = questI L) := ⟨_, ⟨rfl⟩⟩
          rw [show (L.take hI).findIdx (fun x => x.f0 == 63) = qI from by rw [EQ.out, EH.out]; rfl]
          have hqI : qI ≤ hI := by rw [EQ.out, EH.out]; exact questI_le L
          have e0 : (((0 : Nat) : Int) - 1) = -1 := rfl
          rw [e0]
          obtain ⟨i29, hi29, _, hs29, _⟩ := info_parts info29
          have hc3 := HL3.out
          obtain ⟨T, HT⟩ : ∃ T, Aside0 (T = L.take qI) := ⟨_, ⟨rfl⟩⟩
          have hTl : T.length = qI := by rw [HT.out, List.length_take]; omega
          have HCT : Aside0 (Kd.C k29 w3 A3 T.length T) := ⟨by rw [HT.out]; exact Kd.C_take HC3.out (by omega)⟩
          have HLT : Aside0 (T.length ≤ c3) := ⟨by omega⟩
          have hcutT : ∀ W : World, (Instr.slice 26 (.slice A3 L.length c3) none (some (.int .i64 (qI : Int))) none).run Try.prog W = .ok (.slice A3 T.length c3) W := fun W => by
            have h := cut_to (P := Try.prog) 26 29 .i64 Try.underlying26 hi29 A3 L.length c3 (qI : Int) (by omega) (by omega) hc3 W
            rw [Int.toNat_natCast] at h
            rw [hTl]
            exact h
          rw [← EQ.out] at HP
          have HP2 : Aside0 (glazierref01_Is.f k p1 p2 T = some true) := ⟨by rw [HT.out]; exact HP.out⟩
          have HQ2 := Aside0.mk HQ.out
          have HF2 := Aside0.mk HF.out
          unfold queryP at HQ2
          unfold fragP at HF2
          rw [← EQ.out, ← EH.out] at HQ2
          rw [← EH.out] at HF2
          clear HP HQ HF
          have hTlA := Aside0.mk hTl
          clear hTl
          by_cases g1 : qI < hI
          ·
            rw [if_pos g1] at HQ2
            have hcutQ := cut_mid (P := Try.prog) 26 29 .i64 .i64 Try.underlying26 hi29 2 hs29 A3 L.length c3 ((qI : Int) + 1) (hI : Int) (by omega) (by omega) (by omega) hc3
            have hCQ := Kd.C_mid HC3.out (lo := qI + 1) (hi := hI) (by omega) (by omega) hc3
            obtain ⟨Q, HQd⟩ : ∃ Q, Aside0 (Q = (L.take hI).drop (qI + 1)) := ⟨_, ⟨rfl⟩⟩
            have hQl : Q.length = hI - (qI + 1) := by rw [HQd.out, List.length_drop, List.length_take]; omega
            rw [← HQd.out] at hCQ HQ2
            rw [show ((qI : Int) + 1).toNat = qI + 1 from by omega, Int.toNat_natCast, ← hQl] at hcutQ
            obtain ⟨AQ, hAQ⟩ : ∃ AQ, (if c3 = qI + 1 then A3 else A3.map (·.add ((qI + 1) * 2))) = AQ := ⟨_, rfl⟩
            rw [hAQ] at hcutQ
            replace hCQ : Kd.C k29 w3 AQ Q.length Q := by rw [← hAQ]; exact hCQ
            obtain ⟨cQ, hcQ⟩ : ∃ cQ, c3 - (qI + 1) = cQ := ⟨_, rfl⟩
            rw [hcQ] at hcutQ
            have HCQ := Aside0.mk hCQ
            have HLQ : Aside0 (Q.length ≤ cQ) := ⟨by omega⟩
            clear hCQ hAQ hcQ hQl
            by_cases g2 : hI < L.length
            ·
              rw [if_pos g2] at HF2
              have hcutF := cut_from (P := Try.prog) 26 29 .i64 Try.underlying26 hi29 2 hs29 A3 L.length c3 ((hI : Int) + 1) (by omega) (by omega)
              have hCF := Kd.C_drop HC3.out (m := hI + 1) (by omega) hc3
              obtain ⟨F, HFd⟩ : ∃ F, Aside0 (F = L.drop (hI + 1)) := ⟨_, ⟨rfl⟩⟩
              have hFl : F.length = L.length - (hI + 1) := by rw [HFd.out, List.length_drop]
              rw [← HFd.out] at hCF HF2
              rw [show ((hI : Int) + 1).toNat = hI + 1 from by omega, ← hFl] at hcutF
              obtain ⟨AF, hAF⟩ : ∃ AF, (if c3 = hI + 1 then A3 else A3.map (·.add ((hI + 1) * 2))) = AF := ⟨_, rfl⟩
              rw [hAF] at hcutF
              replace hCF : Kd.C k29 w3 AF F.length F := by rw [← hAF]; exact hCF
              obtain ⟨cF, hcF⟩ : ∃ cF, c3 - (hI + 1) = cF := ⟨_, rfl⟩
              rw [hcF] at hcutF
              have HCF := Aside0.mk hCF
              have HLF : Aside0 (F.length ≤ cF) := ⟨by omega⟩
              clear hCF hAF hcF hFl
              have hx0 := blk_cell HX3.out 0
              have hx1 := blk_cell HX3.out 1
              go_wp2_with fail
              refine (url_Parts.calls k a0_0 _ _ l0_1 p1 p2 q1 q2 f1 f2 _ (Kd.C_below HR.out HB3.out) HC.out HPA.out).mono ?_
              rintro e w4 ⟨v1, v3, v5, rfl, hR1, hR3, hR5, hb⟩
              obtain ⟨Ap, cp, ep⟩ := Kd.R_slice hR1
              obtain ⟨Aq, cq, eq⟩ := Kd.R_slice hR3
              obtain ⟨Af, cf, ef⟩ := Kd.R_slice hR5
              subst ep eq ef
              have HCp := Aside0.mk (Kd.R_reads' hR1).2
              have HCq := Aside0.mk (Kd.R_reads' hR3).2
              have HCf := Aside0.mk (Kd.R_reads' hR5).2
              have HB4 := Aside0.mk (below_step HB3.out hb)
              have HCT4 := Aside0.mk (Kd.C_below HCT.out hb)
              have HCQ4 := Aside0.mk (Kd.C_below HCQ.out hb)
              have HCF4 := Aside0.mk (Kd.C_below HCF.out hb)
              clear hR1 hR3 hR5 hb HCT hx0 hx1 HCQ HCF
              go_wp2_with fail
              obtain ⟨W5, HW5⟩ : ∃ W5 : World, W5 = ((w4.alloc (.cells #[.string p1, .slice Ap p2.length cp] 24)).alloc (.cells #[.string q1, .slice Aq q2.length cq] 24)).alloc (.cells #[.string f1, .slice Af f2.length cf] 24) := ⟨_, rfl⟩
              rw [← HW5]
              have HB5 : Aside0 (Below w4.heap.size w4 W5) := ⟨by rw [HW5]; exact below_alloc (below_alloc (below_alloc (Below.refl _ _) _) _) _⟩
              have hg0 : W5.heap[w4.heap.size]? = some (.cells #[.string p1, .slice Ap p2.length cp] 24 (0, 0)) := by rw [HW5]; exact blk_alloc (blk_alloc (blk_new _ _) _) _
              have hg1 : W5.heap[w4.heap.size + 1]? = some (.cells #[.string q1, .slice Aq q2.length cq] 24 (0, 0)) := by rw [HW5]; exact blk_alloc (by simpa using blk_new (w4.alloc (.cells #[.string p1, .slice Ap p2.length cp] 24)) (.cells #[.string q1, .slice Aq q2.length cq] 24)) _
              have hg2 : W5.heap[w4.heap.size + 1 + 1]? = some (.cells #[.string f1, .slice Af f2.length cf] 24 (0, 0)) := by rw [HW5]; simpa using blk_new ((w4.alloc (.cells #[.string p1, .slice Ap p2.length cp] 24)).alloc (.cells #[.string q1, .slice Aq q2.length cq] 24)) (.cells #[.string f1, .slice Af f2.length cf] 24)
              have y00 := blk_cell hg0 0
              have y01 := blk_cell hg0 1
              have y10 := blk_cell hg1 0
              have y11 := blk_cell hg1 1
              have y20 := blk_cell hg2 0
              have y21 := blk_cell hg2 1
              clear HW5 hg0 hg1 hg2
              go_region_held3 (fun W => W.cell? ⟨w4.heap.size, 0, none⟩ = some (.string p1) ∧ W.cell? ⟨w4.heap.size, 1, none⟩ = some (.slice Ap p2.length cp) ∧ W.cell? ⟨w4.heap.size + 1, 0, none⟩ = some (.string q1) ∧ W.cell? ⟨w4.heap.size + 1, 1, none⟩ = some (.slice Aq q2.length cq) ∧ W.cell? ⟨w4.heap.size + 1 + 1, 0, none⟩ = some (.string f1) ∧ W.cell? ⟨w4.heap.size + 1 + 1, 1, none⟩ = some (.slice Af f2.length cf))
                (first
                  | (go_split_ands; exact ⟨(hb.cell (World.block_lt_of_cell? _ _ (by assumption))).trans (by assumption), (hb.cell (World.block_lt_of_cell? _ _ (by assumption))).trans (by assumption), (hb.cell (World.block_lt_of_cell? _ _ (by assumption))).trans (by assumption), (hb.cell (World.block_lt_of_cell? _ _ (by assumption))).trans (by assumption), (hb.cell (World.block_lt_of_cell? _ _ (by assumption))).trans (by assumption), (hb.cell (World.block_lt_of_cell? _ _ (by assumption))).trans (by assumption)⟩)
                  | go_keep)
                ((first
                  | (go_at_call 24; (with_reducible refine (glazierref01_Is.calls k p1 _ _ p2 _ _ T true _ (Kd.C_below HCp.out.2 (below_drew1 HB5.out)) HCp.out.1 (Kd.C_below HCT4.out (below_drew1 HB5.out)) HLT.out HP2.out).mono ?_); rintro e w6 ⟨rfl, hb⟩; have HBa := Aside0.mk (below_step (below_drew1 HB5.out) hb))
                  | (go_at_call 24; (with_reducible refine (glazierref01_Is.calls k q1 _ _ q2 _ _ Q true _ (Kd.C_below HCq.out.2 HBa.out) HCq.out.1 (Kd.C_below HCQ4.out HBa.out) HLQ.out HQ2.out).mono ?_); rintro e w7 ⟨rfl, hb⟩; have HBb := Aside0.mk (below_step HBa.out hb))
                  | (go_at_call 24; (with_reducible refine (glazierref01_Is.calls k f1 _ _ f2 _ _ F true _ (Kd.C_below HCf.out.2 HBb.out) HCf.out.1 (Kd.C_below HCF4.out HBb.out) HLF.out HF2.out).mono ?_); rintro e w8 ⟨rfl, hb⟩; have HBc := Aside0.mk (below_step HBb.out hb))))
              go_wp2_with fail
              go_ret
              exact ⟨rfl, below_step HB4.out HBc.out⟩
            ·
              rw [if_neg g2] at HF2
              have hx0 := blk_cell HX3.out 0
              have hx1 := blk_cell HX3.out 1
              go_wp2_with fail
              refine (url_Parts.calls k a0_0 _ _ l0_1 p1 p2 q1 q2 f1 f2 _ (Kd.C_below HR.out HB3.out) HC.out HPA.out).mono ?_
              rintro e w4 ⟨v1, v3, v5, rfl, hR1, hR3, hR5, hb⟩
              obtain ⟨Ap, cp, ep⟩ := Kd.R_slice hR1
              obtain ⟨Aq, cq, eq⟩ := Kd.R_slice hR3
              obtain ⟨Af, cf, ef⟩ := Kd.R_slice hR5
              subst ep eq ef
              have HCp := Aside0.mk (Kd.R_reads' hR1).2
              have HCq := Aside0.mk (Kd.R_reads' hR3).2
              have HCf := Aside0.mk (Kd.R_reads' hR5).2
              have HB4 := Aside0.mk (below_step HB3.out hb)
              have HCT4 := Aside0.mk (Kd.C_below HCT.out hb)
              have HCQ4 := Aside0.mk (Kd.C_below HCQ.out hb)
              clear hR1 hR3 hR5 hb HCT hx0 hx1 HCQ
              go_wp2_with fail
              obtain ⟨W5, HW5⟩ : ∃ W5 : World, W5 = ((w4.alloc (.cells #[.string p1, .slice Ap p2.length cp] 24)).alloc (.cells #[.string q1, .slice Aq q2.length cq] 24)).alloc (.cells #[.string f1, .slice Af f2.length cf] 24) := ⟨_, rfl⟩
              rw [← HW5]
              have HB5 : Aside0 (Below w4.heap.size w4 W5) := ⟨by rw [HW5]; exact below_alloc (below_alloc (below_alloc (Below.refl _ _) _) _) _⟩
              have hg0 : W5.heap[w4.heap.size]? = some (.cells #[.string p1, .slice Ap p2.length cp] 24 (0, 0)) := by rw [HW5]; exact blk_alloc (blk_alloc (blk_new _ _) _) _
              have hg1 : W5.heap[w4.heap.size + 1]? = some (.cells #[.string q1, .slice Aq q2.length cq] 24 (0, 0)) := by rw [HW5]; exact blk_alloc (by simpa using blk_new (w4.alloc (.cells #[.string p1, .slice Ap p2.length cp] 24)) (.cells #[.string q1, .slice Aq q2.length cq] 24)) _
              have hg2 : W5.heap[w4.heap.size + 1 + 1]? = some (.cells #[.string f1, .slice Af f2.length cf] 24 (0, 0)) := by rw [HW5]; simpa using blk_new ((w4.alloc (.cells #[.string p1, .slice Ap p2.length cp] 24)).alloc (.cells #[.string q1, .slice Aq q2.length cq] 24)) (.cells #[.string f1, .slice Af f2.length cf] 24)
              have y00 := blk_cell hg0 0
              have y01 := blk_cell hg0 1
              have y10 := blk_cell hg1 0
              have y11 := blk_cell hg1 1
              have y20 := blk_cell hg2 0
              have y21 := blk_cell hg2 1
              clear HW5 hg0 hg1 hg2
              go_region_held3 (fun W => W.cell? ⟨w4.heap.size, 0, none⟩ = some (.string p1) ∧ W.cell? ⟨w4.heap.size, 1, none⟩ = some (.slice Ap p2.length cp) ∧ W.cell? ⟨w4.heap.size + 1, 0, none⟩ = some (.string q1) ∧ W.cell? ⟨w4.heap.size + 1, 1, none⟩ = some (.slice Aq q2.length cq) ∧ W.cell? ⟨w4.heap.size + 1 + 1, 0, none⟩ = some (.string f1) ∧ W.cell? ⟨w4.heap.size + 1 + 1, 1, none⟩ = some (.slice Af f2.length cf))
                (first
                  | (go_split_ands; exact ⟨(hb.cell (World.block_lt_of_cell? _ _ (by assumption))).trans (by assumption), (hb.cell (World.block_lt_of_cell? _ _ (by assumption))).trans (by assumption), (hb.cell (World.block_lt_of_cell? _ _ (by assumption))).trans (by assumption), (hb.cell (World.block_lt_of_cell? _ _ (by assumption))).trans (by assumption), (hb.cell (World.block_lt_of_cell? _ _ (by assumption))).trans (by assumption), (hb.cell (World.block_lt_of_cell? _ _ (by assumption))).trans (by assumption)⟩)
                  | go_keep)
                ((first
                  | (go_at_call 24; (with_reducible refine (glazierref01_Is.calls k p1 _ _ p2 _ _ T true _ (Kd.C_below HCp.out.2 (below_drew1 HB5.out)) HCp.out.1 (Kd.C_below HCT4.out (below_drew1 HB5.out)) HLT.out HP2.out).mono ?_); rintro e w6 ⟨rfl, hb⟩; have HBa := Aside0.mk (below_step (below_drew1 HB5.out) hb))
                  | (go_at_call 24; (with_reducible refine (glazierref01_Is.calls k q1 _ _ q2 _ _ Q true _ (Kd.C_below HCq.out.2 HBa.out) HCq.out.1 (Kd.C_below HCQ4.out HBa.out) HLQ.out HQ2.out).mono ?_); rintro e w7 ⟨rfl, hb⟩; have HBb := Aside0.mk (below_step HBa.out hb))
                  | (go_at_call 24; (with_reducible refine (Is_nil k f1 _ _ f2  true _ (Kd.C_below HCf.out.2 HBb.out) HCf.out.1  HF2.out).mono ?_); rintro e w8 ⟨rfl, hb⟩; have HBc := Aside0.mk (below_step HBb.out hb))))
              go_wp2_with fail
              go_ret
              exact ⟨rfl, below_step HB4.out HBc.out⟩
          ·
            rw [if_neg g1] at HQ2
            by_cases g2 : hI < L.length
            ·
              rw [if_pos g2] at HF2
              have hcutF := cut_from (P := Try.prog) 26 29 .i64 Try.underlying26 hi29 2 hs29 A3 L.length c3 ((hI : Int) + 1) (by omega) (by omega)
              have hCF := Kd.C_drop HC3.out (m := hI + 1) (by omega) hc3
              obtain ⟨F, HFd⟩ : ∃ F, Aside0 (F = L.drop (hI + 1)) := ⟨_, ⟨rfl⟩⟩
              have hFl : F.length = L.length - (hI + 1) := by rw [HFd.out, List.length_drop]
              rw [← HFd.out] at hCF HF2
              rw [show ((hI : Int) + 1).toNat = hI + 1 from by omega, ← hFl] at hcutF
              obtain ⟨AF, hAF⟩ : ∃ AF, (if c3 = hI + 1 then A3 else A3.map (·.add ((hI + 1) * 2))) = AF := ⟨_, rfl⟩
              rw [hAF] at hcutF
              replace hCF : Kd.C k29 w3 AF F.length F := by rw [← hAF]; exact hCF
              obtain ⟨cF, hcF⟩ : ∃ cF, c3 - (hI + 1) = cF := ⟨_, rfl⟩
              rw [hcF] at hcutF
              have HCF := Aside0.mk hCF
              have HLF : Aside0 (F.length ≤ cF) := ⟨by omega⟩
              clear hCF hAF hcF hFl
              have hx0 := blk_cell HX3.out 0
              have hx1 := blk_cell HX3.out 1
              go_wp2_with fail
              refine (url_Parts.calls k a0_0 _ _ l0_1 p1 p2 q1 q2 f1 f2 _ (Kd.C_below HR.out HB3.out) HC.out HPA.out).mono ?_
              rintro e w4 ⟨v1, v3, v5, rfl, hR1, hR3, hR5, hb⟩
              obtain ⟨Ap, cp, ep⟩ := Kd.R_slice hR1
              obtain ⟨Aq, cq, eq⟩ := Kd.R_slice hR3
              obtain ⟨Af, cf, ef⟩ := Kd.R_slice hR5
              subst ep eq ef
              have HCp := Aside0.mk (Kd.R_reads' hR1).2
              have HCq := Aside0.mk (Kd.R_reads' hR3).2
              have HCf := Aside0.mk (Kd.R_reads' hR5).2
              have HB4 := Aside0.mk (below_step HB3.out hb)
              have HCT4 := Aside0.mk (Kd.C_below HCT.out hb)
              have HCF4 := Aside0.mk (Kd.C_below HCF.out hb)
              clear hR1 hR3 hR5 hb HCT hx0 hx1 HCF
              go_wp2_with fail
              obtain ⟨W5, HW5⟩ : ∃ W5 : World, W5 = ((w4.alloc (.cells #[.string p1, .slice Ap p2.length cp] 24)).alloc (.cells #[.string q1, .slice Aq q2.length cq] 24)).alloc (.cells #[.string f1, .slice Af f2.length cf] 24) := ⟨_, rfl⟩
              rw [← HW5]
              have HB5 : Aside0 (Below w4.heap.size w4 W5) := ⟨by rw [HW5]; exact below_alloc (below_alloc (below_alloc (Below.refl _ _) _) _) _⟩
              have hg0 : W5.heap[w4.heap.size]? = some (.cells #[.string p1, .slice Ap p2.length cp] 24 (0, 0)) := by rw [HW5]; exact blk_alloc (blk_alloc (blk_new _ _) _) _
              have hg1 : W5.heap[w4.heap.size + 1]? = some (.cells #[.string q1, .slice Aq q2.length cq] 24 (0, 0)) := by rw [HW5]; exact blk_alloc (by simpa using blk_new (w4.alloc (.cells #[.string p1, .slice Ap p2.length cp] 24)) (.cells #[.string q1, .slice Aq q2.length cq] 24)) _
              have hg2 : W5.heap[w4.heap.size + 1 + 1]? = some (.cells #[.string f1, .slice Af f2.length cf] 24 (0, 0)) := by rw [HW5]; simpa using blk_new ((w4.alloc (.cells #[.string p1, .slice Ap p2.length cp] 24)).alloc (.cells #[.string q1, .slice Aq q2.length cq] 24)) (.cells #[.string f1, .slice Af f2.length cf] 24)
              have y00 := blk_cell hg0 0
              have y01 := blk_cell hg0 1
              have y10 := blk_cell hg1 0
              have y11 := blk_cell hg1 1
              have y20 := blk_cell hg2 0
              have y21 := blk_cell hg2 1
              clear HW5 hg0 hg1 hg2
              go_region_held3 (fun W => W.cell? ⟨w4.heap.size, 0, none⟩ = some (.string p1) ∧ W.cell? ⟨w4.heap.size, 1, none⟩ = some (.slice Ap p2.length cp) ∧ W.cell? ⟨w4.heap.size + 1, 0, none⟩ = some (.string q1) ∧ W.cell? ⟨w4.heap.size + 1, 1, none⟩ = some (.slice Aq q2.length cq) ∧ W.cell? ⟨w4.heap.size + 1 + 1, 0, none⟩ = some (.string f1) ∧ W.cell? ⟨w4.heap.size + 1 + 1, 1, none⟩ = some (.slice Af f2.length cf))
                (first
                  | (go_split_ands; exact ⟨(hb.cell (World.block_lt_of_cell? _ _ (by assumption))).trans (by assumption), (hb.cell (World.block_lt_of_cell? _ _ (by assumption))).trans (by assumption), (hb.cell (World.block_lt_of_cell? _ _ (by assumption))).trans (by assumption), (hb.cell (World.block_lt_of_cell? _ _ (by assumption))).trans (by assumption), (hb.cell (World.block_lt_of_cell? _ _ (by assumption))).trans (by assumption), (hb.cell (World.block_lt_of_cell? _ _ (by assumption))).trans (by assumption)⟩)
                  | go_keep)
                ((first
                  | (go_at_call 24; (with_reducible refine (glazierref01_Is.calls k p1 _ _ p2 _ _ T true _ (Kd.C_below HCp.out.2 (below_drew1 HB5.out)) HCp.out.1 (Kd.C_below HCT4.out (below_drew1 HB5.out)) HLT.out HP2.out).mono ?_); rintro e w6 ⟨rfl, hb⟩; have HBa := Aside0.mk (below_step (below_drew1 HB5.out) hb))
                  | (go_at_call 24; (with_reducible refine (Is_nil k q1 _ _ q2  true _ (Kd.C_below HCq.out.2 HBa.out) HCq.out.1  HQ2.out).mono ?_); rintro e w7 ⟨rfl, hb⟩; have HBb := Aside0.mk (below_step HBa.out hb))
                  | (go_at_call 24; (with_reducible refine (glazierref01_Is.calls k f1 _ _ f2 _ _ F true _ (Kd.C_below HCf.out.2 HBb.out) HCf.out.1 (Kd.C_below HCF4.out HBb.out) HLF.out HF2.out).mono ?_); rintro e w8 ⟨rfl, hb⟩; have HBc := Aside0.mk (below_step HBb.out hb))))
              go_wp2_with fail
              go_ret
              exact ⟨rfl, below_step HB4.out HBc.out⟩
            ·
              rw [if_neg g2] at HF2
              have hx0 := blk_cell HX3.out 0
              have hx1 := blk_cell HX3.out 1
              go_wp2_with fail
              refine (url_Parts.calls k a0_0 _ _ l0_1 p1 p2 q1 q2 f1 f2 _ (Kd.C_below HR.out HB3.out) HC.out HPA.out).mono ?_
              rintro e w4 ⟨v1, v3, v5, rfl, hR1, hR3, hR5, hb⟩
              obtain ⟨Ap, cp, ep⟩ := Kd.R_slice hR1
              obtain ⟨Aq, cq, eq⟩ := Kd.R_slice hR3
              obtain ⟨Af, cf, ef⟩ := Kd.R_slice hR5
              subst ep eq ef
              have HCp := Aside0.mk (Kd.R_reads' hR1).2
              have HCq := Aside0.mk (Kd.R_reads' hR3).2
              have HCf := Aside0.mk (Kd.R_reads' hR5).2
              have HB4 := Aside0.mk (below_step HB3.out hb)
              have HCT4 := Aside0.mk (Kd.C_below HCT.out hb)
              clear hR1 hR3 hR5 hb HCT hx0 hx1
              go_wp2_with fail
              obtain ⟨W5, HW5⟩ : ∃ W5 : World, W5 = ((w4.alloc (.cells #[.string p1, .slice Ap p2.length cp] 24)).alloc (.cells #[.string q1, .slice Aq q2.length cq] 24)).alloc (.cells #[.string f1, .slice Af f2.length cf] 24) := ⟨_, rfl⟩
              rw [← HW5]
              have HB5 : Aside0 (Below w4.heap.size w4 W5) := ⟨by rw [HW5]; exact below_alloc (below_alloc (below_alloc (Below.refl _ _) _) _) _⟩
              have hg0 : W5.heap[w4.heap.size]? = some (.cells #[.string p1, .slice Ap p2.length cp] 24 (0, 0)) := by rw [HW5]; exact blk_alloc (blk_alloc (blk_new _ _) _) _
              have hg1 : W5.heap[w4.heap.size + 1]? = some (.cells #[.string q1, .slice Aq q2.length cq] 24 (0, 0)) := by rw [HW5]; exact blk_alloc (by simpa using blk_new (w4.alloc (.cells #[.string p1, .slice Ap p2.length cp] 24)) (.cells #[.string q1, .slice Aq q2.length cq] 24)) _
              have hg2 : W5.heap[w4.heap.size + 1 + 1]? = some (.cells #[.string f1, .slice Af f2.length cf] 24 (0, 0)) := by rw [HW5]; simpa using blk_new ((w4.alloc (.cells #[.string p1, .slice Ap p2.length cp] 24)).alloc (.cells #[.string q1, .slice Aq q2.length cq] 24)) (.cells #[.string f1, .slice Af f2.length cf] 24)
              have y00 := blk_cell hg0 0
              have y01 := blk_cell hg0 1
              have y10 := blk_cell hg1 0
              have y11 := blk_cell hg1 1
              have y20 := blk_cell hg2 0
              have y21 := blk_cell hg2 1
              clear HW5 hg0 hg1 hg2
              go_region_held3 (fun W => W.cell? ⟨w4.heap.size, 0, none⟩ = some (.string p1) ∧ W.cell? ⟨w4.heap.size, 1, none⟩ = some (.slice Ap p2.length cp) ∧ W.cell? ⟨w4.heap.size + 1, 0, none⟩ = some (.string q1) ∧ W.cell? ⟨w4.heap.size + 1, 1, none⟩ = some (.slice Aq q2.length cq) ∧ W.cell? ⟨w4.heap.size + 1 + 1, 0, none⟩ = some (.string f1) ∧ W.cell? ⟨w4.heap.size + 1 + 1, 1, none⟩ = some (.slice Af f2.length cf))
                (first
                  | (go_split_ands; exact ⟨(hb.cell (World.block_lt_of_cell? _ _ (by assumption))).trans (by assumption), (hb.cell (World.block_lt_of_cell? _ _ (by assumption))).trans (by assumption), (hb.cell (World.block_lt_of_cell? _ _ (by assumption))).trans (by assumption), (hb.cell (World.block_lt_of_cell? _ _ (by assumption))).trans (by assumption), (hb.cell (World.block_lt_of_cell? _ _ (by assumption))).trans (by assumption), (hb.cell (World.block_lt_of_cell? _ _ (by assumption))).trans (by assumption)⟩)
                  | go_keep)
                ((first
                  | (go_at_call 24; (with_reducible refine (glazierref01_Is.calls k p1 _ _ p2 _ _ T true _ (Kd.C_below HCp.out.2 (below_drew1 HB5.out)) HCp.out.1 (Kd.C_below HCT4.out (below_drew1 HB5.out)) HLT.out HP2.out).mono ?_); rintro e w6 ⟨rfl, hb⟩; have HBa := Aside0.mk (below_step (below_drew1 HB5.out) hb))
                  | (go_at_call 24; (with_reducible refine (Is_nil k q1 _ _ q2  true _ (Kd.C_below HCq.out.2 HBa.out) HCq.out.1  HQ2.out).mono ?_); rintro e w7 ⟨rfl, hb⟩; have HBb := Aside0.mk (below_step HBa.out hb))
                  | (go_at_call 24; (with_reducible refine (Is_nil k f1 _ _ f2  true _ (Kd.C_below HCf.out.2 HBb.out) HCf.out.1  HF2.out).mono ?_); rintro e w8 ⟨rfl, hb⟩; have HBc := Aside0.mk (below_step HBb.out hb))))
              go_wp2_with fail
              go_ret
              exact ⟨rfl, below_step HB4.out HBc.out⟩
end Go.Proofs.Ytljmmhihdcnbaaa.G
