-- Written for this claim by hybrid.py's copy of the print program (a program of this session); not trusted: Lean checks it.
import Derived.Test.YtljmmhihdcnbaaaG0
import Derived.Test.YtljmmhihdcnbaaaG24
import Derived.Test.YtljmmhihdcnbaaaG25
namespace Go.Proofs.Ytljmmhihdcnbaaa.G
open Go.RowKit Go.Proofs.YtljmmhihdcnbaaaW.PrintWords Go.Proofs.YtljmmhihdcnbaaaW.PrintLast Go.Proofs.YtljmmhihdcnbaaaW.PrintMore
attribute [local go_sem] max2_int min2_int max_two min_two max_three min_three max_four min_four   -- for this text's walks alone
set_option linter.unusedVariables false
set_option linter.unusedSimpArgs false

/-! ### fold_IsLower: function 61 -/
def upper? (c : UInt8) : Bool := (((c.toNat : Int)) != ((lowB c).toNat : Int))
theorem upper_no (c : UInt8) : upper? c = !(lowB c == c) := by
  unfold upper?
  by_cases h : lowB c = c
  · rw [h]; simp
  · have h1 : (lowB c == c) = false := beq_eq_false_iff_ne.2 h
    rw [h1, Bool.not_false, bne_iff_ne]
    intro h2
    exact h (UInt8.toNat_inj.1 (by omega))
theorem upper_calls (c : UInt8) (w : World) : Calls Try.prog 105 #[.int .u8 c.toNat] w fun e w' => e = .returned (.bool (upper? c)) ∧ Below w.heap.size w w' := by
  have hc := c.toNat_lt
  go_enter Try.func105, Try.ntmps105
  go_wp2_with fail
  refine (fold_lower.calls _ _ _ (fold_lower_f c)).mono ?_
  rintro e w' ⟨rfl, hd⟩
  have HD := Aside0.mk hd.below
  clear hd
  go_wp2_with fail
  go_ret
  exact ⟨rfl, HD.out⟩
set_option maxHeartbeats 3200000 in
set_option maxRecDepth 100000 in
theorem upper_idx (s : ByteArray) (g cp : Nat) (w : World) (hlen : s.size ≤ 140737488355328) (hrow : LowRow s 0 w g) :
    Calls Try.prog 127 #[.slice (some ⟨g, 0, none⟩) s.size cp, .func (Fn.func 105) #[] #[]] w fun e w' => ∃ r : Int, e = .returned (.int .i64 r) ∧ decide (r ≥ 0) = !(s.data.toList.all fun c => lowB c == c) ∧ Below w.heap.size w w' := by
  have HR := Aside0.mk hrow
  clear hrow
  go_enter Try.func127, Try.ntmps127
  go_wp2
  go_loopw [8] (fun i wr => ∃ j : Nat, i = .int .i64 j ∧ Aside0 (j ≤ s.size ∧ (∀ i (hi : i < j) (hi' : i < s.size), upper? s[i] = false) ∧ Below w.heap.size w wr)) (fun i _ => s.size - (intOf i).toNat)
  case atStart => exact ⟨0, rfl, ⟨Nat.zero_le _, fun i hi => absurd hi (by omega), Below.refl _ _⟩⟩
  case round =>
    obtain ⟨j, rfl, HJ⟩ := hrel
    have hj : j ≤ s.size := HJ.out.1
    have HB := Aside0.mk HJ.out.2.2
    by_cases hlt : j < s.size
    · have hc0 := HR.out.cell j hlt
      rw [if_neg (by omega)] at hc0
      have hc : wr.cell? ⟨g, j, none⟩ = some (.int .u8 (s[j].toNat : Int)) := (HB.out.cell (p := ⟨g, j, none⟩) HR.out.lt).trans hc0
      clear hc0
      cases hp : upper? s[j] with
      | true =>
        have HP := Aside0.mk hp
        clear hp
        go_wp2_with (go_at_call 105; refine (upper_calls s[j] _).mono ?_; rw [HP.out]; rintro e w' ⟨rfl, hb⟩; have HB2 := Aside0.mk (below_step HB.out hb); clear hb)
        go_ret
        refine ⟨(j : Int), rfl, ?_, (by assumption : Aside0 (Below w.heap.size w _)).out⟩
        rw [decide_eq_true (by omega), Eq.comm, Bool.not_eq_true', List.all_eq_false]
        have hu := upper_no s[j]
        rw [HP.out] at hu
        have hjl : j < s.data.toList.length := by simpa using hlt
        have : s.data.toList[j] = s[j] := rfl
        exact ⟨s.data.toList[j], List.getElem_mem hjl, by rw [this]; intro h; rw [h] at hu; cases hu⟩
      | false =>
        have HP := Aside0.mk hp
        clear hp
        go_wp2_with (go_at_call 105; refine (upper_calls s[j] _).mono ?_; rw [HP.out]; rintro e w' ⟨rfl, hb⟩; have HB2 := Aside0.mk (below_step HB.out hb); clear hb)
        go_roundw
        case rel =>
          refine ⟨j + 1, by go_num, ⟨by omega, fun i hi hi' => ?_, (by assumption : Aside0 (Below w.heap.size w _)).out⟩⟩
          rcases Nat.lt_or_ge i j with h1 | h1
          · exact HJ.out.2.1 i h1 hi'
          · obtain rfl : i = j := by omega
            exact HP.out
        case measure => simp [intOf]; omega
    · obtain rfl : j = s.size := by omega
      go_wp2_with fail
      go_ret
      refine ⟨-1, rfl, ?_, HB.out⟩
      rw [decide_eq_false (by omega), Eq.comm, Bool.not_eq_false', List.all_eq_true]
      intro c hc
      obtain ⟨i, hi, rfl⟩ := List.getElem_of_mem hc
      have hi' : i < s.size := by simpa using hi
      have h1 := HJ.out.2.1 i hi' hi'
      rw [upper_no] at h1
      have : s.data.toList[i] = s[i] := rfl
      rw [this]
      simpa using h1
set_option maxHeartbeats 1600000 in
set_option maxRecDepth 100000 in
theorem upper_some (s : ByteArray) (g cp : Nat) (w : World) (hlen : s.size ≤ 140737488355328) (hrow : LowRow s 0 w g) :
    Calls Try.prog 104 #[.slice (some ⟨g, 0, none⟩) s.size cp, .func (Fn.func 105) #[] #[]] w fun e w' => e = .returned (.bool (!(s.data.toList.all fun c => lowB c == c))) ∧ Below w.heap.size w w' := by
  have HR := Aside0.mk hrow
  have HL := Aside0.mk hlen
  clear hrow hlen
  go_enter Try.func104, Try.ntmps104
  go_wp2_with fail
  refine (upper_idx s g cp _ HL.out HR.out).mono ?_
  rintro e w' ⟨r, rfl, hr, hb⟩
  have HB := Aside0.mk hb
  have H2 := Aside0.mk hr
  clear hb hr
  go_wp2_with fail
  go_ret
  exact ⟨by rw [← H2.out]; simp, HB.out⟩
def fold_IsLower.f (a0 : ByteArray) : Option Bool := if a0.size ≤ 140737488355328 then some (a0.data.toList.all fun c => lowB c == c) else none
set_option maxHeartbeats 1600000 in
set_option maxRecDepth 100000 in
theorem fold_IsLower.calls (a0 : ByteArray) (r : Bool) (w : World) (h : fold_IsLower.f a0 = some r) :
    Calls Try.prog 61 #[.string a0] w fun e w' => e = .returned (.bool r) ∧ Below w.heap.size w w' := by
  unfold fold_IsLower.f at h
  split at h
  case isFalse => exact absurd h (by simp)
  rename_i hlen
  obtain rfl := Option.some.inj h
  have hconv := fun (W : World) => run_bytes_of_string (P := Try.prog) W 9 55 5 a0 Try.underlying9 Try.underlying55 Try.underlying5
  have HL := Aside0.mk hlen
  clear hlen
  go_enter Try.func61, Try.ntmps61
  go_wp2_with fail
  clear hconv
  generalize grownCap w a0.size 0 5 = cp
  have HB : Aside0 (Below w.heap.size w ((w.alloc (.cells (bytesRow a0 cp) 5 ((bytesRow a0 cp).size, (bytesRow a0 cp).size + 1))).drew)) := ⟨((Below.refl _ _).alloc (Nat.le_refl _) _).drew⟩
  have HF : Aside0 (LowRow a0 0 ((w.alloc (.cells (bytesRow a0 cp) 5 ((bytesRow a0 cp).size, (bytesRow a0 cp).size + 1))).drew) w.heap.size) := ⟨LowRow.first a0 cp w⟩
  refine (upper_some a0 w.heap.size cp _ HL.out HF.out).mono ?_
  rintro e w' ⟨rfl, hb⟩
  have HB2 := Aside0.mk (below_step HB.out hb)
  clear hb
  go_wp2_with fail
  go_ret
  exact ⟨by simp, HB2.out⟩

end Go.Proofs.Ytljmmhihdcnbaaa.G
