-- Written for this claim by hybrid.py's copy of the print program (a program of this session); not trusted: Lean checks it.
import Derived.Test.YtljmmhihdcnbaaaDoorG0
import Derived.Test.YtljmmhihdcnbaaaDoorG9
import Derived.Test.YtljmmhihdcnbaaaDoorG20
import Derived.Test.YtljmmhihdcnbaaaDoorG45
namespace Go.Proofs.YtljmmhihdcnbaaaDoor.G
open Go.RowKit Go.Proofs.YtljmmhihdcnbaaaDoorW.PrintWords Go.Proofs.YtljmmhihdcnbaaaDoorW.PrintLast Go.Proofs.YtljmmhihdcnbaaaDoorW.PrintMore
attribute [local go_sem] max2_int min2_int max_two min_two max_three min_three max_four min_four   -- for this text's walks alone
set_option linter.unusedVariables false
set_option linter.unusedSimpArgs false

/-! ### style_Plain: function 28 -/
def plainS : ByteArray := ⟨#[97, 98, 99, 100, 101, 102, 103, 104, 105, 106, 107, 108, 109, 110, 111, 112, 113, 114, 115, 116, 117, 118, 119, 120, 121, 122, 65, 66, 67, 68, 69, 70, 71, 72, 73, 74, 75, 76, 77, 78, 79, 80, 81, 82, 83, 84, 85, 86, 87, 88, 89, 90, 48, 49, 50, 51, 52, 53, 54, 55, 56, 57, 32, 46, 35, 37, 45]⟩
def oddC (c : UInt8) : Bool := decide (Go.Lib.indexByte plainS.data.toList c < 0)
theorem odd_calls (c : UInt8) (w : World) : Calls Tryd.prog 51 #[.int .u8 c.toNat] w fun e w' => e = .returned (.bool (oddC c)) ∧ Below w.heap.size w w' := by
  have hc := c.toNat_lt
  have hI : strings_IndexByte.f plainS (c.toNat : Int) = some (Go.Lib.indexByte plainS.data.toList c) := by
    unfold strings_IndexByte.f
    rw [show ((c.toNat : Int)).toNat.toUInt8 = c by simp]
  have HI := Aside0.mk hI
  clear hI
  go_enter Tryd.func51, Tryd.ntmps51
  go_wp2_with fail
  refine (strings_IndexByte.calls plainS _ _ _ HI.out).mono ?_
  rintro e w' ⟨rfl, hd⟩
  have HD := Aside0.mk hd.below
  clear hd
  go_wp2_with fail
  go_ret
  exact ⟨rfl, HD.out⟩
set_option maxHeartbeats 3200000 in
set_option maxRecDepth 100000 in
theorem odd_idx (s : ByteArray) (g cp : Nat) (w : World) (hlen : s.size ≤ 140737488355328) (hrow : LowRow s 0 w g) :
    Calls Tryd.prog 67 #[.slice (some ⟨g, 0, none⟩) s.size cp, .func (Fn.func 51) #[] #[]] w fun e w' => ∃ r : Int, e = .returned (.int .i64 r) ∧ decide (r ≥ 0) = s.data.toList.any oddC ∧ Below w.heap.size w w' := by
  have HR := Aside0.mk hrow
  clear hrow
  go_enter Tryd.func67, Tryd.ntmps67
  go_wp2
  go_loopw [8] (fun i wr => ∃ j : Nat, i = .int .i64 j ∧ Aside0 (j ≤ s.size ∧ (∀ i (hi : i < j) (hi' : i < s.size), oddC s[i] = false) ∧ Below w.heap.size w wr)) (fun i _ => s.size - (intOf i).toNat)
  case atStart => exact ⟨0, rfl, ⟨Nat.zero_le _, fun i hi => absurd hi (by omega), Below.refl _ _⟩⟩
  case round =>
    obtain ⟨j, rfl, HJ⟩ := hrel
    have hj : j ≤ s.size := HJ.out.1
    have HB := Aside0.mk HJ.out.2.2
    by_cases hlt : j < s.size
    · have hc0 := HR.out.cell j hlt
      rw [if_neg (by omega)] at hc0
      have hc : wr.cell? ⟨g, j, none⟩ = some (.int .u8 (s[j].toNat : Int)) := (HB.out.cell (p := ⟨g, j, none⟩) HR.out.lt).trans hc0
      clear hc0
      cases hp : oddC s[j] with
      | true =>
        have HP := Aside0.mk hp
        clear hp
        go_wp2_with (go_at_call 51; refine (odd_calls s[j] _).mono ?_; rw [HP.out]; rintro e w' ⟨rfl, hb⟩; have HB2 := Aside0.mk (below_step HB.out hb); clear hb)
        go_ret
        refine ⟨(j : Int), rfl, ?_, (by assumption : Aside0 (Below w.heap.size w _)).out⟩
        rw [decide_eq_true (by omega), Eq.comm, List.any_eq_true]
        have hjl : j < s.data.toList.length := by simpa using hlt
        have : s.data.toList[j] = s[j] := rfl
        exact ⟨s.data.toList[j], List.getElem_mem hjl, by rw [this]; exact HP.out⟩
      | false =>
        have HP := Aside0.mk hp
        clear hp
        go_wp2_with (go_at_call 51; refine (odd_calls s[j] _).mono ?_; rw [HP.out]; rintro e w' ⟨rfl, hb⟩; have HB2 := Aside0.mk (below_step HB.out hb); clear hb)
        go_roundw
        case rel =>
          refine ⟨j + 1, by go_num, ⟨by omega, fun i hi hi' => ?_, (by assumption : Aside0 (Below w.heap.size w _)).out⟩⟩
          rcases Nat.lt_or_ge i j with h1 | h1
          · exact HJ.out.2.1 i h1 hi'
          · obtain rfl : i = j := by omega
            exact HP.out
        case measure => simp [intOf]; omega
    · obtain rfl : j = s.size := by omega
      go_wp2_with fail
      go_ret
      refine ⟨-1, rfl, ?_, HB.out⟩
      rw [decide_eq_false (by omega), Eq.comm, List.any_eq_false]
      intro c hc
      obtain ⟨i, hi, rfl⟩ := List.getElem_of_mem hc
      have hi' : i < s.size := by simpa using hi
      have h1 := HJ.out.2.1 i hi' hi'
      have : s.data.toList[i] = s[i] := rfl
      rw [this, h1]
      simp
set_option maxHeartbeats 1600000 in
set_option maxRecDepth 100000 in
theorem odd_some (s : ByteArray) (g cp : Nat) (w : World) (hlen : s.size ≤ 140737488355328) (hrow : LowRow s 0 w g) :
    Calls Tryd.prog 50 #[.slice (some ⟨g, 0, none⟩) s.size cp, .func (Fn.func 51) #[] #[]] w fun e w' => e = .returned (.bool (s.data.toList.any oddC)) ∧ Below w.heap.size w w' := by
  have HR := Aside0.mk hrow
  have HL := Aside0.mk hlen
  clear hrow hlen
  go_enter Tryd.func50, Tryd.ntmps50
  go_wp2_with fail
  refine (odd_idx s g cp _ HL.out HR.out).mono ?_
  rintro e w' ⟨r, rfl, hr, hb⟩
  have HB := Aside0.mk hb
  have H2 := Aside0.mk hr
  clear hb hr
  go_wp2_with fail
  go_ret
  exact ⟨by rw [← H2.out]; simp, HB.out⟩
/-- No odd byte, and some byte that is no blank. -/
def plainV (l : List UInt8) : Bool := !(l.any oddC) && !(Go.Lib.trimB l 32).isEmpty
def style_Plain.f (a0 : ByteArray) : Option Bool := if a0.size ≤ 140737488355328 then some (plainV a0.data.toList) else none
set_option maxHeartbeats 1600000 in
set_option maxRecDepth 100000 in
theorem style_Plain.calls (a0 : ByteArray) (r : Bool) (w : World) (h : style_Plain.f a0 = some r) :
    Calls Tryd.prog 28 #[.string a0] w fun e w' => e = .returned (.bool r) ∧ Below w.heap.size w w' := by
  unfold style_Plain.f at h
  split at h
  case isFalse => exact absurd h (by simp)
  rename_i hlen
  obtain rfl := Option.some.inj h
  have hconv := fun (W : World) => run_bytes_of_string (P := Tryd.prog) W 9 75 5 a0 Tryd.underlying9 Tryd.underlying75 Tryd.underlying5
  have HL := Aside0.mk hlen
  have hT : strings_Trim.f a0 ⟨#[32]⟩ = some ⟨(Go.Lib.trimB a0.data.toList 32).toArray⟩ := by
    unfold strings_Trim.f
    dsimp only
    rw [if_pos ⟨by decide, by omega⟩]
  have HT := Aside0.mk hT
  clear hlen hT
  obtain ⟨X, hX⟩ : ∃ X, X = a0.data.toList.any oddC := ⟨_, rfl⟩
  have hV : plainV a0.data.toList = (!X && !(Go.Lib.trimB a0.data.toList 32).isEmpty) := by rw [hX]; rfl
  rw [hV]
  have HX := Aside0.mk hX
  clear hX hV
  cases X with
  | true =>
    go_enter Tryd.func28, Tryd.ntmps28
    go_wp2_with fail
    clear hconv
    generalize grownCap w a0.size 0 5 = cp
    have HB : Aside0 (Below w.heap.size w ((w.alloc (.cells (bytesRow a0 cp) 5 ((bytesRow a0 cp).size, (bytesRow a0 cp).size + 1))).drew)) := ⟨((Below.refl _ _).alloc (Nat.le_refl _) _).drew⟩
    have HF : Aside0 (LowRow a0 0 ((w.alloc (.cells (bytesRow a0 cp) 5 ((bytesRow a0 cp).size, (bytesRow a0 cp).size + 1))).drew) w.heap.size) := ⟨LowRow.first a0 cp w⟩
    refine (odd_some a0 w.heap.size cp _ HL.out HF.out).mono ?_
    rw [← HX.out]
    rintro e w' ⟨rfl, hb⟩
    have HB2 := Aside0.mk (below_step HB.out hb)
    clear hb
    go_wp2_with fail
    go_ret
    exact ⟨rfl, HB2.out⟩
  | false =>
    obtain ⟨T, hT⟩ : ∃ T, T = Go.Lib.trimB a0.data.toList 32 := ⟨_, rfl⟩
    rw [← hT] at HT ⊢
    clear hT
    cases T with
    | nil =>
      go_enter Tryd.func28, Tryd.ntmps28
      go_wp2_with fail
      clear hconv
      generalize grownCap w a0.size 0 5 = cp
      have HB : Aside0 (Below w.heap.size w ((w.alloc (.cells (bytesRow a0 cp) 5 ((bytesRow a0 cp).size, (bytesRow a0 cp).size + 1))).drew)) := ⟨((Below.refl _ _).alloc (Nat.le_refl _) _).drew⟩
      have HF : Aside0 (LowRow a0 0 ((w.alloc (.cells (bytesRow a0 cp) 5 ((bytesRow a0 cp).size, (bytesRow a0 cp).size + 1))).drew) w.heap.size) := ⟨LowRow.first a0 cp w⟩
      refine (odd_some a0 w.heap.size cp _ HL.out HF.out).mono ?_
      rw [← HX.out]
      rintro e w' ⟨rfl, hb⟩
      have HB2 := Aside0.mk (below_step HB.out hb)
      clear hb
      go_wp2_with fail
      refine (strings_Trim.calls a0 ⟨#[32]⟩ _ _ HT.out).mono ?_
      rintro e w2 ⟨rfl, hd⟩
      have HB3 := Aside0.mk (below_step HB2.out hd.below)
      clear hd
      go_wp2_with fail
      go_ret
      exact ⟨rfl, HB3.out⟩
    | cons b T =>
      have hne : ((⟨(b :: T).toArray⟩ : ByteArray).toList != ([] : List UInt8)) = true := by rw [ByteArray.toList_eq]; simp
      have hne2 : ((⟨(b :: T).toArray⟩ : ByteArray).toList == ([] : List UInt8)) = false := by rw [ByteArray.toList_eq]; simp
      go_enter Tryd.func28, Tryd.ntmps28
      go_wp2_with fail
      clear hconv
      generalize grownCap w a0.size 0 5 = cp
      have HB : Aside0 (Below w.heap.size w ((w.alloc (.cells (bytesRow a0 cp) 5 ((bytesRow a0 cp).size, (bytesRow a0 cp).size + 1))).drew)) := ⟨((Below.refl _ _).alloc (Nat.le_refl _) _).drew⟩
      have HF : Aside0 (LowRow a0 0 ((w.alloc (.cells (bytesRow a0 cp) 5 ((bytesRow a0 cp).size, (bytesRow a0 cp).size + 1))).drew) w.heap.size) := ⟨LowRow.first a0 cp w⟩
      refine (odd_some a0 w.heap.size cp _ HL.out HF.out).mono ?_
      rw [← HX.out]
      rintro e w' ⟨rfl, hb⟩
      have HB2 := Aside0.mk (below_step HB.out hb)
      clear hb
      go_wp2_with fail
      refine (strings_Trim.calls a0 ⟨#[32]⟩ _ _ HT.out).mono ?_
      rintro e w2 ⟨rfl, hd⟩
      have HB3 := Aside0.mk (below_step HB2.out hd.below)
      clear hd
      go_wp2_with fail
      go_ret
      exact ⟨rfl, HB3.out⟩

end Go.Proofs.YtljmmhihdcnbaaaDoor.G
