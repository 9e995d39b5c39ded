-- Written for this claim by hybrid.py's copy of the print program (a program of this session); not trusted: Lean checks it.
import Derived.Test.YtljmmhihdcnbaaaDoorG0
import Derived.Test.YtljmmhihdcnbaaaDoorG6
namespace Go.Proofs.YtljmmhihdcnbaaaDoor.G
open Go.RowKit Go.Proofs.YtljmmhihdcnbaaaDoorW.PrintWords Go.Proofs.YtljmmhihdcnbaaaDoorW.PrintLast Go.Proofs.YtljmmhihdcnbaaaDoorW.PrintMore
attribute [local go_sem] max2_int min2_int max_two min_two max_three min_three max_four min_four   -- for this text's walks alone
set_option linter.unusedVariables false
set_option linter.unusedSimpArgs false

/-! ### fold_Trim: function 39 -/
def inFrom (p : UInt8 → Bool) (s : ByteArray) : Nat := (s.data.toList.takeWhile p).length
def inTo (p : UInt8 → Bool) (s : ByteArray) : Nat := max (inFrom p s) (s.size - (s.data.toList.reverse.takeWhile p).length)
theorem tw_at (p : UInt8 → Bool) : ∀ (l : List UInt8) (i : Nat) (h : i < l.length), i < (l.takeWhile p).length → p l[i] = true
  | [], i, h, _ => absurd h (by simp)
  | c :: l, i, h, hi => by
    rw [List.takeWhile_cons] at hi
    split at hi
    · rename_i hc
      cases i with
      | zero => simpa using hc
      | succ i => simpa using tw_at p l i (by simpa using h) (by simpa using hi)
    · simp at hi
theorem tw_end (p : UInt8 → Bool) : ∀ (l : List UInt8) (h : (l.takeWhile p).length < l.length), p (l[(l.takeWhile p).length]'h) = false
  | [], h => absurd h (by simp)
  | c :: l, h => by
    by_cases hc : p c = true
    · have e : (c :: l).takeWhile p = c :: l.takeWhile p := by rw [List.takeWhile_cons, if_pos hc]
      have h' : (l.takeWhile p).length < l.length := by rw [e] at h; simpa using h
      have := tw_end p l h'
      simp only [e, List.length_cons, List.getElem_cons_succ]
      exact this
    · have e : (c :: l).takeWhile p = [] := by rw [List.takeWhile_cons, if_neg hc]
      simp only [e, List.length_nil, List.getElem_cons_zero]
      simpa using hc
theorem tw_le (p : UInt8 → Bool) (l : List UInt8) : (l.takeWhile p).length ≤ l.length := (List.takeWhile_prefix p).length_le
theorem inFrom_le (p : UInt8 → Bool) (s : ByteArray) : inFrom p s ≤ s.size := by have := tw_le p s.data.toList; simpa [inFrom] using this
theorem inTo_le (p : UInt8 → Bool) (s : ByteArray) : inTo p s ≤ s.size := by have := inFrom_le p s; unfold inTo; omega
theorem inFrom_inTo (p : UInt8 → Bool) (s : ByteArray) : inFrom p s ≤ inTo p s := by unfold inTo; omega
theorem inFrom_yes {p : UInt8 → Bool} {s : ByteArray} {i : Nat} (h : i ≤ inFrom p s) (hi : i < s.size) (hp : p s[i] = true) : i + 1 ≤ inFrom p s := by
  rcases Nat.lt_or_ge i (inFrom p s) with h1 | h1
  · exact h1
  · have e : i = inFrom p s := by omega
    have h2 : (s.data.toList.takeWhile p).length < s.data.toList.length := by have : inFrom p s < s.size := by omega
                                                                              simpa [inFrom] using this
    have h3 := tw_end p s.data.toList h2
    have h4 : p (s.data.toList[i]'(by simpa using hi)) = false := by
      subst e
      exact h3
    have h5 : s.data.toList[i]'(by simpa using hi) = s[i] := rfl
    rw [h5, hp] at h4
    cases h4
theorem inFrom_no {p : UInt8 → Bool} {s : ByteArray} {i : Nat} (h : i ≤ inFrom p s) (hi : i < s.size) (hp : p s[i] = false) : i = inFrom p s := by
  rcases Nat.lt_or_ge i (inFrom p s) with h1 | h1
  · have h3 := tw_at p s.data.toList i (by simpa using hi) h1
    have h5 : s.data.toList[i]'(by simpa using hi) = s[i] := rfl
    rw [h5, hp] at h3
    cases h3
  · omega
theorem inTo_yes {p : UInt8 → Bool} {s : ByteArray} {t : Nat} (h : inTo p s ≤ t) (ht : t ≤ s.size) (h0 : inFrom p s < t) (hp : p (s[t - 1]'(by omega)) = true) : inTo p s ≤ t - 1 := by
  rcases Nat.lt_or_ge (inTo p s) t with h1 | h1
  · omega
  · have e : inTo p s = t := by omega
    have e2 : s.size - (s.data.toList.reverse.takeWhile p).length = t := by unfold inTo at e; omega
    have hl : (s.data.toList.reverse).length = s.size := by simp
    have hle := tw_le p s.data.toList.reverse
    have h2 : (s.data.toList.reverse.takeWhile p).length < s.data.toList.reverse.length := by omega
    have h3 := tw_end p s.data.toList.reverse h2
    rw [List.getElem_reverse] at h3
    have h4 : p (s.data.toList[t - 1]'(by simp; omega)) = false := by
      have e3 : s.data.toList.length - 1 - (s.data.toList.reverse.takeWhile p).length = t - 1 := by simp; omega
      simp only [e3] at h3
      exact h3
    have h5 : s.data.toList[t - 1]'(by simp; omega) = s[t - 1]'(by omega) := rfl
    rw [h5, hp] at h4
    cases h4
theorem inTo_no {p : UInt8 → Bool} {s : ByteArray} {t : Nat} (h : inTo p s ≤ t) (ht : t ≤ s.size) (h0 : inFrom p s < t) (hp : p (s[t - 1]'(by omega)) = false) : t = inTo p s := by
  rcases Nat.lt_or_ge (inTo p s) t with h1 | h1
  · have hl : (s.data.toList.reverse).length = s.size := by simp
    have hle := tw_le p s.data.toList.reverse
    have h2 : s.size - t < (s.data.toList.reverse.takeWhile p).length := by unfold inTo at h1; omega
    have h3 := tw_at p s.data.toList.reverse (s.size - t) (by omega) h2
    rw [List.getElem_reverse] at h3
    have h4 : p (s.data.toList[t - 1]'(by simp; omega)) = true := by
      have e3 : s.data.toList.length - 1 - (s.size - t) = t - 1 := by simp; omega
      simp only [e3] at h3
      exact h3
    have h5 : s.data.toList[t - 1]'(by simp; omega) = s[t - 1]'(by omega) := rfl
    rw [h5, hp] at h4
    cases h4
  · omega
def trimP (c : UInt8) : Bool := decide (Go.Lib.indexByte [9, 10, 12, 13, 32] c ≥ 0)
theorem trimP_calls (c : UInt8) (w : World) : Calls Tryd.prog 61 #[.int .u8 c.toNat] w fun e w' => e = .returned (.bool (trimP c)) ∧ w = w' := by
  unfold trimP
  have hc := c.toNat_lt
  go_enter Tryd.func61, Tryd.ntmps61
  go_wp2_with fail
  refine (Go.Proofs.Tryd.strings_IndexByte _ _ _).mono ?_
  rintro e w' ⟨rfl, rfl⟩
  go_wp2_with fail
  go_ret
  exact ⟨by simp, rfl⟩
set_option maxHeartbeats 1600000 in
set_option maxRecDepth 100000 in
theorem inner_Trim (k : Nat) (a0_0 : ByteArray) (A0_1 : Option Addr) (c0_1 : Nat) (l0_1 : List (S56)) (r1 : ByteArray) (r2 : List (S56)) (w : World) (hr0_1 : Kd.C k56 w A0_1 l0_1.length l0_1) (hc0_1 : l0_1.length ≤ c0_1) (hsz : a0_0.size ≤ 140737488355328) (h : mark_Cut.f k a0_0 l0_1 (inFrom trimP a0_0 : Int) (inTo trimP a0_0 : Int) = some (r1, r2)) :
    Calls Tryd.prog 60 #[.agg #[.string a0_0, .slice A0_1 l0_1.length c0_1], .func (Fn.func 61) #[] #[]] w fun e w' => ∃ v1_ : Value, e = .returned (.agg #[.string r1, v1_]) ∧ Kd.R k56 56 w' w.heap.size (fun _ => True) v1_ r2 ∧ Below w.heap.size w w' := by
  have hu24 := Tryd.underlying24
  have HH := Aside0.mk h
  have HR := Aside0.mk hr0_1
  have HC := Aside0.mk hc0_1
  clear h hr0_1 hc0_1
  have hF1 := Aside0.mk (inFrom_le trimP a0_0)
  go_enter Tryd.func60, Tryd.ntmps60
  go_wp2
  go_quiet (fail)
  rename_i nq
  have hW : ∃ W : World, W = (((w.alloc (.cells #[.string a0_0, .slice A0_1 l0_1.length c0_1] 24)).alloc (.cells #[.string ⟨#[]⟩, .slice none 0 0] 24)).drewN nq) := ⟨_, rfl⟩
  obtain ⟨W, hW⟩ := hW
  rw [← hW]
  have HB0 : Aside0 (W.heap[w.heap.size]? = some (.cells #[.string a0_0, .slice A0_1 l0_1.length c0_1] 24 (0, 0))) := ⟨by rw [hW]; exact blk_drewN (blk_alloc (blk_new _ _) _) _⟩
  have HB1 : Aside0 (W.heap[w.heap.size + 1]? = some (.cells #[.string ⟨#[]⟩, .slice none 0 0] 24 (0, 0))) := ⟨by rw [hW]; exact blk_drewN (by simpa using blk_new (w.alloc (.cells #[.string a0_0, .slice A0_1 l0_1.length c0_1] 24)) (.cells #[.string ⟨#[]⟩, .slice none 0 0] 24)) _⟩
  have HB : Aside0 (Below w.heap.size w W) := ⟨by rw [hW]; exact pw_below_drewN (((Below.refl _ _).alloc (Nat.le_refl _) _).alloc (by simp) _) _⟩
  clear hW
  have hbx0 : W.cell? ⟨w.heap.size, 0, none⟩ = some (.string a0_0) := blk_cell HB0.out 0
  have hbx1 : W.cell? ⟨w.heap.size, 1, none⟩ = some (.slice A0_1 l0_1.length c0_1) := blk_cell HB0.out 1
  go_wp2
  go_loop [5] (fun i => ∃ j : Nat, i = .int .i64 j ∧ Aside0 (j ≤ inFrom trimP a0_0)) (fun i => a0_0.size - (intOf i).toNat)
  case atStart => exact ⟨0, rfl, ⟨Nat.zero_le _⟩⟩
  case round =>
    obtain ⟨j, rfl, HJ⟩ := hrel
    have hjs : j ≤ a0_0.size := Nat.le_trans HJ.out hF1.out
    by_cases hlt : j < a0_0.size
    · cases hp : trimP a0_0[j] with
      | true =>
        have HP := Aside0.mk hp
        clear hp
        go_wp2_with (go_at_call 61; refine (trimP_calls a0_0[j] _).mono ?_; rw [HP.out]; rintro e w' ⟨rfl, rfl⟩)
        go_round
        case rel => exact ⟨j + 1, by go_num, ⟨inFrom_yes HJ.out hlt HP.out⟩⟩
        case measure => simp [intOf]; omega
      | false =>
        have HP := Aside0.mk hp
        clear hp
        obtain rfl := inFrom_no HJ.out hlt HP.out
        go_wp2_with (go_at_call 61; refine (trimP_calls _ _).mono ?_; rw [HP.out]; rintro e w' ⟨rfl, rfl⟩)
        go_loop [6] (fun t => ∃ q : Nat, t = .int .i64 q ∧ Aside0 (inTo trimP a0_0 ≤ q ∧ q ≤ a0_0.size)) (fun t => (intOf t).toNat)
        case atStart => exact ⟨a0_0.size, rfl, ⟨inTo_le _ _, Nat.le_refl _⟩⟩
        case round =>
          obtain ⟨q, rfl, HQ⟩ := hrel
          have hqs : q ≤ a0_0.size := HQ.out.2
          by_cases hgt : inFrom trimP a0_0 < q
          · have hq1 : q - 1 < a0_0.size := by omega
            cases hp : trimP (a0_0[q - 1]'hq1) with
            | true =>
              have HP := Aside0.mk hp
              clear hp
              go_wp2_with (go_at_call 61; refine (trimP_calls _ _).mono ?_; rw [HP.out]; rintro e w' ⟨rfl, rfl⟩)
              go_round
              case rel => exact ⟨q - 1, by go_num, ⟨inTo_yes HQ.out.1 hqs hgt HP.out, by omega⟩⟩
              case measure => simp [intOf]; omega
            | false =>
              have HP := Aside0.mk hp
              clear hp
              obtain rfl := inTo_no HQ.out.1 hqs hgt HP.out
              go_wp2_with (go_at_call 61; refine (trimP_calls _ _).mono ?_; rw [HP.out]; rintro e w' ⟨rfl, rfl⟩)

              go_wp2_with fail
              refine (mark_Cut.calls k a0_0 _ _ l0_1 _ _ r1 r2 _ ?_ HC.out HH.out).mono ?_
              · exact Kd.C_below HR.out HB.out
              rintro e w' ⟨v1, rfl, hR, hb⟩
              have hR' := Aside0.mk (Kd.R_lower hR HB.out.size)
              have hB' := Aside0.mk (below_step HB.out hb)
              have hG := Aside0.mk (blk_below HB1.out hb)
              clear hR hb
              obtain ⟨A, c, e1⟩ := Kd.R_slice hR'.out
              subst e1
              have hz0 := blk_cell hG.out 0
              have hz1 := blk_cell hG.out 1
              have hf0 := blk_frozen hG.out 0
              have hf1 := blk_frozen hG.out 1
              go_wp2_with fail
              refine bodyPost_ret (results_cell_row rfl _ _ (w.heap.size + 1) 24 #[.string r1, .slice A r2.length c] (0, 0) _ rfl (blk_put (cs := #[.string r1, .slice none 0 0]) (blk_put (cs := #[.string ⟨#[]⟩, .slice none 0 0]) hG.out 0 _ rfl) 1 _ rfl) Tryd.underlying24 rfl (by kernel_rfl)) rfl ?_
              exact ⟨_, rfl, Kd.R_mono (Kd.R_far (p := ⟨w.heap.size + 1, 1, none⟩) (Kd.R_far (p := ⟨w.heap.size + 1, 0, none⟩) (Kd.R_types hR'.out hG.out (by decide)) (fun _ hk => hk.2) (.string r1)) (fun _ hk => hk.2) (.slice A r2.length c)) (fun _ _ => trivial), below_set (below_set hB'.out (by omega)) (by omega)⟩
          · obtain rfl : q = inTo trimP a0_0 := by have h1 := HQ.out.1; have h2 := inFrom_inTo trimP a0_0; omega

            go_wp2_with fail
            refine (mark_Cut.calls k a0_0 _ _ l0_1 _ _ r1 r2 _ ?_ HC.out HH.out).mono ?_
            · exact Kd.C_below HR.out HB.out
            rintro e w' ⟨v1, rfl, hR, hb⟩
            have hR' := Aside0.mk (Kd.R_lower hR HB.out.size)
            have hB' := Aside0.mk (below_step HB.out hb)
            have hG := Aside0.mk (blk_below HB1.out hb)
            clear hR hb
            obtain ⟨A, c, e1⟩ := Kd.R_slice hR'.out
            subst e1
            have hz0 := blk_cell hG.out 0
            have hz1 := blk_cell hG.out 1
            have hf0 := blk_frozen hG.out 0
            have hf1 := blk_frozen hG.out 1
            go_wp2_with fail
            refine bodyPost_ret (results_cell_row rfl _ _ (w.heap.size + 1) 24 #[.string r1, .slice A r2.length c] (0, 0) _ rfl (blk_put (cs := #[.string r1, .slice none 0 0]) (blk_put (cs := #[.string ⟨#[]⟩, .slice none 0 0]) hG.out 0 _ rfl) 1 _ rfl) Tryd.underlying24 rfl (by kernel_rfl)) rfl ?_
            exact ⟨_, rfl, Kd.R_mono (Kd.R_far (p := ⟨w.heap.size + 1, 1, none⟩) (Kd.R_far (p := ⟨w.heap.size + 1, 0, none⟩) (Kd.R_types hR'.out hG.out (by decide)) (fun _ hk => hk.2) (.string r1)) (fun _ hk => hk.2) (.slice A r2.length c)) (fun _ _ => trivial), below_set (below_set hB'.out (by omega)) (by omega)⟩
    · obtain rfl : j = inFrom trimP a0_0 := by have h1 := HJ.out; have h2 := hF1.out; omega
      go_wp2_with fail
      go_loop [6] (fun t => ∃ q : Nat, t = .int .i64 q ∧ Aside0 (inTo trimP a0_0 ≤ q ∧ q ≤ a0_0.size)) (fun t => (intOf t).toNat)
      case atStart => exact ⟨a0_0.size, rfl, ⟨inTo_le _ _, Nat.le_refl _⟩⟩
      case round =>
        obtain ⟨q, rfl, HQ⟩ := hrel
        have hqs : q ≤ a0_0.size := HQ.out.2
        have hgt : ¬ inFrom trimP a0_0 < q := by omega
        · obtain rfl : q = inTo trimP a0_0 := by have h1 := HQ.out.1; have h2 := inFrom_inTo trimP a0_0; omega

          go_wp2_with fail
          refine (mark_Cut.calls k a0_0 _ _ l0_1 _ _ r1 r2 _ ?_ HC.out HH.out).mono ?_
          · exact Kd.C_below HR.out HB.out
          rintro e w' ⟨v1, rfl, hR, hb⟩
          have hR' := Aside0.mk (Kd.R_lower hR HB.out.size)
          have hB' := Aside0.mk (below_step HB.out hb)
          have hG := Aside0.mk (blk_below HB1.out hb)
          clear hR hb
          obtain ⟨A, c, e1⟩ := Kd.R_slice hR'.out
          subst e1
          have hz0 := blk_cell hG.out 0
          have hz1 := blk_cell hG.out 1
          have hf0 := blk_frozen hG.out 0
          have hf1 := blk_frozen hG.out 1
          go_wp2_with fail
          refine bodyPost_ret (results_cell_row rfl _ _ (w.heap.size + 1) 24 #[.string r1, .slice A r2.length c] (0, 0) _ rfl (blk_put (cs := #[.string r1, .slice none 0 0]) (blk_put (cs := #[.string ⟨#[]⟩, .slice none 0 0]) hG.out 0 _ rfl) 1 _ rfl) Tryd.underlying24 rfl (by kernel_rfl)) rfl ?_
          exact ⟨_, rfl, Kd.R_mono (Kd.R_far (p := ⟨w.heap.size + 1, 1, none⟩) (Kd.R_far (p := ⟨w.heap.size + 1, 0, none⟩) (Kd.R_types hR'.out hG.out (by decide)) (fun _ hk => hk.2) (.string r1)) (fun _ hk => hk.2) (.slice A r2.length c)) (fun _ _ => trivial), below_set (below_set hB'.out (by omega)) (by omega)⟩
def fold_Trim.f (k : Nat) (a0_0 : ByteArray) (l0_1 : List (S56)) : Option (ByteArray × (List (S56))) := if a0_0.size ≤ 140737488355328 then mark_Cut.f k a0_0 l0_1 (inFrom trimP a0_0 : Int) (inTo trimP a0_0 : Int) else none
theorem fold_Trim.mono : ∀ a0 a1 k, LeO (fold_Trim.f k a0 a1) (fold_Trim.f (k + 1) a0 a1) := fun _ _ _ => LeO.ite (mark_Cut.mono _ _ _ _ _) (LeO.none _)
set_option maxHeartbeats 1600000 in
set_option maxRecDepth 100000 in
theorem fold_Trim.calls (k : Nat) (a0_0 : ByteArray) (A0_1 : Option Addr) (c0_1 : Nat) (l0_1 : List (S56)) (r1 : ByteArray) (r2 : List (S56)) (w : World) (hr0_1 : Kd.C k56 w A0_1 l0_1.length l0_1) (hc0_1 : l0_1.length ≤ c0_1) (h : fold_Trim.f k a0_0 l0_1 = some (r1, r2)) :
    Calls Tryd.prog 39 #[.agg #[.string a0_0, .slice A0_1 l0_1.length c0_1]] w fun e w' => ∃ v1_ : Value, e = .returned (.agg #[.string r1, v1_]) ∧ Kd.R k56 56 w' w.heap.size (fun _ => True) v1_ r2 ∧ Below w.heap.size w w' := by
  unfold fold_Trim.f at h
  split at h
  case isFalse => exact absurd h (by simp)
  rename_i hsz
  have hu24 := Tryd.underlying24
  have HH := Aside0.mk h
  have HS := Aside0.mk hsz
  have HC := Aside0.mk hc0_1
  have HB1 : Aside0 (((w.alloc (.cells #[.string a0_0, .slice A0_1 l0_1.length c0_1] 24)).alloc (.cells #[.string ⟨#[]⟩, .slice none 0 0] 24)).heap[w.heap.size + 1]? = some (.cells #[.string ⟨#[]⟩, .slice none 0 0] 24 (0, 0))) := ⟨by simpa using blk_new (w.alloc (.cells #[.string a0_0, .slice A0_1 l0_1.length c0_1] 24)) (.cells #[.string ⟨#[]⟩, .slice none 0 0] 24)⟩
  have HB : Aside0 (Below w.heap.size w ((w.alloc (.cells #[.string a0_0, .slice A0_1 l0_1.length c0_1] 24)).alloc (.cells #[.string ⟨#[]⟩, .slice none 0 0] 24))) := ⟨((Below.refl _ _).alloc (Nat.le_refl _) _).alloc (by simp) _⟩
  have HR := Aside0.mk (Kd.C_below hr0_1 HB.out)
  clear h hr0_1 hc0_1 hsz
  go_enter Tryd.func39, Tryd.ntmps39
  go_wp2_with fail
  refine (inner_Trim k a0_0 _ _ l0_1 r1 r2 _ HR.out HC.out HS.out HH.out).mono ?_
  rintro e w' ⟨v1, rfl, hR, hb⟩
  have hR' := Aside0.mk (Kd.R_lower hR HB.out.size)
  have hB' := Aside0.mk (below_step HB.out hb)
  have hG := Aside0.mk (blk_below HB1.out hb)
  clear hR hb HB HB1 HR
  obtain ⟨A, c, e1⟩ := Kd.R_slice hR'.out
  subst e1
  have hz0 := blk_cell hG.out 0
  have hz1 := blk_cell hG.out 1
  have hf0 := blk_frozen hG.out 0
  have hf1 := blk_frozen hG.out 1
  go_wp2_with fail
  refine bodyPost_ret (results_cell_row rfl _ _ (w.heap.size + 1) 24 #[.string r1, .slice A r2.length c] (0, 0) _ rfl (blk_put (cs := #[.string r1, .slice none 0 0]) (blk_put (cs := #[.string ⟨#[]⟩, .slice none 0 0]) hG.out 0 _ rfl) 1 _ rfl) Tryd.underlying24 rfl (by kernel_rfl)) rfl ?_
  exact ⟨_, rfl, Kd.R_mono (Kd.R_far (p := ⟨w.heap.size + 1, 1, none⟩) (Kd.R_far (p := ⟨w.heap.size + 1, 0, none⟩) (Kd.R_types hR'.out hG.out (by decide)) (fun _ hk => hk.2) (.string r1)) (fun _ hk => hk.2) (.slice A r2.length c)) (fun _ _ => trivial), below_set (below_set hB'.out (by omega)) (by omega)⟩

end Go.Proofs.YtljmmhihdcnbaaaDoor.G
