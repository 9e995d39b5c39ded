-- Written for this claim by hybrid.py's copy of the print program (a program of this session); not trusted: Lean checks it.
import Derived.Test.YtljmmhihdcnbaaaDoorG0
import Derived.Test.YtljmmhihdcnbaaaDoorG5
import Derived.Test.YtljmmhihdcnbaaaDoorG19
namespace Go.Proofs.YtljmmhihdcnbaaaDoor.G
open Go.RowKit Go.Proofs.YtljmmhihdcnbaaaDoorW.PrintWords Go.Proofs.YtljmmhihdcnbaaaDoorW.PrintLast Go.Proofs.YtljmmhihdcnbaaaDoorW.PrintMore
attribute [local go_sem] max2_int min2_int max_two min_two max_three min_three max_four min_four   -- for this text's walks alone
set_option linter.unusedVariables false
set_option linter.unusedSimpArgs false

/-! ### fold_Lower: function 38 -/
def lowB (c : UInt8) : UInt8 := if 65 ≤ c.toNat ∧ c.toNat ≤ 90 then c + 32 else c
def lowS (s : ByteArray) : ByteArray := ⟨(s.data.toList.map lowB).toArray⟩
def fold_Lower.f (k : Nat) (a0_0 : ByteArray) (l0_1 : List (S56)) : Option (ByteArray × (List (S56))) := if a0_0.size ≤ 140737488355328 then mark_Fix.f k (lowS a0_0) l0_1 else none
theorem fold_Lower.mono : ∀ a0 a1 k, LeO (fold_Lower.f k a0 a1) (fold_Lower.f (k + 1) a0 a1) := fun _ _ _ => LeO.ite (mark_Fix.mono _ _ _) (LeO.none _)
theorem fold_lower_f (c : UInt8) : fold_lower.f (c.toNat : Int) = some ((lowB c).toNat : Int) := by
  have hc := c.toNat_lt
  unfold fold_lower.f lowB
  by_cases h1 : 65 ≤ c.toNat
  · by_cases h2 : c.toNat ≤ 90
    · rw [if_pos (by omega), if_pos (by omega), if_pos ⟨h1, h2⟩, UInt8.toNat_add]
      congr 1
      simp
      omega
    · rw [if_pos (by omega), if_neg (by omega), if_neg (by omega)]
  · rw [if_neg (by omega), if_neg (by omega)]
/-- Block g is a row of bytes, its mark behind its end: the first j of s lowered, the others as they were. -/
def LowRow (s : ByteArray) (j : Nat) (w : World) (g : Nat) : Prop :=
  ∃ (cs : Array Value), w.heap[g]? = some (.cells cs 5 (cs.size, cs.size + 1)) ∧ s.size ≤ cs.size ∧ ∀ i (h : i < s.size), cs[i]? = some (.int .u8 (if i < j then ((lowB s[i]).toNat : Int) else (s[i].toNat : Int)))
theorem LowRow.first (s : ByteArray) (cp : Nat) (w : World) : LowRow s 0 (w.alloc (.cells (bytesRow s cp) 5 ((bytesRow s cp).size, (bytesRow s cp).size + 1))) w.heap.size := by
  refine ⟨bytesRow s cp, heap_alloc_new w _, ?_, fun i h => ?_⟩
  · simp [bytesRow]
  · simp [bytesRow, Array.getElem?_append, h]
    rfl
theorem LowRow.lt {s : ByteArray} {j g : Nat} {w : World} (h : LowRow s j w g) : g < w.heap.size := by
  obtain ⟨cs, h, _⟩ := h
  exact blk_lt h
theorem LowRow.cell {s : ByteArray} {j g : Nat} {w : World} (h : LowRow s j w g) (i : Nat) (hi : i < s.size) : w.cell? ⟨g, i, none⟩ = some (.int .u8 (if i < j then ((lowB s[i]).toNat : Int) else (s[i].toNat : Int))) := by
  obtain ⟨cs, h, _, hc⟩ := h
  exact (cell_of_row w g i cs 5 _ h).trans (hc i hi)
theorem LowRow.frozen {s : ByteArray} {j g : Nat} {w : World} (h : LowRow s j w g) (i : Nat) (hi : i < s.size) : w.frozen? ⟨g, i, none⟩ = false := by
  obtain ⟨cs, h, hs, _⟩ := h
  simp [World.frozen?, h]
  omega
theorem LowRow.drewN {s : ByteArray} {j g : Nat} {w : World} (h : LowRow s j w g) (n : Nat) : LowRow s j (w.drewN n) g := h
theorem LowRow.stored {s : ByteArray} {j g : Nat} {w : World} (h : LowRow s j w g) (hj : j < s.size) : LowRow s (j + 1) (w.setCell ⟨g, j, none⟩ (.int .u8 ((lowB s[j]).toNat : Int))) g := by
  obtain ⟨cs, h, hs, hc⟩ := h
  refine ⟨cs.setIfInBounds j (.int .u8 ((lowB s[j]).toNat : Int)), ?_, by simpa using hs, fun i hi => ?_⟩
  · simp [World.setCell, Array.getElem?_modify, h]
  · rw [Array.getElem?_setIfInBounds]
    by_cases e : j = i
    · subst e
      simp
      omega
    · rw [if_neg e, hc i hi]
      by_cases h1 : i < j
      · rw [if_pos h1, if_pos (by omega)]
      · rw [if_neg h1, if_neg (by omega)]
theorem LowRow.back {s : ByteArray} {g : Nat} {w : World} (cp : Nat) (h : LowRow s s.size w g) : (convert 75 9 (.slice (some ⟨g, 0, none⟩) s.size cp)).run Tryd.prog w = .ok (.string (lowS s)) w := by
  have hr := run_convert_bytes_arg (P := Tryd.prog) w 75 5 Tryd.underlying75 Tryd.underlying5 g 0 s.size cp (s.data.toList.map fun c => ((lowB c).toNat : Int)) (by simp) (fun i hi => by
    rw [Nat.zero_add, h.cell i hi, if_pos hi]
    congr 2
    have : i < s.data.toList.length := by simpa using hi
    simp [List.getD, List.getElem?_map, List.getElem?_eq_getElem this]
    rfl) 9 Tryd.underlying9
  have e : strOfNums (s.data.toList.map fun c => ((lowB c).toNat : Int)) = lowS s := by
    unfold strOfNums lowS
    rw [List.map_map]
    have e1 : s.data.toList.map ((fun n : Int => UInt8.ofNat n.toNat) ∘ fun c => ((lowB c).toNat : Int)) = s.data.toList.map lowB := List.map_congr_left fun c _ => by simp
    rw [e1]
  rw [hr, e]
set_option maxHeartbeats 800000 in
set_option maxRecDepth 100000 in
theorem fold_Lower.calls (k : Nat) (a0_0 : ByteArray) (A0_1 : Option Addr) (c0_1 : Nat) (l0_1 : List (S56)) (r1 : ByteArray) (r2 : List (S56)) (w : World) (hr0_1 : Kd.C k56 w A0_1 l0_1.length l0_1) (hc0_1 : l0_1.length ≤ c0_1) (h : fold_Lower.f k a0_0 l0_1 = some (r1, r2)) :
    Calls Tryd.prog 38 #[.agg #[.string a0_0, .slice A0_1 l0_1.length c0_1]] w fun e w' => ∃ v1_ : Value, e = .returned (.agg #[.string r1, v1_]) ∧ Kd.R k56 56 w' w.heap.size (fun _ => True) v1_ r2 ∧ Below w.heap.size w w' := by
  have hu24 := Tryd.underlying24
  have hconv := fun (W : World) => run_bytes_of_string (P := Tryd.prog) W 9 75 5 a0_0 Tryd.underlying9 Tryd.underlying75 Tryd.underlying5
  unfold fold_Lower.f at h
  split at h
  case isFalse => exact absurd h (by simp)
  rename_i hsz
  have HH := Aside0.mk h
  have HR := Aside0.mk hr0_1
  have HC := Aside0.mk hc0_1
  clear h hr0_1 hc0_1
  go_enter Tryd.func38, Tryd.ntmps38
  go_wp2
  clear hconv
  generalize grownCap ((w.alloc (.cells #[.string a0_0, .slice A0_1 l0_1.length c0_1] 24)).alloc (.cells #[.string ⟨#[]⟩, .slice none 0 0] 24)) a0_0.size 0 5 = cp
  go_loopw [11] (fun i wr => ∃ j : Nat, i = .int .i64 j ∧ Aside0 (j ≤ a0_0.size ∧ LowRow a0_0 j wr (w.heap.size + 1 + 1) ∧ wr.heap[w.heap.size]? = some (.cells #[.string a0_0, .slice A0_1 l0_1.length c0_1] 24 (0, 0)) ∧ wr.heap[w.heap.size + 1]? = some (.cells #[.string ⟨#[]⟩, .slice none 0 0] 24 (0, 0)) ∧ Below w.heap.size w wr)) (fun i _ => a0_0.size - (intOf i).toNat)
  case atStart =>
    refine ⟨0, rfl, ⟨Nat.zero_le _, ?_, ?_, ?_, ?_⟩⟩
    · have := LowRow.first a0_0 cp ((w.alloc (.cells #[.string a0_0, .slice A0_1 l0_1.length c0_1] 24)).alloc (.cells #[.string ⟨#[]⟩, .slice none 0 0] 24))
      simp only [World.size_alloc] at this
      exact this
    · exact blk_alloc (blk_alloc (blk_new _ _) _) _
    · exact blk_alloc (by simpa using blk_new (w.alloc (.cells #[.string a0_0, .slice A0_1 l0_1.length c0_1] 24)) (.cells #[.string ⟨#[]⟩, .slice none 0 0] 24)) _
    · exact ((((Below.refl _ _).alloc (Nat.le_refl _) _).alloc (by simp) _).alloc (by simp; omega) _).drew
  case round =>
    obtain ⟨j, rfl, HJ⟩ := hrel
    obtain ⟨hj, hl, hb0, hb1, hB⟩ := HJ.out
    clear HJ
    have HL := Aside0.mk hl
    have HB0 := Aside0.mk hb0
    have HB1 := Aside0.mk hb1
    have HB := Aside0.mk hB
    clear hl hb0 hb1 hB
    by_cases hlt : j < a0_0.size
    · have hcell := HL.out.cell j hlt
      rw [if_neg (by omega)] at hcell
      have hc : wr.cell? ⟨w.heap.size + 1 + 1, j, none⟩ = some (.int .u8 (a0_0[j].toNat : Int)) := hcell
      clear hcell
      have hfz := HL.out.frozen j hlt
      go_wp2_with fail
      refine (fold_lower.calls _ _ _ (fold_lower_f a0_0[j])).mono ?_
      rintro e w' ⟨rfl, hd⟩
      obtain ⟨n, rfl⟩ := hd.out
      have hfz' : (wr.drewN n).frozen? ⟨w.heap.size + 1 + 1, j, none⟩ = false := hfz
      have hc' : (wr.drewN n).cell? ⟨w.heap.size + 1 + 1, j, none⟩ = some (.int .u8 (a0_0[j].toNat : Int)) := hc
      clear hfz hc
      go_wp2_with fail
      go_roundw
      case rel =>
        refine ⟨j + 1, by go_num, ⟨by omega, (HL.out.drewN n).stored hlt, ?_, ?_, ?_⟩⟩
        · exact blk_far (by exact HB0.out) (by simp; omega) _
        · exact blk_far (by exact HB1.out) (by simp) _
        · exact below_set (pw_below_drewN HB.out n) (by omega)
      case measure => simp [intOf]; omega
    · have ej : j = a0_0.size := by omega
      subst ej
      have hback := HL.out.back cp
      have hbx0 := blk_cell HB0.out 0
      have hbx1 := blk_cell HB0.out 1
      go_wp2_with fail
      refine (mark_Fix.calls k (lowS a0_0) _ _ l0_1 r1 r2 _ ?_ HC.out HH.out).mono ?_
      · exact Kd.C_below HR.out HB.out
      rintro e w' ⟨v1, rfl, hR, hb⟩
      have hR' := Aside0.mk (Kd.R_lower hR HB.out.size)
      have hB' := Aside0.mk (below_step HB.out hb)
      have hG := Aside0.mk (blk_below HB1.out hb)
      clear hR hb
      obtain ⟨A, c, e1⟩ := Kd.R_slice hR'.out
      subst e1
      have hz0 := blk_cell hG.out 0
      have hz1 := blk_cell hG.out 1
      have hf0 := blk_frozen hG.out 0
      have hf1 := blk_frozen hG.out 1
      go_wp2_with fail
      refine bodyPost_ret (results_cell_row rfl _ _ (w.heap.size + 1) 24 #[.string r1, .slice A r2.length c] (0, 0) _ rfl (blk_put (cs := #[.string r1, .slice none 0 0]) (blk_put (cs := #[.string ⟨#[]⟩, .slice none 0 0]) hG.out 0 _ rfl) 1 _ rfl) Tryd.underlying24 rfl (by kernel_rfl)) rfl ?_
      exact ⟨_, rfl, Kd.R_mono (Kd.R_far (p := ⟨w.heap.size + 1, 1, none⟩) (Kd.R_far (p := ⟨w.heap.size + 1, 0, none⟩) (Kd.R_types hR'.out hG.out (by decide)) (fun _ hk => hk.2) (.string r1)) (fun _ hk => hk.2) (.slice A r2.length c)) (fun _ _ => trivial), below_set (below_set hB'.out (by omega)) (by omega)⟩

end Go.Proofs.YtljmmhihdcnbaaaDoor.G
