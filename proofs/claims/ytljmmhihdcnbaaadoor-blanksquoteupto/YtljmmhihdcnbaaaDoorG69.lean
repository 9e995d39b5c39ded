-- Written for this claim by hybrid.py's copy of the print program (a program of this session); not trusted: Lean checks it.
import Derived.Test.YtljmmhihdcnbaaaDoorG0
namespace Go.Proofs.YtljmmhihdcnbaaaDoor.G
open Go.RowKit Go.Proofs.YtljmmhihdcnbaaaDoorW.PrintWords Go.Proofs.YtljmmhihdcnbaaaDoorW.PrintLast Go.Proofs.YtljmmhihdcnbaaaDoorW.PrintMore
attribute [local go_sem] max2_int min2_int max_two min_two max_three min_three max_four min_four   -- for this text's walks alone
set_option linter.unusedVariables false
set_option linter.unusedSimpArgs false

/-! ### attrs_place: function 64 -/
/-- Where the first of these stands that has this text; -1: none has. -/
def attrAt (a1 : ByteArray) (l : List (S32)) : Int := match l.findIdx? (fun x => x.f0.f0.toList == a1.toList) with
  | some i => (i : Int)
  | none => -1
theorem attrAt_none {a1 : ByteArray} {l : List (S32)} (h : ∀ i (hi : i < l.length), (l[i].f0.f0.toList == a1.toList) = false) : attrAt a1 l = -1 := by
  unfold attrAt
  rw [List.findIdx?_eq_none_iff.2 (fun x hx => by
    obtain ⟨i, hi, rfl⟩ := List.getElem_of_mem hx
    exact h i hi)]
theorem attrAt_some {a1 : ByteArray} {l : List (S32)} {j : Nat} (hj : j < l.length) (h : ∀ i (hi : i < j), (l[i].f0.f0.toList == a1.toList) = false) (he : (l[j].f0.f0.toList == a1.toList) = true) : attrAt a1 l = (j : Int) := by
  unfold attrAt
  rw [List.findIdx?_eq_some_iff_getElem.2 ⟨hj, he, fun i hi => by simpa using h i hi⟩]
set_option maxHeartbeats 1600000 in
set_option maxRecDepth 100000 in
theorem attr_yes (x : S32) (A1 : Option Addr) (c1 : Nat) (A3 : Option Addr) (c3 : Nat) (a1 : ByteArray) (g : Nat) (w : World) (hg : w.cell? ⟨g, 0, none⟩ = some (.string a1)) :
    Calls Tryd.prog 86 #[.agg #[.string x.f0.f0, .slice A1 x.f0.f1.length c1, .string x.f1.f0, .slice A3 x.f1.f1.length c3], .pointer (some ⟨g, 0, none⟩)] w fun e w' => e = .returned (.bool (x.f0.f0.toList == a1.toList)) ∧ Below w.heap.size w w' := by
  have hu24 := Tryd.underlying24
  have hu45 := Tryd.underlying32
  have hlt := World.block_lt_of_cell? w _ hg
  have hg' : (w.alloc (.cells #[.string x.f0.f0, .slice A1 x.f0.f1.length c1, .string x.f1.f0, .slice A3 x.f1.f1.length c3] 32)).cell? ⟨g, 0, none⟩ = some (.string a1) := (World.cell?_alloc_lt w _ _ hlt).trans hg
  clear hg hlt
  go_enter Tryd.func86, Tryd.ntmps86
  go_wp2
  go_ret
  exact ⟨rfl, (Below.refl _ _).alloc (Nat.le_refl _) _⟩
set_option maxHeartbeats 3200000 in
set_option maxRecDepth 100000 in
theorem attr_idx (A0 : Option Addr) (c0 : Nat) (l0 : List (S32)) (a1 : ByteArray) (g : Nat) (w : World) (hr0 : Kd.C k32 w A0 l0.length l0) (hc0 : l0.length ≤ c0) (hlen : l0.length ≤ 140737488355328) (hg : w.cell? ⟨g, 0, none⟩ = some (.string a1)) :
    Calls Tryd.prog 76 #[.slice A0 l0.length c0, .func (Fn.func 86) #[] #[.pointer (some ⟨g, 0, none⟩)]] w fun e w' => e = .returned (.int .i64 (attrAt a1 l0)) ∧ Below w.heap.size w w' := by
  have hu24 := Tryd.underlying24
  have hu45 := Tryd.underlying32
  have HR := Aside0.mk hr0
  have HG := Aside0.mk hg
  have HC := Aside0.mk hc0
  clear hr0 hg hc0
  go_enter Tryd.func76, Tryd.ntmps76
  go_wp2
  go_loopw [8] (fun i wr => ∃ j : Nat, i = .int .i64 j ∧ Aside0 (j ≤ l0.length ∧ (∀ i (hi : i < j) (hi' : i < l0.length), (l0[i].f0.f0.toList == a1.toList) = false) ∧ Below w.heap.size w wr)) (fun i _ => l0.length - (intOf i).toNat)
  case atStart => exact ⟨0, rfl, ⟨Nat.zero_le _, fun i hi => absurd hi (by omega), Below.refl _ _⟩⟩
  case round =>
    obtain ⟨j, rfl, HJ⟩ := hrel
    have hj : j ≤ l0.length := HJ.out.1
    have HB := Aside0.mk HJ.out.2.2
    by_cases hlt : j < l0.length
    · obtain ⟨ad, A1, c1, A3, c3, rfl, hx0, hx1, hx2, hx3, hrest⟩ := at_T32 (Kd.C_below HR.out HB.out) (j : Int) (by omega) (by omega)
      clear hrest
      rw [show rd_T32 l0 (j : Int) = l0[j] from by simp [rd_T32, hlt]] at hx0 hx1 hx2 hx3
      rw [Int.toNat_natCast] at hx0 hx1 hx2 hx3
      have hgw : wr.cell? ⟨g, 0, none⟩ = some (.string a1) := (HB.out.cell (World.block_lt_of_cell? w _ HG.out)).trans HG.out
      cases hp : (l0[j].f0.f0.toList == a1.toList) with
      | true =>
        have HP := Aside0.mk hp
        have HW := Aside0.mk hgw
        clear hp hgw
        go_wp2_with (go_at_call 86; refine (attr_yes l0[j] A1 c1 A3 c3 a1 g _ HW.out).mono ?_; rw [HP.out]; rintro e w' ⟨rfl, hb⟩; have HB2 := Aside0.mk (below_step HB.out hb); clear hb)
        go_ret
        exact ⟨by rw [attrAt_some hlt (fun i hi => HJ.out.2.1 i hi (by omega)) HP.out]; rfl, (by assumption : Aside0 (Below w.heap.size w _)).out⟩
      | false =>
        have HP := Aside0.mk hp
        have HW := Aside0.mk hgw
        clear hp hgw
        go_wp2_with (go_at_call 86; refine (attr_yes l0[j] A1 c1 A3 c3 a1 g _ HW.out).mono ?_; rw [HP.out]; rintro e w' ⟨rfl, hb⟩; have HB2 := Aside0.mk (below_step HB.out hb); clear hb)
        go_roundw
        case rel =>
          refine ⟨j + 1, by go_num, ⟨by omega, fun i hi hi' => ?_, (by assumption : Aside0 (Below w.heap.size w _)).out⟩⟩
          rcases Nat.lt_or_ge i j with h1 | h1
          · exact HJ.out.2.1 i h1 hi'
          · obtain rfl : i = j := by omega
            exact HP.out
        case measure => simp [intOf]; omega
    · obtain rfl : j = l0.length := by omega
      go_wp2_with fail
      go_ret
      exact ⟨by rw [attrAt_none (fun i hi => HJ.out.2.1 i hi hi)]; rfl, HB.out⟩
def attrs_place.f (l0 : List (S32)) (a1 : ByteArray) : Option Int := if l0.length ≤ 140737488355328 then some (attrAt a1 l0) else none
set_option maxHeartbeats 1600000 in
set_option maxRecDepth 100000 in
theorem attrs_place.calls (A0 : Option Addr) (c0 : Nat) (l0 : List (S32)) (a1 : ByteArray) (r : Int) (w : World) (hr0 : Kd.C k32 w A0 l0.length l0) (hc0 : l0.length ≤ c0) (h : attrs_place.f l0 a1 = some r) :
    Calls Tryd.prog 64 #[.slice A0 l0.length c0, .string a1] w fun e w' => e = .returned (.int .i64 r) ∧ Below w.heap.size w w' := by
  unfold attrs_place.f at h
  split at h
  case isFalse => exact absurd h (by simp)
  rename_i hlen
  obtain rfl := Option.some.inj h
  have HB : Aside0 (Below w.heap.size w (w.alloc (.cells #[.string a1] 9))) := ⟨(Below.refl _ _).alloc (Nat.le_refl _) _⟩
  have HR := Aside0.mk (Kd.C_below hr0 HB.out)
  have HC := Aside0.mk hc0
  have HL := Aside0.mk hlen
  have HG : Aside0 ((w.alloc (.cells #[.string a1] 9)).cell? ⟨w.heap.size, 0, none⟩ = some (.string a1)) := ⟨blk_cell (blk_new w (.cells #[.string a1] 9)) 0⟩
  clear hr0 hc0 hlen
  go_enter Tryd.func64, Tryd.ntmps64
  go_wp2_with fail
  refine (attr_idx A0 c0 l0 a1 w.heap.size _ HR.out HC.out HL.out HG.out).mono ?_
  rintro e w' ⟨rfl, hb⟩
  have HB2 := Aside0.mk (below_step HB.out hb)
  clear hb
  go_wp2_with fail
  go_ret
  exact ⟨rfl, HB2.out⟩

end Go.Proofs.YtljmmhihdcnbaaaDoor.G
