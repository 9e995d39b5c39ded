-- Written for this claim by hybrid.py's copy of the print program (a program of this session); not trusted: Lean checks it.
import Derived.Test.YtljmmhihdcnbaaaDoorG0
import Derived.Test.YtljmmhihdcnbaaaDoorG50
namespace Go.Proofs.YtljmmhihdcnbaaaDoor.G
open Go.RowKit Go.Proofs.YtljmmhihdcnbaaaDoorW.PrintWords Go.Proofs.YtljmmhihdcnbaaaDoorW.PrintLast Go.Proofs.YtljmmhihdcnbaaaDoorW.PrintMore
attribute [local go_sem] max2_int min2_int max_two min_two max_three min_three max_four min_four   -- for this text's walks alone
set_option linter.unusedVariables false
set_option linter.unusedSimpArgs false

/-! ### attrs_Drop: function 29 -/
/-- Where the first of these stands that has this text; -1: none has. -/
def attrAt (a1 : ByteArray) (l : List (S32)) : Int := match l.findIdx? (fun x => x.f0.f0.toList == a1.toList) with
  | some i => (i : Int)
  | none => -1
theorem attrAt_none {a1 : ByteArray} {l : List (S32)} (h : ∀ i (hi : i < l.length), (l[i].f0.f0.toList == a1.toList) = false) : attrAt a1 l = -1 := by
  unfold attrAt
  rw [List.findIdx?_eq_none_iff.2 (fun x hx => by
    obtain ⟨i, hi, rfl⟩ := List.getElem_of_mem hx
    exact h i hi)]
theorem attrAt_some {a1 : ByteArray} {l : List (S32)} {j : Nat} (hj : j < l.length) (h : ∀ i (hi : i < j), (l[i].f0.f0.toList == a1.toList) = false) (he : (l[j].f0.f0.toList == a1.toList) = true) : attrAt a1 l = (j : Int) := by
  unfold attrAt
  rw [List.findIdx?_eq_some_iff_getElem.2 ⟨hj, he, fun i hi => by simpa using h i hi⟩]
set_option maxHeartbeats 1600000 in
set_option maxRecDepth 100000 in
theorem dropa_yes (x : S32) (A1 : Option Addr) (c1 : Nat) (A3 : Option Addr) (c3 : Nat) (a1 : ByteArray) (g : Nat) (w : World) (hg : w.cell? ⟨g, 0, none⟩ = some (.string a1)) :
    Calls Tryd.prog 56 #[.agg #[.string x.f0.f0, .slice A1 x.f0.f1.length c1, .string x.f1.f0, .slice A3 x.f1.f1.length c3], .pointer (some ⟨g, 0, none⟩)] w fun e w' => e = .returned (.bool (x.f0.f0.toList == a1.toList)) ∧ Below w.heap.size w w' := by
  have hu24 := Tryd.underlying24
  have hu32 := Tryd.underlying32
  have hlt := World.block_lt_of_cell? w _ hg
  have hg' : (w.alloc (.cells #[.string x.f0.f0, .slice A1 x.f0.f1.length c1, .string x.f1.f0, .slice A3 x.f1.f1.length c3] 32)).cell? ⟨g, 0, none⟩ = some (.string a1) := (World.cell?_alloc_lt w _ _ hlt).trans hg
  clear hg hlt
  go_enter Tryd.func56, Tryd.ntmps56
  go_wp2
  go_ret
  exact ⟨rfl, (Below.refl _ _).alloc (Nat.le_refl _) _⟩
set_option maxHeartbeats 3200000 in
set_option maxRecDepth 100000 in
theorem dropa_idx (A0 : Option Addr) (c0 : Nat) (l0 : List (S32)) (a1 : ByteArray) (g : Nat) (w : World) (hr0 : Kd.C k32 w A0 l0.length l0) (hc0 : l0.length ≤ c0) (hlen : l0.length ≤ 140737488355328) (hg : w.cell? ⟨g, 0, none⟩ = some (.string a1)) :
    Calls Tryd.prog 76 #[.slice A0 l0.length c0, .func (Fn.func 56) #[] #[.pointer (some ⟨g, 0, none⟩)]] w fun e w' => e = .returned (.int .i64 (attrAt a1 l0)) ∧ Below w.heap.size w w' := by
  have hu24 := Tryd.underlying24
  have hu32 := Tryd.underlying32
  have HR := Aside0.mk hr0
  have HG := Aside0.mk hg
  have HC := Aside0.mk hc0
  clear hr0 hg hc0
  go_enter Tryd.func76, Tryd.ntmps76
  go_wp2
  go_loopw [8] (fun i wr => ∃ j : Nat, i = .int .i64 j ∧ Aside0 (j ≤ l0.length ∧ (∀ i (hi : i < j) (hi' : i < l0.length), (l0[i].f0.f0.toList == a1.toList) = false) ∧ Below w.heap.size w wr)) (fun i _ => l0.length - (intOf i).toNat)
  case atStart => exact ⟨0, rfl, ⟨Nat.zero_le _, fun i hi => absurd hi (by omega), Below.refl _ _⟩⟩
  case round =>
    obtain ⟨j, rfl, HJ⟩ := hrel
    have hj : j ≤ l0.length := HJ.out.1
    have HB := Aside0.mk HJ.out.2.2
    by_cases hlt : j < l0.length
    · obtain ⟨ad, A1, c1, A3, c3, rfl, hx0, hx1, hx2, hx3, hrest⟩ := at_T32 (Kd.C_below HR.out HB.out) (j : Int) (by omega) (by omega)
      clear hrest
      rw [show rd_T32 l0 (j : Int) = l0[j] from by simp [rd_T32, hlt]] at hx0 hx1 hx2 hx3
      rw [Int.toNat_natCast] at hx0 hx1 hx2 hx3
      have hgw : wr.cell? ⟨g, 0, none⟩ = some (.string a1) := (HB.out.cell (World.block_lt_of_cell? w _ HG.out)).trans HG.out
      cases hp : (l0[j].f0.f0.toList == a1.toList) with
      | true =>
        have HP := Aside0.mk hp
        have HW := Aside0.mk hgw
        clear hp hgw
        go_wp2_with (go_at_call 56; refine (dropa_yes l0[j] A1 c1 A3 c3 a1 g _ HW.out).mono ?_; rw [HP.out]; rintro e w' ⟨rfl, hb⟩; have HB2 := Aside0.mk (below_step HB.out hb); clear hb)
        go_ret
        exact ⟨by rw [attrAt_some hlt (fun i hi => HJ.out.2.1 i hi (by omega)) HP.out]; rfl, (by assumption : Aside0 (Below w.heap.size w _)).out⟩
      | false =>
        have HP := Aside0.mk hp
        have HW := Aside0.mk hgw
        clear hp hgw
        go_wp2_with (go_at_call 56; refine (dropa_yes l0[j] A1 c1 A3 c3 a1 g _ HW.out).mono ?_; rw [HP.out]; rintro e w' ⟨rfl, hb⟩; have HB2 := Aside0.mk (below_step HB.out hb); clear hb)
        go_roundw
        case rel =>
          refine ⟨j + 1, by go_num, ⟨by omega, fun i hi hi' => ?_, (by assumption : Aside0 (Below w.heap.size w _)).out⟩⟩
          rcases Nat.lt_or_ge i j with h1 | h1
          · exact HJ.out.2.1 i h1 hi'
          · obtain rfl : i = j := by omega
            exact HP.out
        case measure => simp [intOf]; omega
    · obtain rfl : j = l0.length := by omega
      go_wp2_with fail
      go_ret
      exact ⟨by rw [attrAt_none (fun i hi => HJ.out.2.1 i hi hi)]; rfl, HB.out⟩
/-- What is known at the head of a round: the row's first i are those kept of the first j; from j on it is as it was. -/
structure DropInv (a1 : ByteArray) (gb c0 base : Nat) (ok : Nat → Prop) (l0 : List S32) (w wr : World) (i j : Nat) : Prop where
  ex : ∃ dk : List S32, dk.length = l0.length ∧ Kd.N k32 32 wr base ok (.slice (some ⟨gb, 0, none⟩) l0.length c0) dk ∧ dk.take i = (l0.take j).filter (fun x => !(x.f0.f0.toList == a1.toList)) ∧ dk.drop j = l0.drop j
  lt : i < j
  le : j ≤ l0.length
  grown : w.grownBy wr (some gb)
theorem grown_trans {w w1 w2 : World} {row : Option Nat} (h : w.grownBy w1 row) (k : w1.grownBy w2 row) : w.grownBy w2 row :=
  ⟨k.os.trans h.os, k.tape.trans h.tape, k.output.trans h.output, Nat.le_trans h.size k.size, fun i hi hr => (k.block i (Nat.lt_of_lt_of_le hi h.size) hr).trans (h.block i hi hr)⟩
theorem DropInv.start {a1 : ByteArray} {gb c0 base : Nat} {ok : Nat → Prop} {l0 : List S32} {w w1 : World} {k : Nat} (hN : Kd.N k32 32 w base ok (.slice (some ⟨gb, 0, none⟩) l0.length c0) l0) (hb : Below w.heap.size w w1) (hk : k < l0.length) (h : ∀ i (hi : i < k), (l0[i].f0.f0.toList == a1.toList) = false) (he : (l0[k].f0.f0.toList == a1.toList) = true) : DropInv a1 gb c0 base ok l0 w w1 k (k + 1) := by
  refine ⟨⟨l0, rfl, Kd.N_below hN hb, ?_, rfl⟩, by omega, by omega, grown_of_below hb _⟩
  rw [List.take_succ_eq_append_getElem hk, List.filter_append, List.filter_cons_of_neg (by simp only [he]; decide), List.filter_nil, List.append_nil]
  refine (List.filter_eq_self.2 fun x hx => ?_).symm
  obtain ⟨i, hi, rfl⟩ := List.getElem_of_mem hx
  rw [List.getElem_take, h i (by rw [List.length_take] at hi; omega)]
  rfl
theorem DropInv.skip {a1 : ByteArray} {gb c0 base : Nat} {ok : Nat → Prop} {l0 : List S32} {w wr w2 : World} {i j : Nat} (h : DropInv a1 gb c0 base ok l0 w wr i j) (hj : j < l0.length) (he : (l0[j].f0.f0.toList == a1.toList) = true) (hb : Below wr.heap.size wr w2) : DropInv a1 gb c0 base ok l0 w w2 i (j + 1) := by
  obtain ⟨⟨dk, h1, h2, h3, h4⟩, h5, h6, h7⟩ := h
  refine ⟨⟨dk, h1, Kd.N_below h2 hb, ?_, ?_⟩, by omega, by omega, grown_trans h7 (grown_of_below hb _)⟩
  · rw [List.take_succ_eq_append_getElem hj, List.filter_append, List.filter_cons_of_neg (by simp only [he]; decide), List.filter_nil, List.append_nil, h3]
  · rw [← List.drop_drop, h4, List.drop_drop]
theorem DropInv.elem {a1 : ByteArray} {gb c0 base : Nat} {ok : Nat → Prop} {l0 : List S32} {w wr : World} {i j : Nat} (h : DropInv a1 gb c0 base ok l0 w wr i j) (hj : j < l0.length) :
    ∃ A1 c1 A3 c3, wr.cell? ⟨gb, j * 4, none⟩ = some (.string l0[j].f0.f0) ∧ wr.cell? ⟨gb, j * 4 + 1, none⟩ = some (.slice A1 l0[j].f0.f1.length c1) ∧ wr.cell? ⟨gb, j * 4 + 2, none⟩ = some (.string l0[j].f1.f0) ∧ wr.cell? ⟨gb, j * 4 + 3, none⟩ = some (.slice A3 l0[j].f1.f1.length c3) ∧ Kd.FK k32 wr (fun k => ok k ∧ k ≠ gb) l0[j] [.string l0[j].f0.f0, .slice A1 l0[j].f0.f1.length c1, .string l0[j].f1.f0, .slice A3 l0[j].f1.f1.length c3] := by
  obtain ⟨⟨dk, h1, h2, h3, h4⟩, h5, h6, h7⟩ := h
  obtain ⟨c, hcl, hF, hcc, hfr⟩ := Kd.N_elem h2 z32 (j : Int) (by omega) (by omega)
  rw [Int.toNat_natCast] at hF hcc
  have e : dk.getD j z32 = l0[j] := by
    have h8 : (dk.drop j)[0]? = (l0.drop j)[0]? := by rw [h4]
    rw [List.getElem?_drop, List.getElem?_drop, Nat.add_zero, List.getElem?_eq_getElem hj] at h8
    rw [List.getD_eq_getElem?_getD, h8]
    rfl
  rw [e] at hF
  obtain ⟨A1, c1, A3, c3, rfl, h8, h9, h10, h11⟩ := k32_openF hF
  exact ⟨A1, c1, A3, c3, hcc 0 _ rfl, hcc 1 _ rfl, hcc 2 _ rfl, hcc 3 _ rfl, hF⟩
theorem DropInv.cells {a1 : ByteArray} {gb c0 base : Nat} {ok : Nat → Prop} {l0 : List S32} {w wr : World} {i j : Nat} (h : DropInv a1 gb c0 base ok l0 w wr i j) (t : Nat) (ht : t < l0.length) :
    ∃ u0 u1 u2 u3, wr.cell? ⟨gb, t * 4, none⟩ = some u0 ∧ wr.cell? ⟨gb, t * 4 + 1, none⟩ = some u1 ∧ wr.cell? ⟨gb, t * 4 + 2, none⟩ = some u2 ∧ wr.cell? ⟨gb, t * 4 + 3, none⟩ = some u3 ∧ wr.frozen? ⟨gb, t * 4, none⟩ = false ∧ wr.frozen? ⟨gb, t * 4 + 1, none⟩ = false ∧ wr.frozen? ⟨gb, t * 4 + 2, none⟩ = false ∧ wr.frozen? ⟨gb, t * 4 + 3, none⟩ = false := by
  obtain ⟨⟨dk, h1, h2, h3, h4⟩, h5, h6, h7⟩ := h
  obtain ⟨c, hcl, hF, hcc, hfr⟩ := Kd.N_elem h2 z32 (t : Int) (by omega) (by omega)
  rw [Int.toNat_natCast] at hF hcc hfr
  obtain ⟨A1, c1, A3, c3, rfl, h8, h9, h10, h11⟩ := k32_openF hF
  exact ⟨_, _, _, _, hcc 0 _ rfl, hcc 1 _ rfl, hcc 2 _ rfl, hcc 3 _ rfl, hfr 0, hfr 1, hfr 2, hfr 3⟩
theorem DropInv.keep {a1 : ByteArray} {gb c0 base : Nat} {ok : Nat → Prop} {l0 : List S32} {w wr w2 : World} {i j : Nat} {u0 u1 u2 u3 : Value} (h : DropInv a1 gb c0 base ok l0 w wr i j) (hj : j < l0.length) (he : (l0[j].f0.f0.toList == a1.toList) = false) (hb : Below wr.heap.size wr w2) (hF : Kd.FK k32 wr (fun k => ok k ∧ k ≠ gb) l0[j] [u0, u1, u2, u3]) :
    DropInv a1 gb c0 base ok l0 w ((((w2.setCell ⟨gb, i * 4, none⟩ u0).setCell ⟨gb, i * 4 + 1, none⟩ u1).setCell ⟨gb, i * 4 + 2, none⟩ u2).setCell ⟨gb, i * 4 + 3, none⟩ u3) (i + 1) (j + 1) := by
  obtain ⟨⟨dk, h1, h2, h3, h4⟩, h5, h6, h7⟩ := h
  have h2' := Kd.N_below h2 hb
  obtain ⟨c, hcl, hF', hcc, hfr⟩ := Kd.N_elem h2' z32 (i : Int) (by omega) (by omega)
  have hF2 : Kd.FK k32 w2 (fun k => (ok k ∧ k ≠ gb) ∧ k < wr.heap.size) l0[j] [u0, u1, u2, u3] := Kd.FK_step (Kd.FK_bound hF) (fun k _ hlt => hb.block k hlt)
  obtain ⟨hn, hg⟩ := Kd.N_seg h2' (i : Int) (by omega) (by omega) hcl hcc (seg := [u0, u1, u2, u3]) (j := 0) (x' := l0[j]) (okp := fun k => (ok k ∧ k ≠ gb) ∧ k < wr.heap.size) (by show 0 + 4 ≤ 4; omega) (by
    rw [List.take_zero, List.nil_append, List.drop_eq_nil_of_le (by rw [hcl]; show 4 ≤ 0 + 4; omega), List.append_nil]
    exact hF2) (fun k hk => hk.1)
  rw [Int.toNat_natCast] at hn hg
  refine ⟨⟨dk.set i l0[j], by rw [List.length_set, h1], hn, ?_, ?_⟩, by omega, by omega, grown_trans (grown_trans h7 (grown_of_below hb _)) hg⟩
  · rw [List.take_succ_eq_append_getElem (by rw [List.length_set]; omega), List.getElem_set_self, List.take_set_of_le (Nat.le_refl _), h3, List.take_succ_eq_append_getElem hj, List.filter_append, List.filter_cons_of_pos (by rw [he]; rfl), List.filter_nil]
  · rw [List.drop_set_of_lt (by omega), ← List.drop_drop, h4, List.drop_drop]
/-- Cells behind the row's end are written. -/
theorem N_tail {α : Type} {d : Kd α} {e base n cap g : Nat} {ok : Nat → Prop} {w : World} {xs : List α} (h : Kd.N d e w base ok (.slice (some ⟨g, 0, none⟩) n cap) xs) (o : Nat) (vs : List Value) (ho : n * d.sz ≤ o) (hl : o + vs.length ≤ cap * d.sz) :
    Kd.N d e (w.setCells g o vs) base ok (.slice (some ⟨g, 0, none⟩) n cap) xs ∧ w.grownBy (w.setCells g o vs) (some g) := by
  obtain ⟨h0, rows, hlr, ⟨hok, inner, ⟨ho1, ho2⟩, hreps⟩, hf⟩ := h
  rcases ho2 with ⟨hv, _⟩ | ⟨g', cap', cur, hv, hbg, hg, hnc, hcm, hcs, ht⟩
  · cases hv
  injection hv with hA hn hc
  injection hA with hA
  injection hA with hA
  subst hA hc
  have hcs' : cur.size = cap * d.sz := hcs
  obtain ⟨cur', h3, h4, h5⟩ := setCells_row (e := e) vs o w cur hg (by omega)
  obtain ⟨s1, s2, s3, s4⟩ := setCells_same g vs o w
  have hgr : w.grownBy (w.setCells g o vs) (some g) := ⟨s1, s2, s3, by rw [s4]; exact Nat.le_refl _, fun k _ hk => setCells_far vs _ k (fun he => hk (by rw [he]))⟩
  refine ⟨⟨h0, rows, hlr, ⟨hok, inner, ⟨ho1, .inr ⟨g, cap, cur', by rw [hn], hbg, h3, hnc, hcm, by rw [h4]; exact hcs, ?_⟩⟩, hreps⟩, fun j x c hx hc => Kd.FK_step (hf j x c hx hc) (fun k hk hlt => hgr.block k hlt (fun he => hk.2 (by rw [he]; rfl)))⟩, hgr⟩
  rw [← ht, h5]
  have ho' : rows.length * d.sz ≤ o := by rw [← hn]; exact ho
  show List.take (rows.length * d.sz) _ = List.take (rows.length * d.sz) _
  rw [List.append_assoc, List.take_append_of_le_length (by have hz : cur.toList.length = cur.size := Array.length_toList; rw [List.length_take]; omega), List.take_take, Nat.min_eq_left ho']
theorem DropInv.done {a1 : ByteArray} {gb c0 base : Nat} {ok : Nat → Prop} {l0 : List S32} {w wr : World} {i : Nat} (h : DropInv a1 gb c0 base ok l0 w wr i l0.length) (vs : List Value) (hl : i * 4 + vs.length ≤ c0 * 4) :
    Kd.N k32 32 (wr.setCells gb (i * 4) vs) base ok (.slice (some ⟨gb, 0, none⟩) i c0) (l0.filter fun x => !(x.f0.f0.toList == a1.toList)) ∧ w.grownBy (wr.setCells gb (i * 4) vs) (some gb) := by
  obtain ⟨⟨dk, h1, h2, h3, h4⟩, h5, h6, h7⟩ := h
  have h8 := Kd.N_take h2 (m := i) (by omega)
  rw [h3, List.take_length] at h8
  obtain ⟨h9, h10⟩ := N_tail h8 (i * 4) vs (Nat.le_refl _) hl
  exact ⟨h9, grown_trans h7 h10⟩
theorem run_clear32 (w : World) (b o n c : Nat) (ty : TypeId) (hn : 0 < n) (hc : ∀ j, j < n * 4 → (w.cell? ⟨b, o + j, none⟩).isSome = true) (hf : ∀ j, j < n * 4 → w.frozen? ⟨b, o + j, none⟩ = false) :
    (Builtin.clear_ #[28] ty #[.slice (some ⟨b, o, none⟩) n c]).run Tryd.prog w = .ok (.tuple #[]) (w.setCells b o (Builtin.zeroCells #[.string ⟨#[]⟩, .slice none 0 0, .string ⟨#[]⟩, .slice none 0 0] n).toList) := by
  have hv : ∀ w, (zeroValue 32).run Tryd.prog w = .ok (.agg #[.string ⟨#[]⟩, .slice none 0 0, .string ⟨#[]⟩, .slice none 0 0]) w := fun w => by kernel_rfl
  have hl : (Builtin.zeroCells #[.string ⟨#[]⟩, .slice none 0 0, .string ⟨#[]⟩, .slice none 0 0] n).toList.length = n * 4 := by simp [Builtin.zeroCells]
  have hst := run_storeCells_cells (P := Tryd.prog) b o (Builtin.zeroCells #[.string ⟨#[]⟩, .slice none 0 0, .string ⟨#[]⟩, .slice none 0 0] n).toList 0 w (by rw [hl]; simpa using hc) (by rw [hl]; simpa using hf) (by
    intro u hu
    simp [Builtin.zeroCells] at hu
    obtain ⟨i, hi, rfl⟩ := hu
    have : i % 4 = 0 ∨ i % 4 = 1 ∨ i % 4 = 2 ∨ i % 4 = 3 := by omega
    rcases this with e | e | e | e <;> rw [e] <;> rfl)
  simp only [Nat.add_zero] at hst
  obtain ⟨m, rfl⟩ : ∃ m, n = m + 1 := ⟨n - 1, by omega⟩
  have hz : (Value.agg #[.string ⟨#[]⟩, .slice none 0 0, .string ⟨#[]⟩, .slice none 0 0]).cells = #[.string ⟨#[]⟩, .slice none 0 0, .string ⟨#[]⟩, .slice none 0 0] := rfl
  simp [Builtin.clear_, run_underlying Tryd.underlying28, hv, hz, hst]
set_option maxHeartbeats 6400000 in
set_option maxRecDepth 100000 in
theorem dropa_del (A0 : Option Addr) (c0 : Nat) (l0 : List S32) (a1 : ByteArray) (g base : Nat) (ok : Nat → Prop) (w : World) (hr : Kd.N k32 32 w base ok (.slice A0 l0.length c0) l0) (hlen : l0.length ≤ 140737488355328) (hg : w.heap[g]? = some (.cells #[.string a1] 9 (0, 0))) :
    Calls Tryd.prog 54 #[.slice A0 l0.length c0, .func (Fn.func 56) #[] #[.pointer (some ⟨g, 0, none⟩)]] w fun e w' => ∃ v : Value, e = .returned v ∧ Kd.N k32 32 w' base ok v (l0.filter fun x => !(x.f0.f0.toList == a1.toList)) ∧ w.grownBy w' (Value.slice A0 l0.length c0).ownBlock := by
  have hu24 := Tryd.underlying24
  have hu32 := Tryd.underlying32
  have hu28 := Tryd.underlying28
  have hC := Kd.N_reads' hr
  have hcg : w.cell? ⟨g, 0, none⟩ = some (.string a1) := blk_cell hg 0
  have HX := Aside0.mk (dropa_idx A0 c0 l0 a1 g w hC.2.2 hC.2.1 hlen hcg)
  have HN := Aside0.mk hr
  have HG := Aside0.mk hg
  rcases Nat.lt_or_ge (l0.findIdx fun x => x.f0.f0.toList == a1.toList) l0.length with hk | hk
  · obtain ⟨k, HK⟩ : ∃ k, Aside0 (l0.findIdx (fun x => x.f0.f0.toList == a1.toList) = k) := ⟨_, ⟨rfl⟩⟩
    rw [HK.out] at hk
    have he : (l0[k].f0.f0.toList == a1.toList) = true := by
      have := List.findIdx_getElem (p := fun x : S32 => x.f0.f0.toList == a1.toList) (w := by rw [HK.out]; exact hk)
      simpa only [HK.out] using this
    have hno : ∀ i (hi : i < k), (l0[i].f0.f0.toList == a1.toList) = false := fun i hi => by
      have := List.not_of_lt_findIdx (p := fun x : S32 => x.f0.f0.toList == a1.toList) (xs := l0) (i := i) (by rw [HK.out]; exact hi)
      simpa using this
    have HX2 := Aside0.mk (show attrAt a1 l0 = (k : Int) from attrAt_some hk hno he)
    obtain ⟨gb, c, e1, hb1, hb2, cells, hbc⟩ := Kd.N_form hr (by omega)
    injection e1 with e2 _ e3
    subst e2 e3
    have hgne : g ≠ gb := fun e => by
      rw [e, hbc] at hg
      injection hg with hg
      injection hg with _ hg
      cases hg
    have HS : ∀ w1, Below w.heap.size w w1 → DropInv a1 gb c0 base ok l0 w w1 k (k + 1) := fun w1 hb => DropInv.start hr hb hk hno he
    have HS' := Aside0.mk HS
    have hnc : l0.length ≤ c0 := hC.2.1
    have hne1 : ((k : Int) == -1) = false := beq_eq_false_iff_ne.2 (by omega)
    have HL := Aside0.mk hbc
    clear hr hg hC hcg HK he hno hbc HS hb1
    go_enter Tryd.func54, Tryd.ntmps54
    go_wp2_with (go_at_call 76; refine HX.out.mono ?_; rw [HX2.out]; rintro e w' ⟨rfl, hb⟩; have HI0 := Aside0.mk (HS'.out _ hb); clear hb)
    go_loopg [5, 6, 7] l0.length (fun gg s5 s6 _ wr => ∃ i j : Nat, s5 = .int .i64 i ∧ s6 = .int .i64 j ∧ j ≤ l0.length ∧ l0.length - j ≤ gg ∧ Aside0 (DropInv a1 gb c0 base ok l0 w wr i j))
    case atStart => exact ⟨k, k + 1, rfl, by go_num, by omega, by omega, HI0⟩
    case round =>
      obtain ⟨i, j, rfl, rfl, hjn, hgg, HI⟩ := hrel
      clear HI0
      have hij := HI.out.lt
      by_cases hlt : j < l0.length
      · obtain ⟨A1, c1, A3, c3, hx0, hx1, hx2, hx3, hF⟩ := HI.out.elem hlt
        obtain ⟨u0, u1, u2, u3, ci0, ci1, ci2, ci3, fi0, fi1, fi2, fi3⟩ := HI.out.cells i (by omega)
        have HF := Aside0.mk hF
        have hltz : (j : Int) < (l0.length : Int) := by omega
        have hgr : wr.heap[g]? = some (.cells #[.string a1] 9 (0, 0)) := (HI.out.grown.block g (blk_lt HG.out) (by simpa using hgne)).trans HG.out
        have HGR := Aside0.mk hgr
        have HC0 := Aside0.mk ci0
        have HC1 := Aside0.mk ci1
        have HC2 := Aside0.mk ci2
        have HC3 := Aside0.mk ci3
        have HF0 := Aside0.mk fi0
        have HF1 := Aside0.mk fi1
        have HF2 := Aside0.mk fi2
        have HF3 := Aside0.mk fi3
        clear hF hgr ci0 ci1 ci2 ci3 fi0 fi1 fi2 fi3
        cases hp : (l0[j].f0.f0.toList == a1.toList) with
        | true =>
          have HP := Aside0.mk hp
          clear hp
          go_wp2_with (go_at_call 56; refine (dropa_yes l0[j] A1 c1 A3 c3 a1 g _ (blk_cell (blk_alloc HGR.out _) 0)).mono ?_; rw [HP.out]; rintro e w' ⟨rfl, hb⟩; have HI2 := Aside0.mk (HI.out.skip hlt HP.out (below_step ((Below.refl _ _).alloc (Nat.le_refl _) _) hb)); clear hb)
          go_roundg (l0.length - (j + 1))
          case measure => omega
          case rel => exact ⟨i, j + 1, rfl, by go_num, by omega, Nat.le_refl _, (by assumption : Aside0 (DropInv a1 gb c0 base ok l0 w _ i (j + 1)))⟩
        | false =>
          have HP := Aside0.mk hp
          clear hp
          go_wp2_with (go_at_call 56; refine (dropa_yes l0[j] A1 c1 A3 c3 a1 g _ (blk_cell (blk_alloc HGR.out _) 0)).mono ?_; rw [HP.out]; rintro e w' ⟨rfl, hb⟩; have HB2 := Aside0.mk (below_step ((Below.refl wr.heap.size wr).alloc (Nat.le_refl _) _) hb); have hz0 := blk_cell (blk_below (blk_new wr _) hb) 0; have hz1 := blk_cell (blk_below (blk_new wr _) hb) 1; have hz2 := blk_cell (blk_below (blk_new wr _) hb) 2; have hz3 := blk_cell (blk_below (blk_new wr _) hb) 3; have hi0 := (HB2.out.cell (World.block_lt_of_cell? wr _ HC0.out)).trans HC0.out; have hf0 := (HB2.out.frozen (World.block_lt_of_cell? wr _ HC0.out)).trans HF0.out; have hi1 := (HB2.out.cell (World.block_lt_of_cell? wr _ HC1.out)).trans HC1.out; have hf1 := (HB2.out.frozen (World.block_lt_of_cell? wr _ HC1.out)).trans HF1.out; have hi2 := (HB2.out.cell (World.block_lt_of_cell? wr _ HC2.out)).trans HC2.out; have hf2 := (HB2.out.frozen (World.block_lt_of_cell? wr _ HC2.out)).trans HF2.out; have hi3 := (HB2.out.cell (World.block_lt_of_cell? wr _ HC3.out)).trans HC3.out; have hf3 := (HB2.out.frozen (World.block_lt_of_cell? wr _ HC3.out)).trans HF3.out; have HI2 := Aside0.mk (HI.out.keep hlt HP.out HB2.out HF.out); clear hb)
          go_roundg (l0.length - (j + 1))
          case measure => omega
          case rel => exact ⟨i + 1, j + 1, by go_num, by go_num, by omega, Nat.le_refl _, (by assumption : Aside0 (DropInv a1 gb c0 base ok l0 w _ (i + 1) (j + 1)))⟩
      · obtain rfl : j = l0.length := by omega
        have hltz : ¬ (l0.length : Int) < (l0.length : Int) := by omega
        have hlen0 : i < l0.length := hij
        have hcl : ∀ ty, (Builtin.clear_ #[28] ty #[.slice (some ⟨gb, i * 4, none⟩) (l0.length - i) (c0 - i)]).run Tryd.prog wr = .ok (.tuple #[]) (wr.setCells gb (i * 4) (Builtin.zeroCells #[.string ⟨#[]⟩, .slice none 0 0, .string ⟨#[]⟩, .slice none 0 0] (l0.length - i)).toList) := fun ty => by
          refine run_clear32 wr gb (i * 4) _ _ ty (by omega) (fun t ht => ?_) (fun t ht => ?_)
          · obtain ⟨u0, u1, u2, u3, q0, q1, q2, q3, r0, r1, r2, r3⟩ := HI.out.cells (i + t / 4) (by omega)
            have hm : t % 4 = 0 ∨ t % 4 = 1 ∨ t % 4 = 2 ∨ t % 4 = 3 := by omega
            rcases hm with e | e | e | e
            · rw [show i * 4 + t = (i + t / 4) * 4 by omega, q0]; rfl
            · rw [show i * 4 + t = (i + t / 4) * 4 + 1 by omega, q1]; rfl
            · rw [show i * 4 + t = (i + t / 4) * 4 + 2 by omega, q2]; rfl
            · rw [show i * 4 + t = (i + t / 4) * 4 + 3 by omega, q3]; rfl
          · obtain ⟨u0, u1, u2, u3, q0, q1, q2, q3, r0, r1, r2, r3⟩ := HI.out.cells (i + t / 4) (by omega)
            have hm : t % 4 = 0 ∨ t % 4 = 1 ∨ t % 4 = 2 ∨ t % 4 = 3 := by omega
            rcases hm with e | e | e | e
            · rw [show i * 4 + t = (i + t / 4) * 4 by omega, r0]
            · rw [show i * 4 + t = (i + t / 4) * 4 + 1 by omega, r1]
            · rw [show i * 4 + t = (i + t / 4) * 4 + 2 by omega, r2]
            · rw [show i * 4 + t = (i + t / 4) * 4 + 3 by omega, r3]
        have hfin := HI.out.done (Builtin.zeroCells #[.string ⟨#[]⟩, .slice none 0 0, .string ⟨#[]⟩, .slice none 0 0] (l0.length - i)).toList (by
          rw [show (Builtin.zeroCells #[.string ⟨#[]⟩, .slice none 0 0, .string ⟨#[]⟩, .slice none 0 0] (l0.length - i)).toList.length = (l0.length - i) * 4 from by simp [Builtin.zeroCells]]
          omega)
        have HF := Aside0.mk hfin
        clear hfin
        go_wp2_with fail
        go_ret
        exact ⟨_, rfl, HF.out.1, HF.out.2⟩
  · have hno : ∀ i (hi : i < l0.length), (l0[i].f0.f0.toList == a1.toList) = false := fun i hi => by
      have := List.not_of_lt_findIdx (p := fun x : S32 => x.f0.f0.toList == a1.toList) (xs := l0) (i := i) (by omega)
      simpa using this
    have HX2 := Aside0.mk (show attrAt a1 l0 = -1 from attrAt_none hno)
    have hfil : (l0.filter fun x => !(x.f0.f0.toList == a1.toList)) = l0 := List.filter_eq_self.2 (fun x hx => by
      obtain ⟨i, hi, rfl⟩ := List.getElem_of_mem hx
      rw [hno i hi]
      rfl)
    rw [hfil]
    clear hr hg hC hcg hno hfil hk
    go_enter Tryd.func54, Tryd.ntmps54
    go_wp2_with (go_at_call 76; refine HX.out.mono ?_; rw [HX2.out]; rintro e w' ⟨rfl, hb⟩; have HI0 := Aside0.mk (Kd.N_below HN.out hb); have HI1 := Aside0.mk (grown_of_below hb (Value.slice A0 l0.length c0).ownBlock); clear hb)
    go_ret
    exact ⟨_, rfl, HI0.out, HI1.out⟩
def attrs_Drop.f (k : Nat) (l0 : List (S32)) (a1 : ByteArray) : Option (List (S32)) := (attrs_all.f k l0).bind fun ws => if ws.length ≤ 140737488355328 then some (ws.filter fun x => !(x.f0.f0.toList == a1.toList)) else none
theorem attrs_Drop.mono : ∀ a0 a1 k, LeO (attrs_Drop.f k a0 a1) (attrs_Drop.f (k + 1) a0 a1) := fun _ _ _ => LeO.bind (attrs_all.mono _ _) fun _ => LeO.ite (LeO.refl _) (LeO.none _)
set_option maxHeartbeats 1600000 in
set_option maxRecDepth 100000 in
theorem attrs_Drop.calls (k : Nat) (A0 : Option Addr) (c0 : Nat) (l0 : List (S32)) (a1 : ByteArray) (r : List (S32)) (w : World) (hr0 : Kd.C k32 w A0 l0.length l0) (hc0 : l0.length ≤ c0) (h : attrs_Drop.f k l0 a1 = some r) :
    Calls Tryd.prog 29 #[.slice A0 l0.length c0, .string a1] w fun e w' => ∃ v0_ : Value, e = .returned (v0_) ∧ Kd.N k32 32 w' w.heap.size (fun k_ => (w.heap.size ≤ k_)) v0_ r ∧ Below w.heap.size w w' := by
  unfold attrs_Drop.f at h
  obtain ⟨ws, h1, h2⟩ := Option.bind_eq_some_iff.mp h
  split at h2
  case isFalse => exact absurd h2 (by simp)
  rename_i hws
  obtain rfl := Option.some.inj h2
  have HW := Aside0.mk h1
  have HC := Aside0.mk hc0
  have HL := Aside0.mk hws
  obtain ⟨W0, HW0⟩ : ∃ W0 : World, W0 = w.alloc (.cells #[.string a1] 9) := ⟨_, rfl⟩
  have HB : Aside0 (Below w.heap.size w W0) := ⟨by rw [HW0]; exact below_alloc (Below.refl _ _) _⟩
  have HB1 : Aside0 (W0.heap[w.heap.size]? = some (.cells #[.string a1] 9 (0, 0))) := ⟨by rw [HW0]; exact blk_new _ _⟩
  have HR := Aside0.mk (Kd.C_below hr0 HB.out)
  have HW0' := Aside0.mk HW0
  clear h h1 h2 hr0 hc0 hws HW0
  go_enter Tryd.func29, Tryd.ntmps29
  go_wp2_with fail
  rw [← HW0'.out]
  clear HW0'
  refine (attrs_all.calls k _ _ l0 ws _ HR.out HC.out HW.out).mono ?_
  rintro e w1 ⟨v, rfl, hS, hb⟩
  have hN0 : Kd.N k32 32 w1 w.heap.size (fun k_ => w.heap.size ≤ k_) v ws := Kd.R_N (Kd.R_mono (Kd.R_bound (Kd.R_lower (Kd.S_R hS) HB.out.size)) (fun k hk => hk.2.1))
  obtain ⟨A, c, e1⟩ := Kd.N_slice hN0
  subst e1
  have HN := Aside0.mk hN0
  have HB' := Aside0.mk (below_step HB.out hb)
  have HB1' := Aside0.mk (blk_below HB1.out hb)
  have HBa := Aside0.mk (Kd.R_base (Kd.S_R hS))
  have HZ := Aside0.mk HB.out.size
  clear hS hN0 hb HB HB1 HR
  go_wp2_with fail
  refine (dropa_del A c ws a1 _ _ _ _ HN.out HL.out HB1'.out).mono ?_
  rintro e w2 ⟨v, rfl, hN, hg⟩
  have hB2 : Below w.heap.size w w2 := by
    have h := HB'.out
    exact ⟨hg.os.trans h.os, hg.tape.trans h.tape, hg.output.trans h.output, Nat.le_trans h.size hg.size, fun i hi => (hg.block i (Nat.lt_of_lt_of_le hi h.size) (fun e => by have := HBa.out i e.symm; have := HZ.out; omega)).trans (h.block i hi)⟩
  have HB2 := Aside0.mk hB2
  have HN2 := Aside0.mk hN
  clear hN hg hB2 HB' HB1' HN HBa
  go_wp2_with fail
  go_ret
  exact ⟨_, rfl, HN2.out, HB2.out⟩

end Go.Proofs.YtljmmhihdcnbaaaDoor.G
