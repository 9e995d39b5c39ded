-- Written for this claim by hybrid.py's copy of the print program (a program of this session); not trusted: Lean checks it.
import Derived.Test.YtljmmhihdcnbaaaG0
import Derived.Test.YtljmmhihdcnbaaaG21
namespace Go.Proofs.Ytljmmhihdcnbaaa.G
open Go.RowKit Go.Proofs.YtljmmhihdcnbaaaW.PrintWords Go.Proofs.YtljmmhihdcnbaaaW.PrintLast Go.Proofs.YtljmmhihdcnbaaaW.PrintMore
attribute [local go_sem] max2_int min2_int max_two min_two max_three min_three max_four min_four   -- for this text's walks alone
set_option linter.unusedVariables false
set_option linter.unusedSimpArgs false

/-! ### seek_Span: function 83 -/
def seek_Span.l0 : Nat → ByteArray → Int → Int → ByteArray → List (S85) → Option (Int)
 | 0, _, _, _, _, _ => none
 | k + 1, x1, x8, x9, x1303000, x1303001 => if x9 < x8 then (if 0 ≤ x9 then (if x9 < (x1303000.size : Int) then ((strings_IndexByte.f x1 (bt x1303000 x9)).bind fun t1303 => (if t1303 < 0 then (some x9) else (seek_Span.l0 k x1 x8 (wrap64 (x9 + 1)) x1303000 x1303001))) else (none)) else (none)) else (some (x1303000.size : Int))
def seek_Span.f (k : Nat) (a0_0 : ByteArray) (l0_1 : List (S85)) (a1 : ByteArray) : Option (Int) := seek_Span.l0 k a1 (a0_0.size : Int) 0 a0_0 l0_1
theorem seek_Span.mono_l : ∀ k, (∀ y0 y1 y2 y3 y4, LeO (seek_Span.l0 k y0 y1 y2 y3 y4) (seek_Span.l0 (k + 1) y0 y1 y2 y3 y4))
 | 0 => fun _ _ _ _ _ r h => by simp [seek_Span.l0] at h
 | k + 1 => by
  have ih0 := seek_Span.mono_l k
  ·
   intro y0 y1 y2 y3 y4
   unfold seek_Span.l0
   repeat' first
   | (with_reducible exact ih0 _ _ _ _ _)
   | (with_reducible exact LeO.refl _)
   | (with_reducible exact LeO.none _)
   | (with_reducible refine LeO.ite ?_ ?_)
   | (with_reducible refine LeO.bind ?_ (fun _ => ?_))
   | exact ih0 _ _ _ _ _
   | exact LeO.none _
   | refine LeO.ite ?_ ?_
   | refine LeO.bind ?_ (fun _ => ?_)
theorem seek_Span.mono : ∀ a0 a1 a2 k, LeO (seek_Span.f k a0 a1 a2) (seek_Span.f (k + 1) a0 a1 a2) := by
 intro a0 a1 a2 k
 have ih0 := seek_Span.mono_l k
 unfold seek_Span.f
 repeat' first
   | (with_reducible exact ih0 _ _ _ _ _)
   | (with_reducible exact LeO.refl _)
   | (with_reducible exact LeO.none _)
   | (with_reducible refine LeO.ite ?_ ?_)
   | (with_reducible refine LeO.bind ?_ (fun _ => ?_))
   | exact ih0 _ _ _ _ _
   | exact LeO.none _
   | refine LeO.ite ?_ ?_
   | refine LeO.bind ?_ (fun _ => ?_)
set_option maxHeartbeats 8000000 in
set_option maxRecDepth 100000 in
theorem seek_Span.calls (k : Nat) (a0_0 : ByteArray) (A0_1 : Option Addr) (c0_1 : Nat) (l0_1 : List (S85)) (a1 : ByteArray) (r : Int) (w : World) (hr0_1 : Kd.C k85 w A0_1 l0_1.length l0_1) (hc0_1 : l0_1.length ≤ c0_1) (h : seek_Span.f k a0_0 l0_1 a1 = some r) :
  Calls Try.prog 83 #[.agg #[.string a0_0, .slice A0_1 l0_1.length c0_1], .string a1] w fun e w' => e = .returned (.int .i64 r) ∧ Below w.heap.size w w' := by
 have hu24 := Try.underlying24
 have HR0_1 := Aside0.mk hr0_1
 have HC0_1 := Aside0.mk hc0_1
 clear hr0_1 hc0_1
 have HB := Aside0.mk (Below.refl w.heap.size w)
 have H : (seek_Span.l0 k a1 (a0_0.size : Int) 0 a0_0 l0_1) = some r := h
 clear h
 have H' := Aside0.mk H
 clear H
 go_enter Try.func83, Try.ntmps83
 go_wp2_with (first | ((with_reducible refine gate_dst (N := 2) rfl ?_); refine box_event ?hg (N := 2) ?hd (cs := #[.string a0_0, .slice A0_1 l0_1.length c0_1]) (t := 24) ?hr ?_; (case hd => rfl); (case hg => rfl); (case hr => first | (go_simp; done) | (go_simp; rfl)); intro gb1302 hg w3 hbox hb; have n0_ := Aside0.mk (below_step (by repeat (first | (with_reducible first | exact HB.out | apply below_alloc | apply pw_below_drewN | apply below_drew1) | exact HB.out)) hb); have n1_ := Aside0.mk (hbox); have n2_ := Aside0.mk ((by rw [hg]; exact (below_size (by repeat (first | (with_reducible first | exact HB.out | apply below_alloc | apply pw_below_drewN | apply below_drew1) | exact HB.out))) : w.heap.size ≤ gb1302)); have n3_ := Aside0.mk ((by rw [hg]; exact (below_size (by repeat (first | (with_reducible first | exact HB.out | apply below_alloc | apply pw_below_drewN | apply below_drew1) | exact HB.out))) : w.heap.size ≤ gb1302)); clear HB; have HB := n0_; have BK1302 := n1_; have GW1302 := n2_; have GE1302 := n3_; clear n0_ n1_ n2_ n3_; clear hb hbox hg; have hcz4_0 : w3.cell? ⟨gb1302, 0, none⟩ = some (.string a0_0) := (blk_cell BK1302.out 0).trans rfl; have hcz4_1 : w3.cell? ⟨gb1302, 1, none⟩ = some (.slice A0_1 l0_1.length c0_1) := (blk_cell BK1302.out 1).trans rfl; have hfz4_0 := blk_frozen BK1302.out 0; have hfz4_1 := blk_frozen BK1302.out 1))
 go_loopg [9] k (fun kq v9 w' => ∃ (x9_1 : Int), v9 = .int .i64 x9_1 ∧ Aside0 (seek_Span.l0 kq a1 (a0_0.size : Int) x9_1 a0_0 l0_1 = some r) ∧ Aside0 (kq ≤ k) ∧ Aside0 (w'.heap[gb1302]? = some (.cells #[.string a0_0, (.slice A0_1 l0_1.length c0_1)] 24 (0, 0))) ∧ Aside0 (Below w.heap.size w w'))
 case atStart => exact ⟨(0), (by first | rfl | (simp; done) | (simp [*]; done)), H', ⟨Nat.le_refl _⟩, ⟨by (with_reducible repeat (first | refine blk_drewN ?_ _ | refine blk_drew ?_ | refine blk_alloc ?_ _)); exact BK1302.out⟩, ⟨by repeat (first | (with_reducible first | exact HB.out | apply below_alloc | apply pw_below_drewN | apply below_drew1 | refine below_set ?_ GE1302.out) | exact HB.out)⟩⟩
 case round =>
  clear H'
  try clear p2
  try clear hcz4_0
  try clear hcz4_1
  try clear hfz4_0
  try clear hfz4_1
  obtain ⟨x9_1, rfl, HA, HK1, BK1302, HB⟩ := hrel
  cases gk with
  | zero => exact absurd HA.out (by simp [seek_Span.l0])
  | succ k1 =>
   have H := HA.out
   clear HA
   simp only [seek_Span.l0] at H
   by_cases c5 : x9_1 < (a0_0.size : Int)
   ·
    rw [if_pos c5] at H
    have c5b0 : decide (x9_1 < (a0_0.size : Int)) = true := decide_eq_true c5
    clear c5
    by_cases c6 : 0 ≤ x9_1
    ·
     rw [if_pos c6] at H
     have c6b0 : decide (0 ≤ x9_1) = true := decide_eq_true c6
     clear c6
     by_cases c7 : x9_1 < (a0_0.size : Int)
     ·
      rw [if_pos c7] at H
      have c7b0 : decide (x9_1 < (a0_0.size : Int)) = true := decide_eq_true c7
      clear c7
      replace H := Option.bind_eq_some_iff.mp H
      obtain ⟨t1303, A90, H⟩ := H
      replace H : (if t1303 < 0 then (some x9_1) else (seek_Span.l0 k1 a1 (a0_0.size : Int) (wrap64 (x9_1 + 1)) a0_0 l0_1)) = some r := H
      have A9 := Aside0.mk A90
      clear A90
      by_cases c10 : t1303 < 0
      ·
       rw [if_pos c10] at H
       have c10b0 : decide (t1303 < 0) = true := decide_eq_true c10
       clear c10
       obtain rfl := Option.some.inj H
       have hcz11_0 : wr.cell? ⟨gb1302, 0, none⟩ = some (.string a0_0) := (blk_cell BK1302.out 0).trans rfl
       have hcz11_1 : wr.cell? ⟨gb1302, 1, none⟩ = some (.slice A0_1 l0_1.length c0_1) := (blk_cell BK1302.out 1).trans rfl
       have hfz11_0 := blk_frozen BK1302.out 0
       have hfz11_1 := blk_frozen BK1302.out 1
       have p8 : 0 ≤ (x9_1 : Int) := of_decide_eq_true (by first | (with_reducible assumption) | assumption)
       have q8 : x9_1 < (a0_0.size : Int) := of_decide_eq_true (by first | (with_reducible assumption) | assumption)
       have hx8 := bt_at a0_0 x9_1
       replace p8 := eq_true p8
       replace q8 := eq_true q8
       go_wp2_with (first | ((with_reducible refine gate_callee (f := 93) rfl ?_); refine goesL_ (some 17) rfl rfl Try.func93 (by kernel_rfl) rfl #[.string a1, .int .u8 (bt a0_0 x9_1)] rfl (by (try simp only [List.map_toArray, List.map_cons, List.map_nil]); first | done | rfl | (simp only [List.length_drop, List.length_take]; rfl)) ?_; (with_reducible refine (strings_IndexByte.calls a1 (bt a0_0 x9_1) t1303 _ A9.out).mono ?_); rintro e w' ⟨rfl, ⟨nd, rfl⟩⟩; refine ⟨_, rfl, ?_⟩))
       go_ret
       exact ⟨by first | rfl | (simp [errW_none, errW_some] <;> rfl) | (simp [*, errW_none, errW_some] <;> rfl), by repeat (first | (with_reducible first | exact HB.out | apply below_alloc | apply pw_below_drewN | apply below_drew1 | refine below_set ?_ GE1302.out) | exact HB.out)⟩
      ·
       rw [if_neg c10] at H
       have c10b0 : decide (t1303 < 0) = false := decide_eq_false c10
       clear c10
       have H' := Aside0.mk H
       clear H
       have hcz12_0 : wr.cell? ⟨gb1302, 0, none⟩ = some (.string a0_0) := (blk_cell BK1302.out 0).trans rfl
       have hcz12_1 : wr.cell? ⟨gb1302, 1, none⟩ = some (.slice A0_1 l0_1.length c0_1) := (blk_cell BK1302.out 1).trans rfl
       have hfz12_0 := blk_frozen BK1302.out 0
       have hfz12_1 := blk_frozen BK1302.out 1
       have p8 : 0 ≤ (x9_1 : Int) := of_decide_eq_true (by first | (with_reducible assumption) | assumption)
       have q8 : x9_1 < (a0_0.size : Int) := of_decide_eq_true (by first | (with_reducible assumption) | assumption)
       have hx8 := bt_at a0_0 x9_1
       replace p8 := eq_true p8
       replace q8 := eq_true q8
       go_wp2_with (first | ((with_reducible refine gate_callee (f := 93) rfl ?_); refine goesL_ (some 17) rfl rfl Try.func93 (by kernel_rfl) rfl #[.string a1, .int .u8 (bt a0_0 x9_1)] rfl (by (try simp only [List.map_toArray, List.map_cons, List.map_nil]); first | done | rfl | (simp only [List.length_drop, List.length_take]; rfl)) ?_; (with_reducible refine (strings_IndexByte.calls a1 (bt a0_0 x9_1) t1303 _ A9.out).mono ?_); rintro e w' ⟨rfl, ⟨nd, rfl⟩⟩; refine ⟨_, rfl, ?_⟩))
       go_roundg k1
       case measure => have := HK1.out; omega
       case rel => exact ⟨(wrap64 (x9_1 + 1)), (by first | rfl | (simp; done) | (simp [*]; done)), H', ⟨by have := HK1.out; omega⟩, ⟨by (with_reducible repeat (first | refine blk_drewN ?_ _ | refine blk_drew ?_ | refine blk_alloc ?_ _)); exact BK1302.out⟩, ⟨by repeat (first | (with_reducible first | exact HB.out | apply below_alloc | apply pw_below_drewN | apply below_drew1 | refine below_set ?_ GE1302.out) | exact HB.out)⟩⟩
     ·
      rw [if_neg c7] at H
      exact absurd H (by simp)
    ·
     rw [if_neg c6] at H
     exact absurd H (by simp)
   ·
    rw [if_neg c5] at H
    have c5b0 : decide (x9_1 < (a0_0.size : Int)) = false := decide_eq_false c5
    clear c5
    obtain rfl := Option.some.inj H
    have hcz13_0 : wr.cell? ⟨gb1302, 0, none⟩ = some (.string a0_0) := (blk_cell BK1302.out 0).trans rfl
    have hcz13_1 : wr.cell? ⟨gb1302, 1, none⟩ = some (.slice A0_1 l0_1.length c0_1) := (blk_cell BK1302.out 1).trans rfl
    have hfz13_0 := blk_frozen BK1302.out 0
    have hfz13_1 := blk_frozen BK1302.out 1
    go_wp2
    go_ret
    exact ⟨by first | rfl | (simp [errW_none, errW_some] <;> rfl) | (simp [*, errW_none, errW_some] <;> rfl), by repeat (first | (with_reducible first | exact HB.out | apply below_alloc | apply pw_below_drewN | apply below_drew1 | refine below_set ?_ GE1302.out) | exact HB.out)⟩

end Go.Proofs.Ytljmmhihdcnbaaa.G
