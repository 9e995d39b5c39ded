-- Written for this claim by hybrid.py's copy of the print program (a program of this session); not trusted: Lean checks it.
import Derived.Test.YtljmmhihdcnbaaaG0
import Derived.Test.YtljmmhihdcnbaaaG29
namespace Go.Proofs.Ytljmmhihdcnbaaa.G
open Go.RowKit Go.Proofs.YtljmmhihdcnbaaaW.PrintWords Go.Proofs.YtljmmhihdcnbaaaW.PrintLast Go.Proofs.YtljmmhihdcnbaaaW.PrintMore
attribute [local go_sem] max2_int min2_int max_two min_two max_three min_three max_four min_four   -- for this text's walks alone
set_option linter.unusedVariables false
set_option linter.unusedSimpArgs false

/-! ### glazierref01_Fields: function 80 -/
def glazierref01_Fields.l0 : Nat → List (S29) → List (List (S29)) → List (S29) → Int → Option ((List (List (S29))))
 | 0, _, _, _, _ => none
 | k + 1, x0, x3, x4, x5 => if x5 < (x0.length : Int) then (if 0 ≤ x5 then ((glazierref01_In.f k ((rd_T29 x0 x5).f0) (⟨#[9, 10, 12, 13, 32]⟩ : ByteArray)).bind fun t1285 => (if t1285 = true then (if (x4.length : Int) > 0 then (if x3.length < 5864062014805 then (glazierref01_Fields.l0 k x0 (x3 ++ [x4]) ([] : List (S29)) (wrap64 (x5 + 1))) else (none)) else (glazierref01_Fields.l0 k x0 x3 ([] : List (S29)) (wrap64 (x5 + 1)))) else (if x4.length < 8796093022208 then (glazierref01_Fields.l0 k x0 x3 (x4 ++ [(⟨(rd_T29 x0 x5).f0, (rd_T29 x0 x5).f1⟩ : S29)]) (wrap64 (x5 + 1))) else (none)))) else (none)) else (if (x4.length : Int) > 0 then (if x3.length < 5864062014805 then (some (x3 ++ [x4])) else (none)) else (some x3))
def glazierref01_Fields.f (k : Nat) (l0 : List (S29)) : Option ((List (List (S29)))) := glazierref01_Fields.l0 k l0 ([] : List (List (S29))) ([] : List (S29)) 0
theorem glazierref01_Fields.mono_l : ∀ k, (∀ y0 y1 y2 y3, LeO (glazierref01_Fields.l0 k y0 y1 y2 y3) (glazierref01_Fields.l0 (k + 1) y0 y1 y2 y3))
 | 0 => fun _ _ _ _ r h => by simp [glazierref01_Fields.l0] at h
 | k + 1 => by
  have ih0 := glazierref01_Fields.mono_l k
  ·
   intro y0 y1 y2 y3
   unfold glazierref01_Fields.l0
   repeat' first
   | (with_reducible exact ih0 _ _ _ _)
   | (with_reducible exact glazierref01_In.mono _ _ _)
   | (with_reducible exact LeO.refl _)
   | (with_reducible exact LeO.none _)
   | (with_reducible refine LeO.ite ?_ ?_)
   | (with_reducible refine LeO.bind ?_ (fun _ => ?_))
   | exact ih0 _ _ _ _
   | exact glazierref01_In.mono _ _ _
   | exact LeO.none _
   | refine LeO.ite ?_ ?_
   | refine LeO.bind ?_ (fun _ => ?_)
theorem glazierref01_Fields.mono : ∀ a0 k, LeO (glazierref01_Fields.f k a0) (glazierref01_Fields.f (k + 1) a0) := by
 intro a0 k
 have ih0 := glazierref01_Fields.mono_l k
 unfold glazierref01_Fields.f
 repeat' first
   | (with_reducible exact ih0 _ _ _ _)
   | (with_reducible exact glazierref01_In.mono _ _ _)
   | (with_reducible exact LeO.refl _)
   | (with_reducible exact LeO.none _)
   | (with_reducible refine LeO.ite ?_ ?_)
   | (with_reducible refine LeO.bind ?_ (fun _ => ?_))
   | exact ih0 _ _ _ _
   | exact glazierref01_In.mono _ _ _
   | exact LeO.none _
   | refine LeO.ite ?_ ?_
   | refine LeO.bind ?_ (fun _ => ?_)
set_option maxHeartbeats 8000000 in
set_option maxRecDepth 100000 in
theorem glazierref01_Fields.calls (k : Nat) (A0 : Option Addr) (c0 : Nat) (l0 : List (S29)) (r : List (List (S29))) (w : World) (hr0 : Kd.C k29 w A0 l0.length l0) (hc0 : l0.length ≤ c0) (h : glazierref01_Fields.f k l0 = some r) :
  Calls Try.prog 80 #[.slice A0 l0.length c0] w fun e w' => ∃ v0_ : Value, e = .returned (v0_) ∧ Kd.S (Kd.slice 29 k29) 26 w' w.heap.size (fun _ => True) v0_ r ∧ Below w.heap.size w w' := by
 have hu29 := Try.underlying29
 have HR0 := Aside0.mk hr0
 have HC0 := Aside0.mk hc0
 clear hr0 hc0
 have HB := Aside0.mk (Below.refl w.heap.size w)
 have H : (glazierref01_Fields.l0 k l0 ([] : List (List (S29))) ([] : List (S29)) 0) = some r := h
 clear h
 have H' := Aside0.mk H
 clear H
 go_enter Try.func80, Try.ntmps80
 go_wp2
 go_loopg [3, 4, 5] k (fun kq v3 v4 v5 w' => ∃ (x3_1 : List (List (S29))) (x4_1 : List (S29)) (x5_1 : Int), v5 = .int .i64 x5_1 ∧ Aside0 (glazierref01_Fields.l0 kq l0 x3_1 x4_1 x5_1 = some r) ∧ Aside0 (kq ≤ k) ∧ Aside0 (Kd.S (Kd.slice 29 k29) 26 w' w.heap.size (fun k_ => some k_ ≠ (v4 : Value).ownBlock) v3 x3_1) ∧ Aside0 (Kd.R k29 29 w' w.heap.size (fun _ => True) v4 x4_1) ∧ Aside0 (Below w.heap.size w w'))
 case atStart => exact ⟨(([] : List (List (S29)))), (([] : List (S29))), (0), (by first | rfl | (simp; done) | (simp [*]; done)), H', ⟨Nat.le_refl _⟩, ⟨by first | exact Kd.S_nil _ _ _ _ _ | exact Kd.N_nil _ _ _ _ _ | exact Kd.V_nil _ _ _ _ _ | exact Kd.Q_nil _ _ _ _ _ | exact Kd.R_nil _ _ _ _ _⟩, ⟨by first | exact Kd.R_nil _ _ _ _ _ | exact Kd.N_nil _ _ _ _ _ | exact Kd.V_nil _ _ _ _ _ | exact Kd.Q_nil _ _ _ _ _ | exact Kd.S_nil _ _ _ _ _⟩, ⟨by repeat (first | (with_reducible first | exact HB.out | apply below_alloc | apply pw_below_drewN | apply below_drew1) | exact HB.out)⟩⟩
 case round =>
  clear H'
  obtain ⟨x3_1, x4_1, x5_1, rfl, HA, HK1, HO_3, HO_4, HB⟩ := hrel
  cases gk with
  | zero => exact absurd HA.out (by simp [glazierref01_Fields.l0])
  | succ k1 =>
   have H := HA.out
   clear HA
   simp only [glazierref01_Fields.l0] at H
   by_cases c2 : x5_1 < (l0.length : Int)
   ·
    rw [if_pos c2] at H
    have c2b0 : decide (x5_1 < (l0.length : Int)) = true := decide_eq_true c2
    clear c2
    by_cases c3 : 0 ≤ x5_1
    ·
     rw [if_pos c3] at H
     have c3b0 : decide (0 ≤ x5_1) = true := decide_eq_true c3
     clear c3
     replace H := Option.bind_eq_some_iff.mp H
     obtain ⟨t1285, A40, H⟩ := H
     replace H : (if t1285 = true then (if (x4_1.length : Int) > 0 then (if x3_1.length < 5864062014805 then (glazierref01_Fields.l0 k1 l0 (x3_1 ++ [x4_1]) ([] : List (S29)) (wrap64 (x5_1 + 1))) else (none)) else (glazierref01_Fields.l0 k1 l0 x3_1 ([] : List (S29)) (wrap64 (x5_1 + 1)))) else (if x4_1.length < 8796093022208 then (glazierref01_Fields.l0 k1 l0 x3_1 (x4_1 ++ [(⟨(rd_T29 l0 x5_1).f0, (rd_T29 l0 x5_1).f1⟩ : S29)]) (wrap64 (x5_1 + 1))) else (none))) = some r := H
     have A4 := Aside0.mk A40
     clear A40
     by_cases c5 : t1285 = true
     ·
      subst c5
      have H1 : (if (x4_1.length : Int) > 0 then (if x3_1.length < 5864062014805 then (glazierref01_Fields.l0 k1 l0 (x3_1 ++ [x4_1]) ([] : List (S29)) (wrap64 (x5_1 + 1))) else (none)) else (glazierref01_Fields.l0 k1 l0 x3_1 ([] : List (S29)) (wrap64 (x5_1 + 1)))) = some r := by rw [if_pos rfl] at H; exact H
      clear H
      have H := H1
      clear H1
      by_cases c6 : (x4_1.length : Int) > 0
      ·
       rw [if_pos c6] at H
       have c6b0 : decide (0 < (x4_1.length : Int)) = true := decide_eq_true c6
       have c6b1 : decide (0 < x4_1.length) = true := decide_eq_true (by omega)
       clear c6
       by_cases c7 : x3_1.length < 5864062014805
       ·
        rw [if_pos c7] at H
        have LMc7 := Aside0.mk c7
        clear c7
        obtain ⟨y1286, hy1286⟩ : ∃ y_ : List (List (S29)), y_ = (x3_1 ++ [x4_1]) := ⟨_, rfl⟩
        replace H : (glazierref01_Fields.l0 k1 l0 y1286 ([] : List (S29)) (wrap64 (x5_1 + 1))) = some r := by first | (rw [hy1286]; with_reducible exact H) | (have H2_ := (Option.bind_some _ _).symm.trans H; rw [hy1286]; with_reducible exact H2_) | (have H2_ := (Option.bind_some _ _).symm.trans H; with_reducible exact H2_) | with_reducible exact H | (rw [hy1286]; exact H) | exact H
        have Ny1286 := Aside0.mk hy1286
        clear hy1286
        have H' := Aside0.mk H
        clear H
        have p1284 : 0 ≤ (x5_1 : Int) := of_decide_eq_true (by first | (with_reducible assumption) | assumption)
        have q1284 : x5_1 < (l0.length : Int) := of_decide_eq_true (by first | (with_reducible assumption) | assumption)
        obtain ⟨ad1284, e1284, hx1284_0, hx1284_1⟩ := at_T29 HR0.out x5_1 p1284 q1284
        cases e1284
        replace hx1284_0 := (HB.out.cell (World.block_lt_of_cell? w _ hx1284_0)).trans hx1284_0
        replace hx1284_1 := (HB.out.cell (World.block_lt_of_cell? w _ hx1284_1)).trans hx1284_1
        replace p1284 := eq_true p1284
        replace q1284 := eq_true q1284
        go_wp2_with (first | ((with_reducible refine gate_callee (f := 79) rfl ?_); refine goesL_ (some 17) rfl rfl Try.func79 (by kernel_rfl) rfl #[.int .u8 ((rd_T29 l0 x5_1).f0), .string (⟨#[9, 10, 12, 13, 32]⟩ : ByteArray)] rfl (by (try simp only [List.map_toArray, List.map_cons, List.map_nil]); first | done | rfl | (simp only [List.length_drop, List.length_take]; rfl)) ?_; (with_reducible refine (glazierref01_In.calls k1 ((rd_T29 l0 x5_1).f0) (⟨#[9, 10, 12, 13, 32]⟩ : ByteArray) true _ A4.out).mono ?_); rintro e w' ⟨rfl, ⟨nd, rfl⟩⟩; refine ⟨_, rfl, ?_⟩; obtain ⟨Ao8, co8, eo8⟩ := Kd.R_slice HO_4.out; subst eo8) | ((with_reducible refine gate_builtin (b := .append) (xs := #[.tmp 29, .tmp 31]) rfl ?_); at_builtin; refine Kd.S_append (Kd.slice 29 k29) (w0 := w) w.heap.size rfl (.tmp 29) (.tmp 31) 76 26 (.slice none 0 0) 24 rfl Try.underlying76 info26 rfl (by decide) (by omega) u3 x3_1 x4_1 [.slice Ao8 x4_1.length co8] (fun _ => True) (fun k_ => some k_ = (.slice Ao8 x4_1.length co8 : Value).ownBlock) rfl rfl ?aP (fun k_ hk_ => ((Kd.R_mono (ok' := fun k_ => ((fun _ => True)) k_ ∧ some k_ ≠ (u3 : Value).ownBlock) (Kd.R_apart' (HO_4.out) (Kd.S_typed HO_3.out) (by decide)) (fun k_ hk => ⟨trivial, hk.2⟩))).1 k_ hk_.symm) ?aF ?aO ?aB ?aS ?aL ?_; (case aP => exact Kd.M_row (Kd.R_mono (Kd.R_tight rfl (Kd.R_mono (ok' := fun k_ => ((fun _ => True)) k_ ∧ some k_ ≠ (u3 : Value).ownBlock) (Kd.R_apart' (HO_4.out) (Kd.S_typed HO_3.out) (by decide)) (fun k_ hk => ⟨trivial, hk.2⟩))) (fun _ h_ => h_))); (case aB => exact (by repeat (first | (with_reducible first | exact HB.out | apply below_alloc | apply pw_below_drewN | apply below_drew1) | exact HB.out))); (case aF => exact (fun _ _ => trivial)); (case aO => exact (by (with_reducible repeat (first | apply Kd.S_alloc | apply Kd.S_drewN | apply Kd.S_drew)); exact Kd.S_mono HO_3.out (fun k_ hk => ⟨trivial, fun e_ => hk e_⟩))); (case aS => exact (below_size (by repeat (first | (with_reducible first | exact HB.out | apply below_alloc | apply pw_below_drewN | apply below_drew1) | exact HB.out)))); (case aL => have := LMc7.out; omega); intro v1287 w9 ho hb hg hat; rw [← Ny1286.out] at ho; have n0_ := Aside0.mk (hb); have n1_ := Aside0.mk (ho); clear HB; clear HO_3; clear HO_4; have HB := n0_; have HO1288 := n1_; clear n0_ n1_; clear ho hb hg hat))
        go_roundg k1
        case measure => have := HK1.out; omega
        case rel => exact ⟨(y1286), (([] : List (S29))), (wrap64 (x5_1 + 1)), (by first | rfl | (simp; done) | (simp [*]; done)), H', ⟨by have := HK1.out; omega⟩, ⟨by (with_reducible repeat (first | apply Kd.S_alloc | apply Kd.S_drewN | apply Kd.S_drew)); exact Kd.S_mono HO1288.out (fun _ hk => (by simp [Value.ownBlock]))⟩, ⟨by first | exact Kd.R_nil _ _ _ _ _ | exact Kd.N_nil _ _ _ _ _ | exact Kd.V_nil _ _ _ _ _ | exact Kd.Q_nil _ _ _ _ _ | exact Kd.S_nil _ _ _ _ _⟩, ⟨by repeat (first | (with_reducible first | exact HB.out | apply below_alloc | apply pw_below_drewN | apply below_drew1) | exact HB.out)⟩⟩
       ·
        rw [if_neg c7] at H
        exact absurd H (by simp)
      ·
       rw [if_neg c6] at H
       have c6b0 : decide (0 < (x4_1.length : Int)) = false := decide_eq_false c6
       have c6b1 : decide (0 < x4_1.length) = false := decide_eq_false (by omega)
       clear c6
       have H' := Aside0.mk H
       clear H
       have p1284 : 0 ≤ (x5_1 : Int) := of_decide_eq_true (by first | (with_reducible assumption) | assumption)
       have q1284 : x5_1 < (l0.length : Int) := of_decide_eq_true (by first | (with_reducible assumption) | assumption)
       obtain ⟨ad1284, e1284, hx1284_0, hx1284_1⟩ := at_T29 HR0.out x5_1 p1284 q1284
       cases e1284
       replace hx1284_0 := (HB.out.cell (World.block_lt_of_cell? w _ hx1284_0)).trans hx1284_0
       replace hx1284_1 := (HB.out.cell (World.block_lt_of_cell? w _ hx1284_1)).trans hx1284_1
       replace p1284 := eq_true p1284
       replace q1284 := eq_true q1284
       go_wp2_with (first | ((with_reducible refine gate_callee (f := 79) rfl ?_); refine goesL_ (some 17) rfl rfl Try.func79 (by kernel_rfl) rfl #[.int .u8 ((rd_T29 l0 x5_1).f0), .string (⟨#[9, 10, 12, 13, 32]⟩ : ByteArray)] rfl (by (try simp only [List.map_toArray, List.map_cons, List.map_nil]); first | done | rfl | (simp only [List.length_drop, List.length_take]; rfl)) ?_; (with_reducible refine (glazierref01_In.calls k1 ((rd_T29 l0 x5_1).f0) (⟨#[9, 10, 12, 13, 32]⟩ : ByteArray) true _ A4.out).mono ?_); rintro e w' ⟨rfl, ⟨nd, rfl⟩⟩; refine ⟨_, rfl, ?_⟩; obtain ⟨Ao10, co10, eo10⟩ := Kd.R_slice HO_4.out; subst eo10))
       go_roundg k1
       case measure => have := HK1.out; omega
       case rel => exact ⟨(x3_1), (([] : List (S29))), (wrap64 (x5_1 + 1)), (by first | rfl | (simp; done) | (simp [*]; done)), H', ⟨by have := HK1.out; omega⟩, ⟨by (with_reducible repeat (first | apply Kd.S_alloc | apply Kd.S_drewN | apply Kd.S_drew)); exact Kd.S_mono HO_3.out (fun _ hk => (by simp [Value.ownBlock]))⟩, ⟨by first | exact Kd.R_nil _ _ _ _ _ | exact Kd.N_nil _ _ _ _ _ | exact Kd.V_nil _ _ _ _ _ | exact Kd.Q_nil _ _ _ _ _ | exact Kd.S_nil _ _ _ _ _⟩, ⟨by repeat (first | (with_reducible first | exact HB.out | apply below_alloc | apply pw_below_drewN | apply below_drew1) | exact HB.out)⟩⟩
     ·
      replace c5 := Bool.eq_false_iff.mpr c5
      subst c5
      have H1 : (if x4_1.length < 8796093022208 then (glazierref01_Fields.l0 k1 l0 x3_1 (x4_1 ++ [(⟨(rd_T29 l0 x5_1).f0, (rd_T29 l0 x5_1).f1⟩ : S29)]) (wrap64 (x5_1 + 1))) else (none)) = some r := by rw [if_neg (show ¬ (false = true) by decide)] at H; exact H
      clear H
      have H := H1
      clear H1
      by_cases c11 : x4_1.length < 8796093022208
      ·
       rw [if_pos c11] at H
       have LMc11 := Aside0.mk c11
       clear c11
       obtain ⟨y1290, hy1290⟩ : ∃ y_ : List (S29), y_ = (x4_1 ++ [(⟨(rd_T29 l0 x5_1).f0, (rd_T29 l0 x5_1).f1⟩ : S29)]) := ⟨_, rfl⟩
       replace H : (glazierref01_Fields.l0 k1 l0 x3_1 y1290 (wrap64 (x5_1 + 1))) = some r := by first | (rw [hy1290]; with_reducible exact H) | (have H2_ := (Option.bind_some _ _).symm.trans H; rw [hy1290]; with_reducible exact H2_) | (have H2_ := (Option.bind_some _ _).symm.trans H; with_reducible exact H2_) | with_reducible exact H | (rw [hy1290]; exact H) | exact H
       have Ny1290 := Aside0.mk hy1290
       clear hy1290
       have H' := Aside0.mk H
       clear H
       have p1284 : 0 ≤ (x5_1 : Int) := of_decide_eq_true (by first | (with_reducible assumption) | assumption)
       have q1284 : x5_1 < (l0.length : Int) := of_decide_eq_true (by first | (with_reducible assumption) | assumption)
       obtain ⟨ad1284, e1284, hx1284_0, hx1284_1⟩ := at_T29 HR0.out x5_1 p1284 q1284
       cases e1284
       replace hx1284_0 := (HB.out.cell (World.block_lt_of_cell? w _ hx1284_0)).trans hx1284_0
       replace hx1284_1 := (HB.out.cell (World.block_lt_of_cell? w _ hx1284_1)).trans hx1284_1
       replace p1284 := eq_true p1284
       replace q1284 := eq_true q1284
       go_wp2_with (first | ((with_reducible refine gate_callee (f := 79) rfl ?_); refine goesL_ (some 17) rfl rfl Try.func79 (by kernel_rfl) rfl #[.int .u8 ((rd_T29 l0 x5_1).f0), .string (⟨#[9, 10, 12, 13, 32]⟩ : ByteArray)] rfl (by (try simp only [List.map_toArray, List.map_cons, List.map_nil]); first | done | rfl | (simp only [List.length_drop, List.length_take]; rfl)) ?_; (with_reducible refine (glazierref01_In.calls k1 ((rd_T29 l0 x5_1).f0) (⟨#[9, 10, 12, 13, 32]⟩ : ByteArray) false _ A4.out).mono ?_); rintro e w' ⟨rfl, ⟨nd, rfl⟩⟩; refine ⟨_, rfl, ?_⟩; have p1289 : 0 ≤ (x5_1 : Int) := of_decide_eq_true (by first | (with_reducible assumption) | assumption); have q1289 : x5_1 < (l0.length : Int) := of_decide_eq_true (by first | (with_reducible assumption) | assumption); obtain ⟨ad1289, e1289, hx1289_0, hx1289_1⟩ := at_T29 HR0.out x5_1 p1289 q1289; obtain rfl : ad1284 = ad1289 := (by injection e1289); replace hx1289_0 := (HB.out.cell (World.block_lt_of_cell? w _ hx1289_0)).trans hx1289_0; replace hx1289_1 := (HB.out.cell (World.block_lt_of_cell? w _ hx1289_1)).trans hx1289_1; replace p1289 := eq_true p1289; replace q1289 := eq_true q1289) | ((with_reducible refine gate_builtin (b := .append) (xs := #[.tmp 19, .tmp 24]) rfl ?_); at_builtin; refine Kd.R_append k29 (w0 := w) w.heap.size rfl (.tmp 19) (.tmp 24) 26 29 (.agg #[(.int .u8 0), (.int .i64 0)]) 16 rfl Try.underlying26 info29 rfl (by decide) (by omega) u4 x4_1 (⟨(rd_T29 l0 x5_1).f0, (rd_T29 l0 x5_1).f1⟩ : S29) [.int .u8 ((rd_T29 l0 x5_1).f0), .int .i64 ((rd_T29 l0 x5_1).f1)] (fun _ => True) (fun _ => False) rfl rfl ?aP (fun _ hk => hk.elim) ?aF ?aO ?aB ?aS ?aL ?_; (case aP => exact k29_mkM _ _ _ (⟨(rd_T29 l0 x5_1).f0, (rd_T29 l0 x5_1).f1⟩ : S29)); (case aB => exact (by repeat (first | (with_reducible first | exact HB.out | apply below_alloc | apply pw_below_drewN | apply below_drew1) | exact HB.out))); (case aF => exact (fun _ _ => trivial)); (case aO => exact (by (with_reducible repeat (first | apply Kd.R_alloc | apply Kd.R_drewN | apply Kd.R_drew)); exact HO_4.out)); (case aS => exact (below_size (by repeat (first | (with_reducible first | exact HB.out | apply below_alloc | apply pw_below_drewN | apply below_drew1) | exact HB.out)))); (case aL => have := LMc11.out; omega); intro v1291 w12 ho hb hg hat; rw [← Ny1290.out] at ho; have n0_ := Aside0.mk (Kd.S_after (ok := (fun _ => True)) (by (with_reducible repeat (first | apply Kd.S_alloc | apply Kd.S_drewN | apply Kd.S_drew)); exact Kd.S_mono HO_3.out (fun _ hk => ⟨trivial, hk⟩)) hg hat); have n1_ := Aside0.mk (hb); have n2_ := Aside0.mk (ho); clear HO_3; clear HB; clear HO_4; have HO_3 := n0_; have HB := n1_; have HO1292 := n2_; clear n0_ n1_ n2_; clear ho hb hg hat))
       go_roundg k1
       case measure => have := HK1.out; omega
       case rel => exact ⟨(x3_1), (y1290), (wrap64 (x5_1 + 1)), (by first | rfl | (simp; done) | (simp [*]; done)), H', ⟨by have := HK1.out; omega⟩, ⟨by (with_reducible repeat (first | apply Kd.S_alloc | apply Kd.S_drewN | apply Kd.S_drew)); exact Kd.S_mono HO_3.out (fun _ hk => hk.2)⟩, ⟨by (with_reducible repeat (first | apply Kd.R_alloc | apply Kd.R_drewN | apply Kd.R_drew)); exact HO1292.out⟩, ⟨by repeat (first | (with_reducible first | exact HB.out | apply below_alloc | apply pw_below_drewN | apply below_drew1) | exact HB.out)⟩⟩
      ·
       rw [if_neg c11] at H
       exact absurd H (by simp)
    ·
     rw [if_neg c3] at H
     exact absurd H (by simp)
   ·
    rw [if_neg c2] at H
    have c2b0 : decide (x5_1 < (l0.length : Int)) = false := decide_eq_false c2
    clear c2
    by_cases c13 : (x4_1.length : Int) > 0
    ·
     rw [if_pos c13] at H
     have c13b0 : decide (0 < (x4_1.length : Int)) = true := decide_eq_true c13
     have c13b1 : decide (0 < x4_1.length) = true := decide_eq_true (by omega)
     clear c13
     by_cases c14 : x3_1.length < 5864062014805
     ·
      rw [if_pos c14] at H
      have LMc14 := Aside0.mk c14
      clear c14
      obtain ⟨y1281, hy1281⟩ : ∃ y_ : List (List (S29)), y_ = (x3_1 ++ [x4_1]) := ⟨_, rfl⟩
      replace H : (some y1281) = some r := by first | (rw [hy1281]; with_reducible exact H) | (have H2_ := (Option.bind_some _ _).symm.trans H; rw [hy1281]; with_reducible exact H2_) | (have H2_ := (Option.bind_some _ _).symm.trans H; with_reducible exact H2_) | with_reducible exact H | (rw [hy1281]; exact H) | exact H
      have Ny1281 := Aside0.mk hy1281
      clear hy1281
      obtain rfl := Option.some.inj H
      obtain ⟨Ao15, co15, eo15⟩ := Kd.R_slice HO_4.out
      subst eo15
      go_wp2_with (first | ((with_reducible refine gate_builtin (b := .append) (xs := #[.tmp 36, .tmp 38]) rfl ?_); at_builtin; refine Kd.S_append (Kd.slice 29 k29) (w0 := w) w.heap.size rfl (.tmp 36) (.tmp 38) 76 26 (.slice none 0 0) 24 rfl Try.underlying76 info26 rfl (by decide) (by omega) u3 x3_1 x4_1 [.slice Ao15 x4_1.length co15] (fun _ => True) (fun k_ => some k_ = (.slice Ao15 x4_1.length co15 : Value).ownBlock) rfl rfl ?aP (fun k_ hk_ => ((Kd.R_mono (ok' := fun k_ => ((fun _ => True)) k_ ∧ some k_ ≠ (u3 : Value).ownBlock) (Kd.R_apart' (HO_4.out) (Kd.S_typed HO_3.out) (by decide)) (fun k_ hk => ⟨trivial, hk.2⟩))).1 k_ hk_.symm) ?aF ?aO ?aB ?aS ?aL ?_; (case aP => exact Kd.M_row (Kd.R_mono (Kd.R_tight rfl (Kd.R_mono (ok' := fun k_ => ((fun _ => True)) k_ ∧ some k_ ≠ (u3 : Value).ownBlock) (Kd.R_apart' (HO_4.out) (Kd.S_typed HO_3.out) (by decide)) (fun k_ hk => ⟨trivial, hk.2⟩))) (fun _ h_ => h_))); (case aB => exact (by repeat (first | (with_reducible first | exact HB.out | apply below_alloc | apply pw_below_drewN | apply below_drew1) | exact HB.out))); (case aF => exact (fun _ _ => trivial)); (case aO => exact (by (with_reducible repeat (first | apply Kd.S_alloc | apply Kd.S_drewN | apply Kd.S_drew)); exact Kd.S_mono HO_3.out (fun k_ hk => ⟨trivial, fun e_ => hk e_⟩))); (case aS => exact (below_size (by repeat (first | (with_reducible first | exact HB.out | apply below_alloc | apply pw_below_drewN | apply below_drew1) | exact HB.out)))); (case aL => have := LMc14.out; omega); intro v1282 w16 ho hb hg hat; rw [← Ny1281.out] at ho; have n0_ := Aside0.mk (hb); have n1_ := Aside0.mk (ho); clear HB; clear HO_3; clear HO_4; have HB := n0_; have HO1283 := n1_; clear n0_ n1_; clear ho hb hg hat))
      go_ret
      exact ⟨_, by first | rfl | (simp [errW_none, errW_some] <;> rfl) | (simp [*, errW_none, errW_some] <;> rfl), by (with_reducible repeat (first | apply Kd.S_alloc | apply Kd.S_drewN | apply Kd.S_drew)); exact HO1283.out, by repeat (first | (with_reducible first | exact HB.out | apply below_alloc | apply pw_below_drewN | apply below_drew1) | exact HB.out)⟩
     ·
      rw [if_neg c14] at H
      exact absurd H (by simp)
    ·
     rw [if_neg c13] at H
     have c13b0 : decide (0 < (x4_1.length : Int)) = false := decide_eq_false c13
     have c13b1 : decide (0 < x4_1.length) = false := decide_eq_false (by omega)
     clear c13
     obtain rfl := Option.some.inj H
     obtain ⟨Ao17, co17, eo17⟩ := Kd.R_slice HO_4.out
     subst eo17
     go_wp2
     go_ret
     exact ⟨_, by first | rfl | (simp [errW_none, errW_some] <;> rfl) | (simp [*, errW_none, errW_some] <;> rfl), by (with_reducible repeat (first | apply Kd.S_alloc | apply Kd.S_drewN | apply Kd.S_drew)); exact Kd.S_mono HO_3.out (fun _ hk => trivial), by repeat (first | (with_reducible first | exact HB.out | apply below_alloc | apply pw_below_drewN | apply below_drew1) | exact HB.out)⟩

end Go.Proofs.Ytljmmhihdcnbaaa.G
