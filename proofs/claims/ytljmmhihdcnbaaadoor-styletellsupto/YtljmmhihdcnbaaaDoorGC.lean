/- style.Clean: what it computes (out of the print program's text), and its walk by hand. -/
import Derived.Test.YtljmmhihdcnbaaaDoorG0
import Derived.Test.YtljmmhihdcnbaaaDoorG23
import Derived.Test.YtljmmhihdcnbaaaDoorG25
import Derived.Test.YtljmmhihdcnbaaaDoorG26
import Derived.Test.YtljmmhihdcnbaaaDoorG27
import Derived.Test.YtljmmhihdcnbaaaDoorG46
import Derived.Test.YtljmmhihdcnbaaaDoorG51
import Derived.Test.YtljmmhihdcnbaaaDoorG52
import Derived.Test.YtljmmhihdcnbaaaDoorG53
import Derived.Test.YtljmmhihdcnbaaaDoorGB
import Derived.Deep.DrawnRows
namespace Go.Proofs.YtljmmhihdcnbaaaDoor.G
open Go.RowKit Go.Proofs.YtljmmhihdcnbaaaDoorW.PrintWords Go.Proofs.YtljmmhihdcnbaaaDoorW.PrintLast Go.Proofs.YtljmmhihdcnbaaaDoorW.PrintMore
attribute [local go_sem] max2_int min2_int max_two min_two max_three min_three max_four min_four   -- for this text's walks alone
set_option linter.unusedVariables false
set_option linter.unusedSimpArgs false
attribute [local go_sem ↓] Go.wp_at_zero Go.wp_at_succ
mutual
def style_Clean.l0 : Nat → List (S32) → List (S32) → Int → Int → Option (ByteArray × (List (S56)))
 | 0, _, _, _, _ => none
 | k + 1, x3, x10, x11, x12 => if x12 < x11 then (if 0 ≤ x12 then (if x12 < (x10.length : Int) then ((style_Known.f ((rd_T32 x10 x12).f0.f0)).bind fun t272 => (if t272 = true then ((mark_Pure.f k ((rd_T32 x10 x12).f0.f0) ((rd_T32 x10 x12).f0.f1)).bind fun t273 => (if t273 = true then ((style_Plain.f ((rd_T32 x10 x12).f1.f0)).bind fun t274 => (if t274 = true then ((attrs_Drop.f k x3 ((rd_T32 x10 x12).f0.f0)).bind fun t275 => ((some (([(⟨(⟨(rd_T32 x10 x12).f0.f0, (rd_T32 x10 x12).f0.f1⟩ : S24), (⟨(rd_T32 x10 x12).f1.f0, (rd_T32 x10 x12).f1.f1⟩ : S24)⟩ : S32)] : List (S32)) : List (S32))).bind fun y278 => (if t275.length + y278.length < 1759218604441 then (style_Clean.l0 k (t275 ++ y278) x10 x11 (wrap64 (x12 + 1))) else (none)))) else (style_Clean.l0 k x3 x10 x11 (wrap64 (x12 + 1))))) else (style_Clean.l0 k x3 x10 x11 (wrap64 (x12 + 1))))) else (style_Clean.l0 k x3 x10 x11 (wrap64 (x12 + 1))))) else (none)) else (none)) else (style_Clean.l1 k ([] : List (S24)) x3 (x3.length : Int) 0)
def style_Clean.l1 : Nat → List (S24) → List (S32) → Int → Int → Option (ByteArray × (List (S56)))
 | 0, _, _, _, _ => none
 | k + 1, x6, x40, x41, x42 => if x42 < x41 then (if 0 ≤ x42 then (if x42 < (x40.length : Int) then ((mark_Of.f (⟨#[58]⟩ : ByteArray) 0).bind fun bt286 => ((mark_Cat.f k (([(⟨(rd_T32 x40 x42).f0.f0, (rd_T32 x40 x42).f0.f1⟩ : S24), (⟨bt286.1, bt286.2⟩ : S24), (⟨(rd_T32 x40 x42).f1.f0, (rd_T32 x40 x42).f1.f1⟩ : S24)] : List (S24)))).bind fun bt293 => ((some (([(⟨bt293.1, bt293.2⟩ : S24)] : List (S24)) : List (S24))).bind fun y297 => (if x6.length + y297.length < 3518437208883 then (style_Clean.l1 k (x6 ++ y297) x40 x41 (wrap64 (x42 + 1))) else (none))))) else (none)) else (none)) else ((mark_Of.f (⟨#[59]⟩ : ByteArray) 0).bind fun bt303 => ((seek_Join.f k x6 bt303.1 bt303.2).bind fun bt307 => (some (bt307.1, bt307.2))))
end
def style_Clean.f (k : Nat) (a0_0 : ByteArray) (l0_1 : List (S56)) : Option (ByteArray × (List (S56))) := (style_Parse.f k a0_0 l0_1).bind fun t267 => (style_Clean.l0 k ([] : List (S32)) t267 (t267.length : Int) 0)
theorem style_Clean.mono_l : ∀ k, (∀ y0 y1 y2 y3, LeO (style_Clean.l0 k y0 y1 y2 y3) (style_Clean.l0 (k + 1) y0 y1 y2 y3)) ∧ (∀ y0 y1 y2 y3, LeO (style_Clean.l1 k y0 y1 y2 y3) (style_Clean.l1 (k + 1) y0 y1 y2 y3))
 | 0 => ⟨fun _ _ _ _ r h => by simp [style_Clean.l0] at h, fun _ _ _ _ r h => by simp [style_Clean.l1] at h⟩
 | k + 1 => by
  obtain ⟨ih0, ih1⟩ := style_Clean.mono_l k
  refine ⟨?_, ?_⟩
  ·
   intro y0 y1 y2 y3
   unfold style_Clean.l0
   repeat' first
   | (with_reducible exact ih0 _ _ _ _)
   | (with_reducible exact ih1 _ _ _ _)
   | (with_reducible exact attrs_Drop.mono _ _ _)
   | (with_reducible exact mark_Cat.mono _ _)
   | (with_reducible exact mark_Pure.mono _ _ _)
   | (with_reducible exact seek_Join.mono _ _ _ _)
   | (with_reducible exact style_Parse.mono _ _ _)
   | (with_reducible exact LeO.refl _)
   | (with_reducible exact LeO.none _)
   | (with_reducible refine LeO.ite ?_ ?_)
   | (with_reducible refine LeO.bind ?_ (fun _ => ?_))
   | exact ih0 _ _ _ _
   | exact ih1 _ _ _ _
   | exact attrs_Drop.mono _ _ _
   | exact mark_Cat.mono _ _
   | exact mark_Pure.mono _ _ _
   | exact seek_Join.mono _ _ _ _
   | exact style_Parse.mono _ _ _
   | exact LeO.none _
   | refine LeO.ite ?_ ?_
   | refine LeO.bind ?_ (fun _ => ?_)
  ·
   intro y0 y1 y2 y3
   unfold style_Clean.l1
   repeat' first
   | (with_reducible exact ih0 _ _ _ _)
   | (with_reducible exact ih1 _ _ _ _)
   | (with_reducible exact attrs_Drop.mono _ _ _)
   | (with_reducible exact mark_Cat.mono _ _)
   | (with_reducible exact mark_Pure.mono _ _ _)
   | (with_reducible exact seek_Join.mono _ _ _ _)
   | (with_reducible exact style_Parse.mono _ _ _)
   | (with_reducible exact LeO.refl _)
   | (with_reducible exact LeO.none _)
   | (with_reducible refine LeO.ite ?_ ?_)
   | (with_reducible refine LeO.bind ?_ (fun _ => ?_))
   | exact ih0 _ _ _ _
   | exact ih1 _ _ _ _
   | exact attrs_Drop.mono _ _ _
   | exact mark_Cat.mono _ _
   | exact mark_Pure.mono _ _ _
   | exact seek_Join.mono _ _ _ _
   | exact style_Parse.mono _ _ _
   | exact LeO.none _
   | refine LeO.ite ?_ ?_
   | refine LeO.bind ?_ (fun _ => ?_)
theorem style_Clean.mono : ∀ a0 a1 k, LeO (style_Clean.f k a0 a1) (style_Clean.f (k + 1) a0 a1) := by
 intro a0 a1 k
 obtain ⟨ih0, ih1⟩ := style_Clean.mono_l k
 unfold style_Clean.f
 repeat' first
   | (with_reducible exact ih0 _ _ _ _)
   | (with_reducible exact ih1 _ _ _ _)
   | (with_reducible exact attrs_Drop.mono _ _ _)
   | (with_reducible exact mark_Cat.mono _ _)
   | (with_reducible exact mark_Pure.mono _ _ _)
   | (with_reducible exact seek_Join.mono _ _ _ _)
   | (with_reducible exact style_Parse.mono _ _ _)
   | (with_reducible exact LeO.refl _)
   | (with_reducible exact LeO.none _)
   | (with_reducible refine LeO.ite ?_ ?_)
   | (with_reducible refine LeO.bind ?_ (fun _ => ?_))
   | exact ih0 _ _ _ _
   | exact ih1 _ _ _ _
   | exact attrs_Drop.mono _ _ _
   | exact mark_Cat.mono _ _
   | exact mark_Pure.mono _ _ _
   | exact seek_Join.mono _ _ _ _
   | exact style_Parse.mono _ _ _
   | exact LeO.none _
   | refine LeO.ite ?_ ?_
   | refine LeO.bind ?_ (fun _ => ?_)
theorem k56h : Kd.Heap k56 := Kd.heap_iso _ (Kd.heap_pair (Kd.heap_int _) (Kd.heap_int _))
/-- A literal of one attribute whose rows were there before W6: what it leads to. -/
theorem lit32_F {W W6 : World} {g : Nat} (x : S32) {A1 A3 : Option Addr} {c1 c3 : Nat} (h : W.heap[g]? = some (.cells #[.string x.f0.f0, .slice A1 x.f0.f1.length c1, .string x.f1.f0, .slice A3 x.f1.f1.length c3] 32 (0, 0))) (hb : Below W6.heap.size W6 W) (h1 : Txt W6 A1 c1 x.f0.f1) (h3 : Txt W6 A3 c3 x.f1.f1) :
    Kd.F k32 W (fun k => k < W6.heap.size ∨ k = g) (some ⟨g, 0, none⟩) 1 [x] := by
  intro W' hW
  have hr : ∀ k, k < W6.heap.size → W'.heap[k]? = W6.heap[k]? := fun k hk => (hW k (.inl hk) (Nat.lt_of_lt_of_le hk hb.size)).trans (hb.block k hk)
  have hg : W'.heap[g]? = some (.cells #[.string x.f0.f0, .slice A1 x.f0.f1.length c1, .string x.f1.f0, .slice A3 x.f1.f1.length c3] 32 (0, 0)) := (hW g (.inr rfl) (blk_lt h)).trans h
  refine ⟨rfl, by decide, fun _ => ⟨⟨g, 0, none⟩, rfl, fun j p hj => ?_⟩⟩
  obtain ⟨rfl, rfl⟩ : j = 0 ∧ p = x := by
    cases j with
    | zero => exact ⟨rfl, (Option.some.inj hj).symm⟩
    | succ j => simp at hj
  refine ⟨_, rfl, k32_mk W' p h1.le (k56h.C hr h1.C) h3.le (k56h.C hr h3.C), fun i u hu => ?_⟩
  rw [add_plain, Nat.zero_mul, Nat.zero_add, blk_cell hg, ← Array.getElem?_toList]
  exact hu
/-- A literal of one labelled text whose runs a call has made. -/
theorem lit24_F {W : World} {g base : Nat} {ok : Nat → Prop} {t : ByteArray} {l : List S56} {A : Option Addr} {c : Nat} (h : W.heap[g]? = some (.cells #[.string t, .slice A l.length c] 24 (0, 0))) (hR : Kd.R k56 56 W base ok (.slice A l.length c) l) :
    Kd.F k24 W (fun k => base ≤ k ∨ k = g) (some ⟨g, 0, none⟩) 1 [⟨t, l⟩] := by
  intro W' hW
  have hg := (hW g (.inr rfl) (blk_lt h)).trans h
  have hC : Kd.C k56 W' A l.length l := (Kd.F_mono (Kd.R_F (Kd.R_bound hR)) (fun k hk => hk.2.1)) W' (fun k hk hlt => hW k (.inl hk) hlt)
  refine ⟨rfl, by decide, fun _ => ⟨⟨g, 0, none⟩, rfl, fun j p hj => ?_⟩⟩
  obtain ⟨rfl, rfl⟩ : j = 0 ∧ p = ⟨t, l⟩ := by
    cases j with
    | zero => exact ⟨rfl, (Option.some.inj hj).symm⟩
    | succ j => simp at hj
  refine ⟨_, rfl, k24_mk W' ⟨t, l⟩ (Txt.of hR).le hC, fun i u hu => ?_⟩
  rw [add_plain, Nat.zero_mul, Nat.zero_add, blk_cell hg, ← Array.getElem?_toList]
  exact hu
/-- A list of attributes that can be read. -/
structure Tx32 (W : World) (A : Option Addr) (c : Nat) (l : List S32) : Prop where
  C : Kd.C k32 W A l.length l
  le : l.length ≤ c
theorem Tx32.go {W W1 : World} {A : Option Addr} {c : Nat} {l : List S32} (h : Tx32 W A c l) (hb : Below W.heap.size W W1) : Tx32 W1 A c l := ⟨Kd.C_below h.C hb, h.le⟩
theorem Tx32.of {W : World} {base : Nat} {ok : Nat → Prop} {A : Option Addr} {n c : Nat} {l : List S32} (h : Kd.N k32 32 W base ok (.slice A n c) l) : Tx32 W A c l := ⟨(Kd.N_reads' h).2.2, (Kd.N_reads' h).1 ▸ (Kd.N_reads' h).2.1⟩
theorem C_lit {W : World} {g : Nat} {cells : Array Value} (h : W.heap[g]? = some (.cells cells 24 (0, 0))) {xs : List S24} (hr : Reps (fun x c => k24.K W x c ∧ c.length = 2) 2 xs cells.toList) (hl : xs.length ≤ 1000) : Kd.C k24 W (some ⟨g, 0, none⟩) xs.length xs := by
  refine ⟨rfl, by omega, fun _ => ⟨⟨g, 0, none⟩, rfl, fun j p hj => ?_⟩⟩
  obtain ⟨hk, hlen⟩ := hr.2 j p hj
  refine ⟨_, hlen, hk, fun i u hu => ?_⟩
  rw [add_plain, blk_cell h]
  have hi : i < 2 := by
    have := (List.getElem?_eq_some_iff.1 hu).1
    omega
  rw [List.getElem?_take, if_pos hi, List.getElem?_drop] at hu
  rw [← Array.getElem?_toList]
  exact hu
theorem rep1 {W : World} {t : ByteArray} {A : Option Addr} {l : List S56} {c : Nat} (h : Kd.C k56 W A l.length l) (hc : l.length ≤ c) : k24.K W ⟨t, l⟩ [.string t, .slice A l.length c] ∧ [Value.string t, .slice A l.length c].length = 2 := ⟨k24_mk W ⟨t, l⟩ hc h, rfl⟩
theorem C_lit3 {W : World} {g : Nat} {t0 t1 t2 : ByteArray} {A0 A1 A2 : Option Addr} {l0 l1 l2 : List S56} {c0 c1 c2 : Nat} (h : W.heap[g]? = some (.cells #[.string t0, .slice A0 l0.length c0, .string t1, .slice A1 l1.length c1, .string t2, .slice A2 l2.length c2] 24 (0, 0))) (h0 : Txt W A0 c0 l0) (h1 : Txt W A1 c1 l1) (h2 : Txt W A2 c2 l2) :
    Kd.C k24 W (some ⟨g, 0, none⟩) [(⟨t0, l0⟩ : S24), ⟨t1, l1⟩, ⟨t2, l2⟩].length [⟨t0, l0⟩, ⟨t1, l1⟩, ⟨t2, l2⟩] := by
  have r := ((((((Reps.none (fun x c => k24.K W x c ∧ c.length = 2) 2).snoc (rep1 (t := t0) h0.C h0.le) rfl)).snoc (rep1 (t := t1) h1.C h1.le) rfl)).snoc (rep1 (t := t2) h2.C h2.le) rfl)
  exact C_lit h r (by simp)
theorem Cat3 (k : Nat) (t0 : ByteArray) (A0 : Option Addr) (l0 : List S56) (c0 : Nat) (t1 : ByteArray) (A1 : Option Addr) (l1 : List S56) (c1 : Nat) (t2 : ByteArray) (A2 : Option Addr) (l2 : List S56) (c2 : Nat) (r1 : ByteArray) (r2 : List S56) (W : World) (g : Nat) (hW : W.heap[g]? = some (.cells #[.string t0, .slice A0 l0.length c0, .string t1, .slice A1 l1.length c1, .string t2, .slice A2 l2.length c2] 24 (0, 0))) (h0 : Txt W A0 c0 l0) (h1 : Txt W A1 c1 l1) (h2 : Txt W A2 c2 l2) (h : mark_Cat.f k [(⟨t0, l0⟩ : S24), ⟨t1, l1⟩, ⟨t2, l2⟩] = some (r1, r2)) :
    Calls Tryd.prog 30 #[.slice (some ⟨g, 0, none⟩) 3 3] W fun e w' => ∃ v1_ : Value, e = .returned (.agg #[.string r1, v1_]) ∧ Kd.R k56 56 w' W.heap.size (fun _ => True) v1_ r2 ∧ Below W.heap.size W w' :=
  mark_Cat.calls k (some ⟨g, 0, none⟩) 3 [(⟨t0, l0⟩ : S24), ⟨t1, l1⟩, ⟨t2, l2⟩] r1 r2 W (C_lit3 hW h0 h1 h2) (by simp) h
set_option maxHeartbeats 6400000 in
set_option maxRecDepth 100000 in
theorem style_Clean.calls (k : Nat) (a0_0 : ByteArray) (A0_1 : Option Addr) (c0_1 : Nat) (l0_1 : List (S56)) (r1 : ByteArray) (r2 : List (S56)) (w : World) (hr0_1 : Kd.C k56 w A0_1 l0_1.length l0_1) (hc0_1 : l0_1.length ≤ c0_1) (h : style_Clean.f k a0_0 l0_1 = some (r1, r2)) :
    Calls Tryd.prog 8 #[.agg #[.string a0_0, .slice A0_1 l0_1.length c0_1]] w fun e w' => ∃ v1_ : Value, e = .returned (.agg #[.string r1, v1_]) ∧ Kd.R k56 56 w' w.heap.size (fun _ => True) v1_ r2 ∧ Below w.heap.size w w' := by
  have hu24 := Tryd.underlying24
  have hu32 := Tryd.underlying32
  obtain ⟨t, hpa, h⟩ := Option.bind_eq_some_iff.mp h
  have HPA := Aside0.mk hpa
  have H' := Aside0.mk h
  have HT := Aside0.mk (Txt.mk hr0_1 hc0_1)
  clear hpa h hr0_1 hc0_1
  obtain ⟨W0, HW0⟩ : ∃ W0 : World, W0 = (w.alloc (.cells #[.string a0_0, .slice A0_1 l0_1.length c0_1] 24)).alloc (.cells #[.string ⟨#[]⟩, .slice none 0 0] 24) := ⟨_, rfl⟩
  have HB : Aside0 (Below w.heap.size w W0) := ⟨by rw [HW0]; exact below_alloc (below_alloc (Below.refl _ _) _) _⟩
  have X1 : Aside0 (Bx W0 w.heap.size a0_0 A0_1 c0_1 l0_1) := ⟨by rw [HW0]; exact (Bx.new HT.out).go (below_alloc (Below.refl _ _) _)⟩
  have X2 : Aside0 (W0.heap[w.heap.size + 1]? = some (.cells #[.string ⟨#[]⟩, .slice none 0 0] 24 (0, 0))) := ⟨by rw [HW0]; simpa using blk_new (w.alloc (.cells #[.string a0_0, .slice A0_1 l0_1.length c0_1] 24)) (.cells #[.string ⟨#[]⟩, .slice none 0 0] 24)⟩
  have HW0' := Aside0.mk HW0
  clear HW0 HT
  go_enter Tryd.func8, Tryd.ntmps8
  go_upto_region 1 with fail
  rw [← HW0'.out]
  clear HW0'
  have z0 := X1.out.c0
  have z1 := X1.out.c1
  go_wp2_with fail
  refine (style_Parse.calls k a0_0 _ _ l0_1 t _ X1.out.2.C X1.out.2.le HPA.out).mono ?_
  rintro e W2 ⟨v, rfl, hS, hb⟩
  obtain ⟨AT, cT, eT⟩ := Kd.R_slice (Kd.S_R hS)
  subst eT
  have LT := Aside0.mk (show Tx32 W2 AT cT t from ⟨(LL.of hS).C, (LL.of hS).le⟩)
  have HB2 := Aside0.mk (below_step HB.out hb)
  have X22 := Aside0.mk (blk_below X2.out hb)
  clear hS hb HB X1 X2 z0 z1
  go_wp2_with fail
  go_loopg [3, 12] k (fun kq v3 v12 w' => ∃ (x3 : List S32) (A3 : Option Addr) (c3 : Nat) (x12 : Int), v3 = .slice A3 x3.length c3 ∧ v12 = .int .i64 x12 ∧ Aside0 (style_Clean.l0 kq x3 t (t.length : Int) x12 = some (r1, r2)) ∧ Aside0 (kq ≤ k) ∧ Aside0 (Tx32 w' A3 c3 x3) ∧ Aside0 (Below W2.heap.size W2 w'))
  case atStart => exact ⟨[], none, 0, 0, rfl, rfl, H', ⟨Nat.le_refl _⟩, ⟨⟨Kd.C_nil _ _, Nat.le_refl _⟩⟩, ⟨Below.refl _ _⟩⟩
  case round =>
    clear H'
    obtain ⟨wo, rfl⟩ : ∃ wo : World, wo = wr := ⟨_, rfl⟩
    obtain ⟨x3, A3, c3, x12, rfl, rfl, HA, HK, L3, HC⟩ := hrel
    cases gk with
    | zero => exact absurd HA.out (by simp [style_Clean.l0])
    | succ k1 =>
    have H := HA.out
    clear HA
    simp only [style_Clean.l0] at H
    by_cases c : x12 < (t.length : Int)
    case neg =>
      rw [if_neg c] at H
      have H2 := Aside0.mk H
      have cb : decide (x12 < (t.length : Int)) = false := decide_eq_false c
      clear c H
      obtain ⟨WL, rfl⟩ : ∃ WL : World, WL = wo := ⟨_, rfl⟩
      go_wp2_with fail
      go_loopg [6, 42] k1 (fun kq v6 v42 w' => ∃ (x6 : List S24) (x42 : Int), v42 = .int .i64 x42 ∧ Aside0 (style_Clean.l1 kq x6 x3 (x3.length : Int) x42 = some (r1, r2)) ∧ Aside0 (kq ≤ k1) ∧ Aside0 (Kd.N k24 24 w' WL.heap.size (fun _ => True) v6 x6) ∧ Aside0 (Below WL.heap.size WL w'))
      case atStart => exact ⟨[], 0, rfl, H2, ⟨Nat.le_refl _⟩, ⟨Kd.N_nil _ _ _ _ _⟩, ⟨Below.refl _ _⟩⟩
      case round =>
        clear H2
        obtain ⟨wi, rfl⟩ : ∃ wi : World, wi = wr := ⟨_, rfl⟩
        obtain ⟨x6, x42, rfl, HA, HK2, N6, HCI⟩ := hrel
        obtain ⟨A6, c6, e6⟩ := Kd.N_slice N6.out
        subst e6
        cases gk with
        | zero => exact absurd HA.out (by simp [style_Clean.l1])
        | succ k2 =>
        have H := HA.out
        clear HA
        simp only [style_Clean.l1] at H
        by_cases c : x42 < (x3.length : Int)
        case neg =>
          rw [if_neg c] at H
          have cb2 : decide (x42 < (x3.length : Int)) = false := decide_eq_false c
          clear c
          obtain ⟨⟨o1, o2⟩, ho, H⟩ := Option.bind_eq_some_iff.mp H
          obtain ⟨⟨s1, s2⟩, hj, H⟩ := Option.bind_eq_some_iff.mp H
          cases H
          have HO := Aside0.mk ho
          have HJ := Aside0.mk hj
          clear ho hj
          have BW := Aside0.mk (below_step (below_step HB2.out HC.out) HCI.out)
          have X2I := Aside0.mk (blk_below (blk_below X22.out HC.out) HCI.out)
          clear X22 HB2 L3 LT HC HCI
          go_wp2_with fail
          refine (mark_Of.calls _ _ o1 o2 _ HO.out).mono ?_
          rintro e w5 ⟨v, rfl, hR, hb⟩
          obtain ⟨AO, cO, eO⟩ := Kd.R_slice hR
          subst eO
          have RO := Aside0.mk hR
          have N65 := Aside0.mk (Kd.N_below N6.out hb)
          have BW5 := Aside0.mk (below_step BW.out hb)
          have X25 := Aside0.mk (blk_below X2I.out hb)
          clear hR hb N6 BW X2I
          go_wp2_with fail
          refine (seek_Join.calls k2 (fun _ => True) _ _ x6 o1 (fun _ => True) _ _ o2 s1 s2 _ (Kd.V_mk (Kd.N_reads' N65.out).2.1 (Kd.N_F N65.out)) (Kd.V_mk (Txt.of RO.out).le (Kd.R_F RO.out)) HJ.out).mono ?_
          rintro e w6 ⟨v, rfl, hR, hb⟩
          obtain ⟨AR, cR, eR⟩ := Kd.R_slice hR
          subst eR
          have RR := Aside0.mk (Kd.R_lower (Kd.R_mono hR (ok' := fun _ => True) (fun _ _ => trivial)) BW5.out.size)
          have BW6 := Aside0.mk (below_step BW5.out hb)
          have X26 := Aside0.mk (blk_below X25.out hb)
          clear hR hb N65 BW5 X25 RO
          have zf0 := blk_frozen X26.out 0
          have zf1 := blk_frozen X26.out 1
          have zr0 := blk_cell X26.out 0
          have zs1 := blk_cell X26.out 1
          go_wp2_with fail
          refine bodyPost_ret (results_cell_row rfl _ _ (w.heap.size + 1) 24 #[.string s1, .slice AR s2.length cR] (0, 0) _ rfl (blk_put (cs := #[.string s1, .slice none 0 0]) (blk_put (cs := #[.string ⟨#[]⟩, .slice none 0 0]) X26.out 0 _ rfl) 1 _ rfl) Tryd.underlying24 rfl (by kernel_rfl)) rfl ?_
          exact ⟨_, rfl, Kd.R_mono (Kd.R_far (p := ⟨w.heap.size + 1, 1, none⟩) (Kd.R_far (p := ⟨w.heap.size + 1, 0, none⟩) (Kd.R_types RR.out X26.out (by decide)) (fun _ hk => hk.2) (.string s1)) (fun _ hk => hk.2) (.slice AR s2.length cR)) (fun _ _ => trivial), below_set (below_set BW6.out (by omega)) (by omega)⟩
        case pos =>
        rw [if_pos c] at H
        have cb2 : decide (x42 < (x3.length : Int)) = true := decide_eq_true c
        by_cases p : 0 ≤ x42
        case neg => rw [if_neg p] at H; exact absurd H (by simp)
        rw [if_pos p, if_pos c] at H
        obtain ⟨⟨o1, o2⟩, ho, H⟩ := Option.bind_eq_some_iff.mp H
        obtain ⟨⟨q1, q2⟩, hq, H⟩ := Option.bind_eq_some_iff.mp H
        replace H : (if x6.length + 1 < 3518437208883 then style_Clean.l1 k2 (x6 ++ [(⟨q1, q2⟩ : S24)]) x3 (x3.length : Int) (wrap64 (x42 + 1)) else none) = some (r1, r2) := H
        by_cases c9 : x6.length + 1 < 3518437208883
        case neg => rw [if_neg c9] at H; exact absurd H (by simp)
        rw [if_pos c9] at H
        have HO := Aside0.mk ho
        have HQ := Aside0.mk hq
        have LM := Aside0.mk c9
        have H2 := Aside0.mk H
        clear ho hq c9 H
        obtain ⟨y, hy⟩ : ∃ y : List S24, y = x6 ++ [(⟨q1, q2⟩ : S24)] := ⟨_, rfl⟩
        rw [← hy] at H2
        have HY := Aside0.mk hy
        clear hy
        obtain ⟨ad, D1, d1, D3, d3, e7, hx0, hx1, hx2, hx3, hl1, hC1, hl3, hC3⟩ := at_T32 (L3.out.go HCI.out).C x42 p c
        subst e7
        have pb : (0 ≤ x42) = True := eq_true p
        have qb : (x42 < (x3.length : Int)) = True := eq_true c
        have U1 := Aside0.mk ((Txt.mk hC1 hl1).go (below_alloc (Below.refl wi.heap.size wi) (.cells #[.string (rd_T32 x3 x42).f0.f0, .slice D1 (rd_T32 x3 x42).f0.f1.length d1, .string (rd_T32 x3 x42).f1.f0, .slice D3 (rd_T32 x3 x42).f1.f1.length d3] 32)))
        have U3 := Aside0.mk ((Txt.mk hC3 hl3).go (below_alloc (Below.refl wi.heap.size wi) (.cells #[.string (rd_T32 x3 x42).f0.f0, .slice D1 (rd_T32 x3 x42).f0.f1.length d1, .string (rd_T32 x3 x42).f1.f0, .slice D3 (rd_T32 x3 x42).f1.f1.length d3] 32)))
        have X8 := Aside0.mk (blk_new wi (.cells #[.string (rd_T32 x3 x42).f0.f0, .slice D1 (rd_T32 x3 x42).f0.f1.length d1, .string (rd_T32 x3 x42).f1.f0, .slice D3 (rd_T32 x3 x42).f1.f1.length d3] 32))
        have HW8 := Aside0.mk (below_alloc (Below.refl wi.heap.size wi) (.cells #[.string (rd_T32 x3 x42).f0.f0, .slice D1 (rd_T32 x3 x42).f0.f1.length d1, .string (rd_T32 x3 x42).f1.f0, .slice D3 (rd_T32 x3 x42).f1.f1.length d3] 32))
        clear hl1 hC1 hl3 hC3 c p
        go_upto_region 12 with fail
        obtain ⟨W8, HW8'⟩ : ∃ W8 : World, wi.alloc (.cells #[.string (rd_T32 x3 x42).f0.f0, .slice D1 (rd_T32 x3 x42).f0.f1.length d1, .string (rd_T32 x3 x42).f1.f0, .slice D3 (rd_T32 x3 x42).f1.f1.length d3] 32) = W8 := ⟨_, rfl⟩
        rw [HW8'] at U1 U3 X8 HW8 ⊢
        clear HW8' hx0 hx1 hx2 hx3
        obtain ⟨g8, hg8⟩ : ∃ g8 : Nat, wi.heap.size = g8 := ⟨_, rfl⟩
        have G8 := Aside0.mk (Nat.le_of_eq hg8)
        rw [hg8] at X8 ⊢
        clear hg8
        have z0 := blk_cell X8.out 0
        have z1 := blk_cell X8.out 1
        have z2 := blk_cell X8.out 2
        have z3 := blk_cell X8.out 3
        go_region_held3 (fun W => W.cell? ⟨g8, 0, none⟩ = some (.string (rd_T32 x3 x42).f0.f0) ∧ W.cell? ⟨g8, 1, none⟩ = some (.slice D1 (rd_T32 x3 x42).f0.f1.length d1) ∧ W.cell? ⟨g8, 2, none⟩ = some (.string (rd_T32 x3 x42).f1.f0) ∧ W.cell? ⟨g8, 3, none⟩ = some (.slice D3 (rd_T32 x3 x42).f1.f1.length d3))
          (first
            | exact ⟨blk_cell X9.out 0, blk_cell X9.out 1, blk_cell X9.out 2, blk_cell X9.out 3⟩
            | exact ⟨blk_cell (blk_below X8.out (by repeat (first | exact HV82.out | exact HV81.out | exact Below.refl _ _ | apply below_alloc | apply below_drew1 | apply pw_below_drewN))) 0, blk_cell (blk_below X8.out (by repeat (first | exact HV82.out | exact HV81.out | exact Below.refl _ _ | apply below_alloc | apply below_drew1 | apply pw_below_drewN))) 1, blk_cell (blk_below X8.out (by repeat (first | exact HV82.out | exact HV81.out | exact Below.refl _ _ | apply below_alloc | apply below_drew1 | apply pw_below_drewN))) 2, blk_cell (blk_below X8.out (by repeat (first | exact HV82.out | exact HV81.out | exact Below.refl _ _ | apply below_alloc | apply below_drew1 | apply pw_below_drewN))) 3⟩
            | go_keep)
          ((first
            | (go_at_call 19; (with_reducible refine (mark_Of.calls _ _ o1 o2 _ HO.out).mono ?_); rintro e v1 ⟨v, rfl, hR, hb⟩; obtain ⟨AO, cO, eO⟩ := Kd.R_slice hR; subst eO; have TO := Aside0.mk (Txt.of hR); clear hR; have HV81 := Aside0.mk (below_step (show Below W8.heap.size W8 _ from (by repeat (first | exact Below.refl _ _ | apply below_alloc | apply below_drew1 | apply pw_below_drewN))) hb); have HV1 := Aside0.mk (below_step (show Below wi.heap.size wi _ from (by repeat (first | exact HW8.out | exact Below.refl _ _ | apply below_alloc | apply below_drew1 | apply pw_below_drewN))) hb))
            | (go_at_call 30; (with_reducible refine (Cat3 k2 _ _ _ _ o1 _ o2 _ _ _ _ _ q1 q2 _ _ (blk_new _ _) (U1.out.go (by repeat (first | exact HV81.out | exact Below.refl _ _ | apply below_alloc))) (TO.out.go (by repeat (first | exact Below.refl _ _ | apply below_alloc | apply below_drew1 | apply pw_below_drewN))) (U3.out.go (by repeat (first | exact HV81.out | exact Below.refl _ _ | apply below_alloc))) HQ.out).mono ?_); rintro e v2 ⟨v, rfl, hR, hb⟩; obtain ⟨AC, cC, eC⟩ := Kd.R_slice hR; subst eC; have RC := Aside0.mk (Kd.R_lower hR (show Below wi.heap.size wi _ from (by repeat (first | exact HV1.out | exact HW8.out | exact Below.refl _ _ | apply below_alloc | apply below_drew1 | apply pw_below_drewN))).size); clear hR; have HV82 := Aside0.mk (below_step (show Below W8.heap.size W8 _ from (by repeat (first | exact HV81.out | exact Below.refl _ _ | apply below_alloc))) hb); have HV2 := Aside0.mk (below_step (show Below wi.heap.size wi _ from (by repeat (first | exact HV1.out | exact HW8.out | exact Below.refl _ _ | apply below_alloc | apply below_drew1 | apply pw_below_drewN))) hb))
            | (refine Kd.N_append_rows_step k24 (w0 := WL) WL.heap.size (by rfl) (.tmp 46) (.tmp 54) 52 24 (.agg #[(.string ⟨#[]⟩), (.slice none 0 0)]) 40 rfl Tryd.underlying52 info24 rfl (by decide) (by omega) (.slice A6 x6.length c6) x6 [(⟨q1, q2⟩ : S24)] _ _ _ (fun _ => True) _ rfl rfl (Kd.N_below N6.out (show Below wi.heap.size wi _ from (by repeat (first | exact HV2.out | exact HV1.out | exact HW8.out | exact Below.refl _ _ | apply below_alloc | apply below_drew1 | apply pw_below_drewN)))) (lit24_F (blk_new _ _) (Kd.R_below RC.out (by repeat (first | exact Below.refl _ _ | apply below_alloc | apply below_drew1 | apply pw_below_drewN)))) (fun k hk => ⟨trivial, fun he => by have h2 := Kd.N_lt N6.out k he.symm; have h3 := HV2.out.size; rcases hk with hk | rfl <;> omega⟩) (fun _ _ => trivial) (below_step HCI.out (show Below wi.heap.size wi _ from (by repeat (first | exact HV2.out | exact HV1.out | exact HW8.out | exact Below.refl _ _ | apply below_alloc | apply below_drew1 | apply pw_below_drewN)))) (below_step HCI.out (show Below wi.heap.size wi _ from (by repeat (first | exact HV2.out | exact HV1.out | exact HW8.out | exact Below.refl _ _ | apply below_alloc | apply below_drew1 | apply pw_below_drewN)))).size (by have := LM.out; omega) ?_; intro v3 w7 ho hb hg hat; have X9 := Aside0.mk (blk_grown (blk_below X8.out (show Below W8.heap.size W8 _ from (by repeat (first | exact HV82.out | exact Below.refl _ _ | apply below_alloc)))) hg (fun he => by have h2 := Kd.N_lt N6.out g8 he.symm; have h3 := G8.out; omega)); rw [← HY.out] at ho; have N7 := Aside0.mk ho; have HW7 := Aside0.mk hb; clear ho hb hg hat)))
        go_wp2_with fail
        go_roundg k2
        case measure => omega
        case rel => exact ⟨y, wrap64 (x42 + 1), rfl, H2, ⟨by have := HK2.out; omega⟩, N7, HW7⟩
    case pos =>
    rw [if_pos c] at H
    have cb : decide (x12 < (t.length : Int)) = true := decide_eq_true c
    by_cases p : 0 ≤ x12
    case neg => rw [if_neg p] at H; exact absurd H (by simp)
    rw [if_pos p, if_pos c] at H
    obtain ⟨ad, B1, b1, B3, b3, e7, hx0, hx1, hx2, hx3, hl1, hC1, hl3, hC3⟩ := at_T32 (LT.out.go HC.out).C x12 p c
    subst e7
    have pb : (0 ≤ x12) = True := eq_true p
    have qb : (x12 < (t.length : Int)) = True := eq_true c
    have U1 := Aside0.mk ((Txt.mk hC1 hl1).go (below_alloc (Below.refl wo.heap.size wo) (.cells #[.string (rd_T32 t x12).f0.f0, .slice B1 (rd_T32 t x12).f0.f1.length b1, .string (rd_T32 t x12).f1.f0, .slice B3 (rd_T32 t x12).f1.f1.length b3] 32)))
    have U3 := Aside0.mk ((Txt.mk hC3 hl3).go (below_alloc (Below.refl wo.heap.size wo) (.cells #[.string (rd_T32 t x12).f0.f0, .slice B1 (rd_T32 t x12).f0.f1.length b1, .string (rd_T32 t x12).f1.f0, .slice B3 (rd_T32 t x12).f1.f1.length b3] 32)))
    have X5 := Aside0.mk (blk_new wo (.cells #[.string (rd_T32 t x12).f0.f0, .slice B1 (rd_T32 t x12).f0.f1.length b1, .string (rd_T32 t x12).f1.f0, .slice B3 (rd_T32 t x12).f1.f1.length b3] 32))
    have HC5 := Aside0.mk (below_alloc HC.out (.cells #[.string (rd_T32 t x12).f0.f0, .slice B1 (rd_T32 t x12).f0.f1.length b1, .string (rd_T32 t x12).f1.f0, .slice B3 (rd_T32 t x12).f1.f1.length b3] 32))
    have L35 := Aside0.mk (L3.out.go (below_alloc (Below.refl wo.heap.size wo) (.cells #[.string (rd_T32 t x12).f0.f0, .slice B1 (rd_T32 t x12).f0.f1.length b1, .string (rd_T32 t x12).f1.f0, .slice B3 (rd_T32 t x12).f1.f1.length b3] 32)))
    have H2 := Aside0.mk H
    clear hl1 hC1 hl3 hC3 c p L3 HC H
    go_upto_region 5 with fail
    obtain ⟨W5, HW5⟩ : ∃ W5 : World, wo.alloc (.cells #[.string (rd_T32 t x12).f0.f0, .slice B1 (rd_T32 t x12).f0.f1.length b1, .string (rd_T32 t x12).f1.f0, .slice B3 (rd_T32 t x12).f1.f1.length b3] 32) = W5 := ⟨_, rfl⟩
    rw [HW5] at U1 U3 X5 HC5 L35 ⊢
    clear HW5 hx0 hx1 hx2 hx3
    obtain ⟨g5, hg5⟩ : ∃ g5 : Nat, wo.heap.size = g5 := ⟨_, rfl⟩
    rw [hg5] at X5 ⊢
    clear hg5
    obtain ⟨b, hb1, H⟩ := Option.bind_eq_some_iff.mp H2.out
    have K1 := Aside0.mk hb1
    clear hb1 H2
    have z0 := blk_cell X5.out 0
    cases b with
    | false =>
      have H2 := Aside0.mk ((if_neg (by decide)).symm.trans H)
      clear H
      go_wp2_with fail
      refine (style_Known.calls _ false _ K1.out).mono ?_
      rintro e w1 ⟨rfl, hd⟩
      have V1 := Aside0.mk hd.below
      clear hd
      go_wp2_with fail
      go_roundg k1
      case measure => omega
      case rel => exact ⟨x3, A3, c3, wrap64 (x12 + 1), rfl, rfl, H2, ⟨by have := HK.out; omega⟩, ⟨L35.out.go V1.out⟩, ⟨below_step HC5.out V1.out⟩⟩
    | true =>
    obtain ⟨b, hb2, H⟩ := Option.bind_eq_some_iff.mp ((if_pos rfl).symm.trans H)
    have K2 := Aside0.mk hb2
    clear hb2
    go_wp2_with fail
    refine (style_Known.calls _ true _ K1.out).mono ?_
    rintro e w1 ⟨rfl, hd⟩
    have V1 := Aside0.mk hd.below
    clear hd z0
    have z0 := blk_cell (blk_below X5.out V1.out) 0
    have z1 := blk_cell (blk_below X5.out V1.out) 1
    go_wp2_with fail
    refine (mark_Pure.calls k1 _ _ _ _ b _ (U1.out.go V1.out).C U1.out.le K2.out).mono ?_
    rintro e w2 ⟨rfl, hb⟩
    have V2 := Aside0.mk (below_step V1.out hb)
    clear hb z0 z1
    cases b with
    | false =>
      have H2 := Aside0.mk ((if_neg (by decide)).symm.trans H)
      clear H
      go_wp2_with fail
      go_roundg k1
      case measure => omega
      case rel => exact ⟨x3, A3, c3, wrap64 (x12 + 1), rfl, rfl, H2, ⟨by have := HK.out; omega⟩, ⟨L35.out.go V2.out⟩, ⟨below_step HC5.out V2.out⟩⟩
    | true =>
    obtain ⟨b, hb3, H⟩ := Option.bind_eq_some_iff.mp ((if_pos rfl).symm.trans H)
    have K3 := Aside0.mk hb3
    clear hb3
    have z2 := blk_cell (blk_below X5.out V2.out) 2
    go_wp2_with fail
    refine (style_Plain.calls _ b _ K3.out).mono ?_
    rintro e w3 ⟨rfl, hb⟩
    have V3 := Aside0.mk (below_step V2.out hb)
    clear hb z2
    cases b with
    | false =>
      have H2 := Aside0.mk ((if_neg (by decide)).symm.trans H)
      clear H
      go_wp2_with fail
      go_roundg k1
      case measure => omega
      case rel => exact ⟨x3, A3, c3, wrap64 (x12 + 1), rfl, rfl, H2, ⟨by have := HK.out; omega⟩, ⟨L35.out.go V3.out⟩, ⟨below_step HC5.out V3.out⟩⟩
    | true =>
    obtain ⟨d, hd4, H⟩ := Option.bind_eq_some_iff.mp ((if_pos rfl).symm.trans H)
    have K4 := Aside0.mk hd4
    clear hd4
    obtain ⟨y, hy, H⟩ := Option.bind_eq_some_iff.mp H
    obtain rfl := (Option.some.inj hy)
    clear hy
    replace H : (if d.length + 1 < 1759218604441 then style_Clean.l0 k1 (d ++ [rd_T32 t x12]) t (t.length : Int) (wrap64 (x12 + 1)) else none) = some (r1, r2) := H
    by_cases c9 : d.length + 1 < 1759218604441
    case neg => rw [if_neg c9] at H; exact absurd H (by simp)
    rw [if_pos c9] at H
    have H2 := Aside0.mk H
    have LM := Aside0.mk c9
    clear H c9
    obtain ⟨y, hy⟩ : ∃ y : List S32, y = d ++ [rd_T32 t x12] := ⟨_, rfl⟩
    have H3 : Aside0 (style_Clean.l0 k1 y t (t.length : Int) (wrap64 (x12 + 1)) = some (r1, r2)) := ⟨by rw [hy]; exact H2.out⟩
    have HY := Aside0.mk hy
    clear hy H2
    have U16 := Aside0.mk (U1.out.go V3.out)
    have U36 := Aside0.mk (U3.out.go V3.out)
    have Z0 := Aside0.mk (blk_cell (blk_below X5.out V3.out) 0)
    have Z1 := Aside0.mk (blk_cell (blk_below X5.out V3.out) 1)
    have Z2 := Aside0.mk (blk_cell (blk_below X5.out V3.out) 2)
    have Z3 := Aside0.mk (blk_cell (blk_below X5.out V3.out) 3)
    have L36 := Aside0.mk (L35.out.go V3.out)
    have HC6 := Aside0.mk (below_step HC5.out V3.out)
    clear U1 U3 L35 HC5 V1 V2 V3 X5
    go_wp2_with fail
    have z0 := Z0.out
    have z1 := Z1.out
    have z2 := Z2.out
    have z3 := Z3.out
    go_region_held3 (fun W => W.cell? ⟨g5, 0, none⟩ = some (.string (rd_T32 t x12).f0.f0) ∧ W.cell? ⟨g5, 1, none⟩ = some (.slice B1 (rd_T32 t x12).f0.f1.length b1) ∧ W.cell? ⟨g5, 2, none⟩ = some (.string (rd_T32 t x12).f1.f0) ∧ W.cell? ⟨g5, 3, none⟩ = some (.slice B3 (rd_T32 t x12).f1.f1.length b3))
      (first
        | exact ⟨pw_cell_below (by repeat (first | exact HV2.out | exact HV1.out | exact Below.refl _ _ | apply below_alloc | apply below_drew1 | apply pw_below_drewN)) Z0.out, pw_cell_below (by repeat (first | exact HV2.out | exact HV1.out | exact Below.refl _ _ | apply below_alloc | apply below_drew1 | apply pw_below_drewN)) Z1.out, pw_cell_below (by repeat (first | exact HV2.out | exact HV1.out | exact Below.refl _ _ | apply below_alloc | apply below_drew1 | apply pw_below_drewN)) Z2.out, pw_cell_below (by repeat (first | exact HV2.out | exact HV1.out | exact Below.refl _ _ | apply below_alloc | apply below_drew1 | apply pw_below_drewN)) Z3.out⟩
        | go_keep)
      ((first
          | (go_at_call 29; (with_reducible refine (attrs_Drop.calls k1 _ _ x3 _ d _ (L36.out.go (by repeat (first | exact Below.refl _ _ | apply below_alloc | apply below_drew1 | apply pw_below_drewN))).C L36.out.le K4.out).mono ?_); rintro e v1 ⟨v, rfl, hN, hb⟩; obtain ⟨AD, cD, eD⟩ := Kd.N_slice hN; subst eD; have ND := Aside0.mk (Kd.N_lower (Kd.N_mono hN (ok' := fun _ => True) (fun _ _ => trivial)) (show Below w3.heap.size w3 _ from (by repeat (first | exact Below.refl _ _ | apply below_alloc | apply below_drew1 | apply pw_below_drewN))).size); (try have NS : Aside0 (∀ k, (Value.slice AD d.length cD).ownBlock = some k → w3.heap.size + 1 ≤ k) := ⟨fun k hk => by have h1 := Kd.N_base hN k hk; simpa using h1⟩); (try have hl : Aside0 (v1.heap[w3.heap.size]? = some (.cells #[.string (rd_T32 t x12).f0.f0, .slice B1 (rd_T32 t x12).f0.f1.length b1, .string (rd_T32 t x12).f1.f0, .slice B3 (rd_T32 t x12).f1.f1.length b3] 32 (0, 0))) := ⟨blk_below (blk_drew (blk_new w3 (.cells #[.string (rd_T32 t x12).f0.f0, .slice B1 (rd_T32 t x12).f0.f1.length b1, .string (rd_T32 t x12).f1.f0, .slice B3 (rd_T32 t x12).f1.f1.length b3] 32 (0, 0)))) hb⟩); have HV1 := Aside0.mk (below_step (show Below w3.heap.size w3 _ from (by repeat (first | exact Below.refl _ _ | apply below_alloc | apply below_drew1 | apply pw_below_drewN))) hb); clear hN)
          | (refine Kd.N_append_rows_step k32 (w0 := w3) w3.heap.size (by rfl) (.tmp 35) (.tmp 37) 28 32 (.agg #[(.string ⟨#[]⟩), (.slice none 0 0), (.string ⟨#[]⟩), (.slice none 0 0)]) 80 rfl Tryd.underlying28 info32 rfl (by decide) (by omega) (.slice AD d.length cD) d [rd_T32 t x12] _ _ _ (fun _ => True) _ rfl rfl (Kd.N_below ND.out (by repeat (first | exact Below.refl _ _ | apply below_alloc | apply below_drew1 | apply pw_below_drewN))) (lit32_F (rd_T32 t x12) (by first | exact hl.out | exact blk_new _ _) (by repeat (first | exact HV1.out | exact Below.refl _ _ | apply below_alloc | apply below_drew1 | apply pw_below_drewN)) U16.out U36.out) (fun k hk => ⟨trivial, fun he => by first | (have h1 := NS.out k he.symm; rcases hk with hk | rfl <;> omega) | (have h1 := Kd.N_base ND.out k he.symm; have h2 := Kd.N_lt ND.out k he.symm; rcases hk with hk | rfl <;> omega)⟩) (fun _ _ => trivial) (by repeat (first | exact HV1.out | exact Below.refl _ _ | apply below_alloc | apply below_drew1 | apply pw_below_drewN)) (show Below w3.heap.size w3 _ from (by repeat (first | exact HV1.out | exact Below.refl _ _ | apply below_alloc | apply below_drew1 | apply pw_below_drewN))).size (by have := LM.out; omega) ?_; intro v2 w4 ho hb hg hat; rw [← HY.out] at ho; obtain ⟨AY, cY, eY⟩ := Kd.N_slice ho; subst eY; have LY := Aside0.mk (Tx32.of ho); have HV2 := Aside0.mk hb; clear ho hg hat)))
    all_goals
      go_wp2_with fail
      go_roundg k1
      case measure => omega
      case rel => exact ⟨y, AY, cY, wrap64 (x12 + 1), rfl, rfl, H3, ⟨by have := HK.out; omega⟩, LY, ⟨below_step HC6.out HV2.out⟩⟩
end Go.Proofs.YtljmmhihdcnbaaaDoor.G
