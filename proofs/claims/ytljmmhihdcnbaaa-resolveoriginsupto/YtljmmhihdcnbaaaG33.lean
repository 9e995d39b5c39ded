-- Written for this claim by hybrid.py's copy of the print program (a program of this session); not trusted: Lean checks it.
import Derived.Test.YtljmmhihdcnbaaaG0
import Derived.Test.YtljmmhihdcnbaaaG7
import Derived.Test.YtljmmhihdcnbaaaG12
import Derived.Test.YtljmmhihdcnbaaaG16
import Derived.Test.YtljmmhihdcnbaaaG19
import Derived.Test.YtljmmhihdcnbaaaG20
import Derived.Test.YtljmmhihdcnbaaaG22
import Derived.Test.YtljmmhihdcnbaaaG26
import Derived.Test.YtljmmhihdcnbaaaG27
import Derived.Test.YtljmmhihdcnbaaaG29
import Derived.Test.YtljmmhihdcnbaaaG32
namespace Go.Proofs.Ytljmmhihdcnbaaa.G
open Go.RowKit Go.Proofs.YtljmmhihdcnbaaaW.PrintWords Go.Proofs.YtljmmhihdcnbaaaW.PrintLast Go.Proofs.YtljmmhihdcnbaaaW.PrintMore
attribute [local go_sem] max2_int min2_int max_two min_two max_three min_three max_four min_four   -- for this text's walks alone
set_option linter.unusedVariables false
set_option linter.unusedSimpArgs false

/-! ### resolve_Join: function 85 -/
def resolve_Join.lead (k : Nat) (n1 : ByteArray) (n2 : List S85) : Option (ByteArray × List S85) := (mark_Of.f (⟨#[58]⟩ : ByteArray) 0).bind fun c => mark_Cat.f k [⟨n1, n2⟩, ⟨c.1, c.2⟩]
def resolve_Join.a13 (k : Nat) (a : ByteArray) (l : List S85) (d1 : ByteArray) (d2 : List S85) (p1 : ByteArray) (p2 : List S85) (r1 : ByteArray) (r2 : List S85) : Option (ByteArray × List S85) :=
  (resolve_Dots.f k p1 p2).bind fun x => (resolve_query.f k a l).bind fun y => mark_Cat.f k [⟨d1, d2⟩, ⟨x.1, x.2⟩, ⟨y.1, y.2⟩, ⟨r1, r2⟩]
def resolve_Join.a15 (k : Nat) (d1 : ByteArray) (d2 : List S85) (p1 : ByteArray) (p2 : List S85) (r1 : ByteArray) (r2 : List S85) : Option (ByteArray × List S85) :=
  (resolve_Dots.f k p1 p2).bind fun x => mark_Cat.f k [⟨d1, d2⟩, ⟨x.1, x.2⟩, ⟨r1, r2⟩]
def resolve_Join.a18 (k : Nat) (d1 : ByteArray) (d2 : List S85) (p1 : ByteArray) (p2 : List S85) (o1 : ByteArray) (o2 : List S85) (m1 : ByteArray) (m2 : List S85) : Option (ByteArray × List S85) :=
  (resolve_folder.f k p1 p2).bind fun x => (mark_Cat.f k [⟨x.1, x.2⟩, ⟨o1, o2⟩]).bind fun y => (resolve_Dots.f k y.1 y.2).bind fun z => mark_Cat.f k [⟨d1, d2⟩, ⟨z.1, z.2⟩, ⟨m1, m2⟩]
def resolve_Join.g (k : Nat) (a : ByteArray) (l : List S85) (d1 : ByteArray) (d2 : List S85) (p1 : ByteArray) (p2 : List S85) (r1 : ByteArray) (r2 : List S85) (o1 : ByteArray) (o2 : List S85) (m1 : ByteArray) (m2 : List S85) : Option (ByteArray × List S85) :=
  if r1.toList = ([] : List UInt8) then resolve_Join.a13 k a l d1 d2 p1 p2 r1 r2 else if bt r1 0 = 35 then resolve_Join.a13 k a l d1 d2 p1 p2 r1 r2 else if bt r1 0 = 63 then resolve_Join.a15 k d1 d2 p1 p2 r1 r2 else if bt r1 0 = 47 then resolve_Join.a15 k d1 d2 o1 o2 m1 m2 else resolve_Join.a18 k d1 d2 p1 p2 o1 o2 m1 m2
def resolve_Join.f2 (k : Nat) (a : ByteArray) (l : List S85) (n1 : ByteArray) (n2 : List S85) (q1 : ByteArray) (q2 : List S85) (r1 : ByteArray) (r2 : List S85) : Option (ByteArray × List S85) :=
  (resolve_tail.f k q1 q2).bind fun p => (resolve_tail.f k r1 r2).bind fun o => (resolve_Join.lead k n1 n2).bind fun d => resolve_Join.g k a l d.1 d.2 p.1 p.2.1 r1 r2 o.1 o.2.1 o.2.2.1 o.2.2.2
def resolve_Join.f1 (k : Nat) (a : ByteArray) (l : List S85) (b : ByteArray) (m : List S85) (n1 : ByteArray) (n2 : List S85) (q1 : ByteArray) (q2 : List S85) : Option (ByteArray × List S85 × Bool) :=
  (url_Ready.f k b m).bind fun r => (url_Scheme.f k r.1 r.2).bind fun u => if u.2.2 = true then some (r.1, r.2, true) else (resolve_Join.f2 k a l n1 n2 q1 q2 r.1 r.2).bind fun x => some (x.1, x.2, true)
def resolve_Join.f (k : Nat) (a0_0 : ByteArray) (l0_1 : List (S85)) (a1_0 : ByteArray) (l1_1 : List (S85)) : Option (ByteArray × List S85 × Bool) :=
  (url_Scheme.f k a0_0 l0_1).bind fun n => (url_Rest.f k a0_0 l0_1).bind fun q =>
    if n.2.2 = true then (strings_HasPrefix.f q.1 (⟨#[47]⟩ : ByteArray)).bind fun h => if h = true then resolve_Join.f1 k a0_0 l0_1 a1_0 l1_1 n.1 n.2.1 q.1 q.2 else some ((⟨#[]⟩ : ByteArray), [], false)
    else some ((⟨#[]⟩ : ByteArray), [], false)
theorem resolve_Join.mono : ∀ a0 a1 a2 a3 k, LeO (resolve_Join.f k a0 a1 a2 a3) (resolve_Join.f (k + 1) a0 a1 a2 a3) := by
  intro a0 a1 a2 a3 k
  unfold resolve_Join.f resolve_Join.f1 resolve_Join.f2 resolve_Join.g resolve_Join.lead resolve_Join.a13 resolve_Join.a15 resolve_Join.a18
  repeat' first
    | (with_reducible exact url_Scheme.mono _ _ _)
    | (with_reducible exact url_Rest.mono _ _ _)
    | (with_reducible exact url_Ready.mono _ _ _)
    | (with_reducible exact resolve_tail.mono _ _ _)
    | (with_reducible exact resolve_Dots.mono _ _ _)
    | (with_reducible exact resolve_query.mono _ _ _)
    | (with_reducible exact resolve_folder.mono _ _ _)
    | (with_reducible exact mark_Cat.mono _ _)
    | (with_reducible exact LeO.refl _)
    | (with_reducible refine LeO.ite ?_ ?_)
    | (with_reducible refine LeO.bind ?_ (fun _ => ?_))
theorem C_lit {W : World} {g : Nat} {cells : Array Value} (h : W.heap[g]? = some (.cells cells 24 (0, 0))) {xs : List S24} (hr : Reps (fun x c => k24.K W x c ∧ c.length = 2) 2 xs cells.toList) (hl : xs.length ≤ 1000) : Kd.C k24 W (some ⟨g, 0, none⟩) xs.length xs := by
  refine ⟨rfl, by omega, fun _ => ⟨⟨g, 0, none⟩, rfl, fun j p hj => ?_⟩⟩
  obtain ⟨hk, hlen⟩ := hr.2 j p hj
  refine ⟨_, hlen, hk, fun i u hu => ?_⟩
  rw [add_plain, blk_cell h]
  have hi : i < 2 := by
    have := (List.getElem?_eq_some_iff.1 hu).1
    omega
  rw [List.getElem?_take, if_pos hi, List.getElem?_drop] at hu
  rw [← Array.getElem?_toList]
  exact hu
theorem rep1 {W : World} {t : ByteArray} {A : Option Addr} {l : List S85} {c : Nat} (h : Kd.C k85 W A l.length l) (hc : l.length ≤ c) : k24.K W ⟨t, l⟩ [.string t, .slice A l.length c] ∧ [Value.string t, .slice A l.length c].length = 2 := ⟨k24_mk W ⟨t, l⟩ hc h, rfl⟩
/-- A labelled text that can be read: its slice's address and capacity. -/
structure Txt (W : World) (A : Option Addr) (c : Nat) (l : List S85) : Prop where
  C : Kd.C k85 W A l.length l
  le : l.length ≤ c
theorem Txt.go {W W1 : World} {A : Option Addr} {c : Nat} {l : List S85} (h : Txt W A c l) (hb : Below W.heap.size W W1) : Txt W1 A c l := ⟨Kd.C_below h.C hb, h.le⟩
theorem C_lit2 {W : World} {g : Nat} {t0 t1 : ByteArray} {A0 A1 : Option Addr} {l0 l1 : List S85} {c0 c1 : Nat} (h : W.heap[g]? = some (.cells #[.string t0, .slice A0 l0.length c0, .string t1, .slice A1 l1.length c1] 24 (0, 0))) (h0 : Txt W A0 c0 l0) (h1 : Txt W A1 c1 l1) :
    Kd.C k24 W (some ⟨g, 0, none⟩) [(⟨t0, l0⟩ : S24), ⟨t1, l1⟩].length [⟨t0, l0⟩, ⟨t1, l1⟩] := by
  have r := ((((Reps.none (fun x c => k24.K W x c ∧ c.length = 2) 2).snoc (rep1 (t := t0) h0.C h0.le) rfl)).snoc (rep1 (t := t1) h1.C h1.le) rfl)
  exact C_lit h r (by simp)
theorem C_lit3 {W : World} {g : Nat} {t0 t1 t2 : ByteArray} {A0 A1 A2 : Option Addr} {l0 l1 l2 : List S85} {c0 c1 c2 : Nat} (h : W.heap[g]? = some (.cells #[.string t0, .slice A0 l0.length c0, .string t1, .slice A1 l1.length c1, .string t2, .slice A2 l2.length c2] 24 (0, 0))) (h0 : Txt W A0 c0 l0) (h1 : Txt W A1 c1 l1) (h2 : Txt W A2 c2 l2) :
    Kd.C k24 W (some ⟨g, 0, none⟩) [(⟨t0, l0⟩ : S24), ⟨t1, l1⟩, ⟨t2, l2⟩].length [⟨t0, l0⟩, ⟨t1, l1⟩, ⟨t2, l2⟩] := by
  have r := ((((((Reps.none (fun x c => k24.K W x c ∧ c.length = 2) 2).snoc (rep1 (t := t0) h0.C h0.le) rfl)).snoc (rep1 (t := t1) h1.C h1.le) rfl)).snoc (rep1 (t := t2) h2.C h2.le) rfl)
  exact C_lit h r (by simp)
theorem C_lit4 {W : World} {g : Nat} {t0 t1 t2 t3 : ByteArray} {A0 A1 A2 A3 : Option Addr} {l0 l1 l2 l3 : List S85} {c0 c1 c2 c3 : Nat} (h : W.heap[g]? = some (.cells #[.string t0, .slice A0 l0.length c0, .string t1, .slice A1 l1.length c1, .string t2, .slice A2 l2.length c2, .string t3, .slice A3 l3.length c3] 24 (0, 0))) (h0 : Txt W A0 c0 l0) (h1 : Txt W A1 c1 l1) (h2 : Txt W A2 c2 l2) (h3 : Txt W A3 c3 l3) :
    Kd.C k24 W (some ⟨g, 0, none⟩) [(⟨t0, l0⟩ : S24), ⟨t1, l1⟩, ⟨t2, l2⟩, ⟨t3, l3⟩].length [⟨t0, l0⟩, ⟨t1, l1⟩, ⟨t2, l2⟩, ⟨t3, l3⟩] := by
  have r := ((((((((Reps.none (fun x c => k24.K W x c ∧ c.length = 2) 2).snoc (rep1 (t := t0) h0.C h0.le) rfl)).snoc (rep1 (t := t1) h1.C h1.le) rfl)).snoc (rep1 (t := t2) h2.C h2.le) rfl)).snoc (rep1 (t := t3) h3.C h3.le) rfl)
  exact C_lit h r (by simp)
theorem Cat2 (k : Nat) (t0 : ByteArray) (A0 : Option Addr) (l0 : List S85) (c0 : Nat) (t1 : ByteArray) (A1 : Option Addr) (l1 : List S85) (c1 : Nat) (r1 : ByteArray) (r2 : List S85) (W : World) (g : Nat) (hW : W.heap[g]? = some (.cells #[.string t0, .slice A0 l0.length c0, .string t1, .slice A1 l1.length c1] 24 (0, 0))) (h0 : Txt W A0 c0 l0) (h1 : Txt W A1 c1 l1) (h : mark_Cat.f k [(⟨t0, l0⟩ : S24), ⟨t1, l1⟩] = some (r1, r2)) :
    Calls Try.prog 47 #[.slice (some ⟨g, 0, none⟩) 2 2] W fun e w' => ∃ v1_ : Value, e = .returned (.agg #[.string r1, v1_]) ∧ Kd.R k85 85 w' W.heap.size (fun _ => True) v1_ r2 ∧ Below W.heap.size W w' :=
  mark_Cat.calls k (some ⟨g, 0, none⟩) 2 [(⟨t0, l0⟩ : S24), ⟨t1, l1⟩] r1 r2 W (C_lit2 hW h0 h1) (by simp) h
theorem Cat3 (k : Nat) (t0 : ByteArray) (A0 : Option Addr) (l0 : List S85) (c0 : Nat) (t1 : ByteArray) (A1 : Option Addr) (l1 : List S85) (c1 : Nat) (t2 : ByteArray) (A2 : Option Addr) (l2 : List S85) (c2 : Nat) (r1 : ByteArray) (r2 : List S85) (W : World) (g : Nat) (hW : W.heap[g]? = some (.cells #[.string t0, .slice A0 l0.length c0, .string t1, .slice A1 l1.length c1, .string t2, .slice A2 l2.length c2] 24 (0, 0))) (h0 : Txt W A0 c0 l0) (h1 : Txt W A1 c1 l1) (h2 : Txt W A2 c2 l2) (h : mark_Cat.f k [(⟨t0, l0⟩ : S24), ⟨t1, l1⟩, ⟨t2, l2⟩] = some (r1, r2)) :
    Calls Try.prog 47 #[.slice (some ⟨g, 0, none⟩) 3 3] W fun e w' => ∃ v1_ : Value, e = .returned (.agg #[.string r1, v1_]) ∧ Kd.R k85 85 w' W.heap.size (fun _ => True) v1_ r2 ∧ Below W.heap.size W w' :=
  mark_Cat.calls k (some ⟨g, 0, none⟩) 3 [(⟨t0, l0⟩ : S24), ⟨t1, l1⟩, ⟨t2, l2⟩] r1 r2 W (C_lit3 hW h0 h1 h2) (by simp) h
theorem Cat4 (k : Nat) (t0 : ByteArray) (A0 : Option Addr) (l0 : List S85) (c0 : Nat) (t1 : ByteArray) (A1 : Option Addr) (l1 : List S85) (c1 : Nat) (t2 : ByteArray) (A2 : Option Addr) (l2 : List S85) (c2 : Nat) (t3 : ByteArray) (A3 : Option Addr) (l3 : List S85) (c3 : Nat) (r1 : ByteArray) (r2 : List S85) (W : World) (g : Nat) (hW : W.heap[g]? = some (.cells #[.string t0, .slice A0 l0.length c0, .string t1, .slice A1 l1.length c1, .string t2, .slice A2 l2.length c2, .string t3, .slice A3 l3.length c3] 24 (0, 0))) (h0 : Txt W A0 c0 l0) (h1 : Txt W A1 c1 l1) (h2 : Txt W A2 c2 l2) (h3 : Txt W A3 c3 l3) (h : mark_Cat.f k [(⟨t0, l0⟩ : S24), ⟨t1, l1⟩, ⟨t2, l2⟩, ⟨t3, l3⟩] = some (r1, r2)) :
    Calls Try.prog 47 #[.slice (some ⟨g, 0, none⟩) 4 4] W fun e w' => ∃ v1_ : Value, e = .returned (.agg #[.string r1, v1_]) ∧ Kd.R k85 85 w' W.heap.size (fun _ => True) v1_ r2 ∧ Below W.heap.size W w' :=
  mark_Cat.calls k (some ⟨g, 0, none⟩) 4 [(⟨t0, l0⟩ : S24), ⟨t1, l1⟩, ⟨t2, l2⟩, ⟨t3, l3⟩] r1 r2 W (C_lit4 hW h0 h1 h2 h3) (by simp) h
/-- A variable of the call's own that holds a labelled text. -/
def Bx (W : World) (g : Nat) (t : ByteArray) (A : Option Addr) (c : Nat) (l : List S85) : Prop := W.heap[g]? = some (.cells #[.string t, .slice A l.length c] 24 (0, 0)) ∧ Txt W A c l
theorem Bx.go {W W1 : World} {g : Nat} {t : ByteArray} {A : Option Addr} {c : Nat} {l : List S85} (h : Bx W g t A c l) (hb : Below W.heap.size W W1) : Bx W1 g t A c l := ⟨blk_below h.1 hb, h.2.go hb⟩
theorem Bx.c0 {W : World} {g : Nat} {t : ByteArray} {A : Option Addr} {c : Nat} {l : List S85} (h : Bx W g t A c l) : W.cell? ⟨g, 0, none⟩ = some (.string t) := blk_cell h.1 0
theorem Bx.c1 {W : World} {g : Nat} {t : ByteArray} {A : Option Addr} {c : Nat} {l : List S85} (h : Bx W g t A c l) : W.cell? ⟨g, 1, none⟩ = some (.slice A l.length c) := blk_cell h.1 1
theorem Bx.txt {W : World} {g : Nat} {t : ByteArray} {A : Option Addr} {c : Nat} {l : List S85} (h : Bx W g t A c l) : Txt W A c l := h.2
theorem Bx.new {W : World} {t : ByteArray} {A : Option Addr} {c : Nat} {l : List S85} (h : Txt W A c l) : Bx (W.alloc (.cells #[.string t, .slice A l.length c] 24)) W.heap.size t A c l := ⟨blk_new _ _, h.go (below_alloc (Below.refl _ _) _)⟩
theorem Txt.of {W : World} {base : Nat} {ok : Nat → Prop} {A : Option Addr} {n c : Nat} {l : List S85} (h : Kd.R k85 85 W base ok (.slice A n c) l) : Txt W A c l := ⟨(Kd.R_reads' h).2.2, (Kd.R_reads' h).1 ▸ (Kd.R_reads' h).2.1⟩
set_option maxHeartbeats 6400000 in
set_option maxRecDepth 100000 in
theorem resolve_Join.calls (k : Nat) (a0_0 : ByteArray) (A0_1 : Option Addr) (c0_1 : Nat) (l0_1 : List (S85)) (a1_0 : ByteArray) (A1_1 : Option Addr) (c1_1 : Nat) (l1_1 : List (S85)) (r1 : ByteArray) (r2 : List (S85)) (r3 : Bool) (w : World) (hr0_1 : Kd.C k85 w A0_1 l0_1.length l0_1) (hc0_1 : l0_1.length ≤ c0_1) (hr1_1 : Kd.C k85 w A1_1 l1_1.length l1_1) (hc1_1 : l1_1.length ≤ c1_1) (h : resolve_Join.f k a0_0 l0_1 a1_0 l1_1 = some (r1, r2, r3)) :
    Calls Try.prog 85 #[.agg #[.string a0_0, .slice A0_1 l0_1.length c0_1], .agg #[.string a1_0, .slice A1_1 l1_1.length c1_1]] w fun e w' => ∃ v1_ : Value, e = .returned (.tuple #[.agg #[.string r1, v1_], .bool r3]) ∧ Kd.R k85 85 w' w.heap.size (fun _ => True) v1_ r2 ∧ Below w.heap.size w w' := by
  have hu24 := Try.underlying24
  obtain ⟨⟨n1, n2, n3⟩, hn, h⟩ := Option.bind_eq_some_iff.mp h
  obtain ⟨⟨q1, q2⟩, hq, h⟩ := Option.bind_eq_some_iff.mp h
  have HN := Aside0.mk hn
  have HQ := Aside0.mk hq
  have HH := Aside0.mk h
  have HT0 := Aside0.mk (Txt.mk hr0_1 hc0_1)
  have HT1 := Aside0.mk (Txt.mk hr1_1 hc1_1)
  clear hn hq h hr0_1 hc0_1 hr1_1 hc1_1
  obtain ⟨W0, HW0⟩ : ∃ W0 : World, W0 = ((w.alloc (.cells #[.string a0_0, .slice A0_1 l0_1.length c0_1] 24)).alloc (.cells #[.string a1_0, .slice A1_1 l1_1.length c1_1] 24)).alloc (.cells #[.string ⟨#[]⟩, .slice none 0 0] 24) := ⟨_, rfl⟩
  have HB : Aside0 (Below w.heap.size w W0) := ⟨by rw [HW0]; exact below_alloc (below_alloc (below_alloc (Below.refl _ _) _) _) _⟩
  have X2 : Aside0 (Bx W0 w.heap.size a0_0 A0_1 c0_1 l0_1) := ⟨by rw [HW0]; exact ((Bx.new HT0.out).go (below_alloc (Below.refl _ _) _)).go (below_alloc (Below.refl _ _) _)⟩
  have X3 : Aside0 (Bx W0 (w.heap.size + 1) a1_0 A1_1 c1_1 l1_1) := ⟨by
    rw [HW0]
    have h1 := Bx.new (t := a1_0) (HT1.out.go (below_alloc (Below.refl w.heap.size w) (.cells #[.string a0_0, .slice A0_1 l0_1.length c0_1] 24)))
    have h2 := h1.go (below_alloc (Below.refl _ _) (.cells #[.string ⟨#[]⟩, .slice none 0 0] 24))
    simpa using h2⟩
  have X4 : Aside0 (W0.heap[w.heap.size + 1 + 1]? = some (.cells #[.string ⟨#[]⟩, .slice none 0 0] 24 (0, 0))) := ⟨by rw [HW0]; simpa using blk_new ((w.alloc (.cells #[.string a0_0, .slice A0_1 l0_1.length c0_1] 24)).alloc (.cells #[.string a1_0, .slice A1_1 l1_1.length c1_1] 24)) (.cells #[.string ⟨#[]⟩, .slice none 0 0] 24)⟩
  have HW0' := Aside0.mk HW0
  clear HW0 HT0 HT1
  go_enter Try.func85, Try.ntmps85
  go_upto_region 1 with fail
  rw [← HW0'.out]
  clear HW0'
  have z0 := X2.out.c0
  have z1 := X2.out.c1
  go_wp2_with fail
  refine (url_Scheme.calls k a0_0 _ _ l0_1 n1 n2 n3 _ X2.out.2.C X2.out.2.le HN.out).mono ?_
  rintro e w1 ⟨v, rfl, hR, hb⟩
  obtain ⟨A6, c6, e6⟩ := Kd.R_slice hR
  subst e6
  have T6 := Txt.of hR
  have HB1 := Aside0.mk (below_alloc (below_step HB.out hb) (.cells #[.string n1, .slice A6 n2.length c6] 24))
  have X21 := Aside0.mk ((X2.out.go hb).go (below_alloc (Below.refl _ _) (.cells #[.string n1, .slice A6 n2.length c6] 24)))
  have X31 := Aside0.mk ((X3.out.go hb).go (below_alloc (Below.refl _ _) (.cells #[.string n1, .slice A6 n2.length c6] 24)))
  have X41 := Aside0.mk (blk_alloc (blk_below X4.out hb) (.cells #[.string n1, .slice A6 n2.length c6] 24))
  have X61 := Aside0.mk (Bx.new (t := n1) T6)
  clear z0 z1 hR hb T6 HB X2 X3 X4
  go_upto_region 2 with fail
  obtain ⟨W1, HW1⟩ : ∃ W1 : World, w1.alloc (.cells #[.string n1, .slice A6 n2.length c6] 24) = W1 := ⟨_, rfl⟩
  rw [HW1] at HB1 X21 X31 X41 X61 ⊢
  clear HW1
  obtain ⟨g6, hg6⟩ : ∃ g6 : Nat, w1.heap.size = g6 := ⟨_, rfl⟩
  rw [hg6] at X61 ⊢
  clear hg6
  have z0 := X21.out.c0
  have z1 := X21.out.c1
  go_wp2_with fail
  refine (url_Rest.calls k a0_0 _ _ l0_1 q1 q2 _ X21.out.2.C X21.out.2.le HQ.out).mono ?_
  rintro e w2 ⟨v, rfl, hR, hb⟩
  obtain ⟨A8, c8, e8⟩ := Kd.R_slice hR
  subst e8
  have T8 := Txt.of hR
  have HB2 := Aside0.mk (below_alloc (below_step HB1.out hb) (.cells #[.string q1, .slice A8 q2.length c8] 24))
  have X22 := Aside0.mk ((X21.out.go hb).go (below_alloc (Below.refl _ _) (.cells #[.string q1, .slice A8 q2.length c8] 24)))
  have X32 := Aside0.mk ((X31.out.go hb).go (below_alloc (Below.refl _ _) (.cells #[.string q1, .slice A8 q2.length c8] 24)))
  have X42 := Aside0.mk (blk_alloc (blk_below X41.out hb) (.cells #[.string q1, .slice A8 q2.length c8] 24))
  have X62 := Aside0.mk ((X61.out.go hb).go (below_alloc (Below.refl _ _) (.cells #[.string q1, .slice A8 q2.length c8] 24)))
  have X82 := Aside0.mk (Bx.new (t := q1) T8)
  clear z0 z1 hR hb T8 HB1 X21 X31 X41 X61
  go_upto_region 3 with fail
  obtain ⟨W2, HW2⟩ : ∃ W2 : World, w2.alloc (.cells #[.string q1, .slice A8 q2.length c8] 24) = W2 := ⟨_, rfl⟩
  rw [HW2] at HB2 X22 X32 X42 X62 X82 ⊢
  clear HW2
  obtain ⟨g8, hg8⟩ : ∃ g8 : Nat, w2.heap.size = g8 := ⟨_, rfl⟩
  rw [hg8] at X82 ⊢
  clear hg8
  have z0 := X82.out.c0
  have z1 := X82.out.c1
  have zf0 := blk_frozen X42.out 0
  have zf1 := blk_frozen X42.out 1
  have zr0 := blk_cell X42.out 0
  have zr1 := blk_cell X42.out 1
  cases n3 with
  | false =>
    replace HH : (some ((⟨#[]⟩ : ByteArray), ([] : List S85), false) : Option (ByteArray × List S85 × Bool)) = some (r1, r2, r3) := HH.out
    cases HH
    go_wp2_with fail
    refine bodyPost_ret (results_ct rfl _ _ (w.heap.size + 1 + 1) 24 #[.string (⟨#[]⟩ : ByteArray), .slice none 0 0] (0, 0) _ rfl (blk_put (cs := #[.string (⟨#[]⟩ : ByteArray), .slice none 0 0]) (blk_put (cs := #[.string (⟨#[]⟩ : ByteArray), .slice none 0 0]) X42.out 0 _ rfl) 1 _ rfl) Try.underlying24 rfl (by kernel_rfl)) rfl ?_
    exact ⟨_, rfl, Kd.R_nil _ _ _ _ _, below_set (below_set HB2.out (by omega)) (by omega)⟩
  | true =>
    have H : (strings_HasPrefix.f q1 (⟨#[47]⟩ : ByteArray)).bind (fun h => if h = true then resolve_Join.f1 k a0_0 l0_1 a1_0 l1_1 n1 n2 q1 q2 else some ((⟨#[]⟩ : ByteArray), [], false)) = some (r1, r2, r3) := HH.out
    clear HH
    obtain ⟨b, hp, H⟩ := Option.bind_eq_some_iff.mp H
    have HP := Aside0.mk hp
    clear hp
    cases b with
    | false =>
      replace H : (some ((⟨#[]⟩ : ByteArray), ([] : List S85), false) : Option (ByteArray × List S85 × Bool)) = some (r1, r2, r3) := H
      cases H
      go_wp2_with fail
      refine (strings_HasPrefix.calls q1 _ false _ HP.out).mono ?_
      rintro e w3 ⟨rfl, hd⟩
      have HB3 := Aside0.mk (below_step HB2.out hd.below)
      have X43 := Aside0.mk (blk_below X42.out hd.below)
      clear zf0 zf1 zr0 zr1
      have zf0 := blk_frozen X43.out 0
      have zf1 := blk_frozen X43.out 1
      have zr0 := blk_cell X43.out 0
      have zr1 := blk_cell X43.out 1
      go_wp2_with fail
      refine bodyPost_ret (results_ct rfl _ _ (w.heap.size + 1 + 1) 24 #[.string (⟨#[]⟩ : ByteArray), .slice none 0 0] (0, 0) _ rfl (blk_put (cs := #[.string (⟨#[]⟩ : ByteArray), .slice none 0 0]) (blk_put (cs := #[.string (⟨#[]⟩ : ByteArray), .slice none 0 0]) X43.out 0 _ rfl) 1 _ rfl) Try.underlying24 rfl (by kernel_rfl)) rfl ?_
      exact ⟨_, rfl, Kd.R_nil _ _ _ _ _, below_set (below_set HB3.out (by omega)) (by omega)⟩
    | true =>
      replace H : resolve_Join.f1 k a0_0 l0_1 a1_0 l1_1 n1 n2 q1 q2 = some (r1, r2, r3) := H
      obtain ⟨⟨t1, t2⟩, hrd, H⟩ := Option.bind_eq_some_iff.mp H
      obtain ⟨⟨u1, u2, u3⟩, hu, H⟩ := Option.bind_eq_some_iff.mp H
      have HRD := Aside0.mk hrd
      have HU := Aside0.mk hu
      have HH := Aside0.mk H
      clear hrd hu H
      go_wp2_with fail
      refine (strings_HasPrefix.calls q1 _ true _ HP.out).mono ?_
      rintro e w3 ⟨rfl, hd⟩
      have hb := hd.below
      have HB3 := Aside0.mk (below_step HB2.out hb)
      have X23 := Aside0.mk (X22.out.go hb)
      have X33 := Aside0.mk (X32.out.go hb)
      have X43 := Aside0.mk (blk_below X42.out hb)
      have X63 := Aside0.mk (X62.out.go hb)
      have X83 := Aside0.mk (X82.out.go hb)
      clear zf0 zf1 zr0 zr1 z0 z1 hd hb HB2 X22 X32 X42 X62 X82
      have z0 := X33.out.c0
      have z1 := X33.out.c1
      go_wp2_with fail
      refine (url_Ready.calls k a1_0 _ _ l1_1 t1 t2 _ X33.out.2.C X33.out.2.le HRD.out).mono ?_
      rintro e w4 ⟨v, rfl, hR, hb⟩
      obtain ⟨A9, c9, e9⟩ := Kd.R_slice hR
      subst e9
      have T9 := Txt.of hR
      have HB4 := Aside0.mk (below_alloc (below_step HB3.out hb) (.cells #[.string t1, .slice A9 t2.length c9] 24))
      have X24 := Aside0.mk ((X23.out.go hb).go (below_alloc (Below.refl _ _) (.cells #[.string t1, .slice A9 t2.length c9] 24)))
      have X64 := Aside0.mk ((X63.out.go hb).go (below_alloc (Below.refl _ _) (.cells #[.string t1, .slice A9 t2.length c9] 24)))
      have X84 := Aside0.mk ((X83.out.go hb).go (below_alloc (Below.refl _ _) (.cells #[.string t1, .slice A9 t2.length c9] 24)))
      have X44 := Aside0.mk (blk_alloc (blk_below X43.out hb) (.cells #[.string t1, .slice A9 t2.length c9] 24))
      have X94 := Aside0.mk (Bx.new (t := t1) T9)
      have hn9 : w.heap.size + 1 + 1 < w4.heap.size := by
        have h1 := blk_lt X43.out
        have h2 := hb.size
        omega
      have HR4 := Aside0.mk (Kd.R_alloc (Kd.R_lower hR HB3.out.size) (.cells #[.string t1, .slice A9 t2.length c9] 24))
      clear z0 z1 hR hb T9 HB3 X23 X33 X43 X63 X83
      go_upto_region 6 with fail
      obtain ⟨W4, HW4⟩ : ∃ W4 : World, w4.alloc (.cells #[.string t1, .slice A9 t2.length c9] 24) = W4 := ⟨_, rfl⟩
      rw [HW4] at HB4 X24 X44 X64 X84 X94 HR4 ⊢
      clear HW4
      obtain ⟨g9, hg9⟩ : ∃ g9 : Nat, w4.heap.size = g9 := ⟨_, rfl⟩
      rw [hg9] at X94 hn9 ⊢
      clear hg9
      have z0 := X94.out.c0
      have z1 := X94.out.c1
      go_wp2_with fail
      refine (url_Scheme.calls k t1 _ _ t2 u1 u2 u3 _ X94.out.2.C X94.out.2.le HU.out).mono ?_
      rintro e w5 ⟨v, rfl, hR, hb⟩
      obtain ⟨A10, c10, e10⟩ := Kd.R_slice hR
      subst e10
      have T10 := Txt.of hR
      have HB5 := Aside0.mk (below_alloc (below_step HB4.out hb) (.cells #[.string u1, .slice A10 u2.length c10] 24))
      have X25 := Aside0.mk ((X24.out.go hb).go (below_alloc (Below.refl _ _) (.cells #[.string u1, .slice A10 u2.length c10] 24)))
      have X65 := Aside0.mk ((X64.out.go hb).go (below_alloc (Below.refl _ _) (.cells #[.string u1, .slice A10 u2.length c10] 24)))
      have X85 := Aside0.mk ((X84.out.go hb).go (below_alloc (Below.refl _ _) (.cells #[.string u1, .slice A10 u2.length c10] 24)))
      have X95 := Aside0.mk ((X94.out.go hb).go (below_alloc (Below.refl _ _) (.cells #[.string u1, .slice A10 u2.length c10] 24)))
      have X45 := Aside0.mk (blk_alloc (blk_below X44.out hb) (.cells #[.string u1, .slice A10 u2.length c10] 24))
      have X105 := Aside0.mk (Bx.new (t := u1) T10)
      have HR5 := Aside0.mk (Kd.R_alloc (Kd.R_below HR4.out hb) (.cells #[.string u1, .slice A10 u2.length c10] 24))
      clear z0 z1 hR hb T10 HB4 X24 X44 X64 X84 X94 HR4
      go_upto_region 7 with fail
      obtain ⟨W5, HW5⟩ : ∃ W5 : World, w5.alloc (.cells #[.string u1, .slice A10 u2.length c10] 24) = W5 := ⟨_, rfl⟩
      rw [HW5] at HB5 X25 X45 X65 X85 X95 X105 HR5 ⊢
      clear HW5
      obtain ⟨g10, hg10⟩ : ∃ g10 : Nat, w5.heap.size = g10 := ⟨_, rfl⟩
      rw [hg10] at X105 ⊢
      clear hg10 X105
      cases u3 with
      | true =>
        replace HH : (some (t1, t2, true) : Option (ByteArray × List S85 × Bool)) = some (r1, r2, r3) := HH.out
        cases HH
        have z0 := X95.out.c0
        have z1 := X95.out.c1
        have zf0 := blk_frozen X45.out 0
        have zf1 := blk_frozen X45.out 1
        have zr0 := blk_cell X45.out 0
        have zr1 := blk_cell X45.out 1
        go_wp2_with fail
        refine bodyPost_ret (results_ct rfl _ _ (w.heap.size + 1 + 1) 24 #[.string r1, .slice A9 r2.length c9] (0, 0) _ rfl (blk_put (cs := #[.string r1, .slice none 0 0]) (blk_put (cs := #[.string (⟨#[]⟩ : ByteArray), .slice none 0 0]) X45.out 0 _ rfl) 1 _ rfl) Try.underlying24 rfl (by kernel_rfl)) rfl ?_
        exact ⟨_, rfl, Kd.R_mono (Kd.R_far (p := ⟨w.heap.size + 1 + 1, 1, none⟩) (Kd.R_far (p := ⟨w.heap.size + 1 + 1, 0, none⟩) (Kd.R_types HR5.out X45.out (by decide)) (fun _ hk => hk.2) (.string r1)) (fun _ hk => hk.2) (.slice A9 r2.length c9)) (fun _ _ => trivial), below_set (below_set HB5.out (by omega)) (by omega)⟩
      | false =>
        obtain ⟨⟨s1, s2⟩, h2, H⟩ := Option.bind_eq_some_iff.mp (show (resolve_Join.f2 k a0_0 l0_1 n1 n2 q1 q2 t1 t2).bind (fun x => some (x.1, x.2, true)) = some (r1, r2, r3) from HH.out)
        cases H
        clear HH
        obtain ⟨⟨p1, p2, p3, p4⟩, hp, h2⟩ := Option.bind_eq_some_iff.mp h2
        obtain ⟨⟨o1, o2, o3, o4⟩, ho, h2⟩ := Option.bind_eq_some_iff.mp h2
        obtain ⟨⟨d1, d2⟩, hd, h2⟩ := Option.bind_eq_some_iff.mp h2
        obtain ⟨⟨e1, e2⟩, he, hd⟩ := Option.bind_eq_some_iff.mp hd
        have HTP := Aside0.mk hp
        have HTO := Aside0.mk ho
        have HOF := Aside0.mk he
        have HLE := Aside0.mk hd
        have HG := Aside0.mk h2
        clear hp ho he hd h2
        have z0 := X85.out.c0
        have z1 := X85.out.c1
        go_wp2_with fail
        refine (resolve_tail.calls k q1 _ _ q2 p1 p2 p3 p4 _ X85.out.2.C X85.out.2.le HTP.out).mono ?_
        rintro e w6 ⟨v, v', rfl, hR, hR', hb⟩
        obtain ⟨A12, c12, e12⟩ := Kd.R_slice hR
        subst e12
        obtain ⟨A13, c13, e13⟩ := Kd.R_slice hR'
        subst e13
        have T12 := Txt.of hR
        have T13 := Txt.of hR'
        have HB6 := Aside0.mk (below_alloc (below_alloc (below_step HB5.out hb) (.cells #[.string p1, .slice A12 p2.length c12] 24)) (.cells #[.string p3, .slice A13 p4.length c13] 24))
        have X26 := Aside0.mk (((X25.out.go hb).go (below_alloc (Below.refl _ _) (.cells #[.string p1, .slice A12 p2.length c12] 24))).go (below_alloc (Below.refl _ _) (.cells #[.string p3, .slice A13 p4.length c13] 24)))
        have X66 := Aside0.mk (((X65.out.go hb).go (below_alloc (Below.refl _ _) (.cells #[.string p1, .slice A12 p2.length c12] 24))).go (below_alloc (Below.refl _ _) (.cells #[.string p3, .slice A13 p4.length c13] 24)))
        have X96 := Aside0.mk (((X95.out.go hb).go (below_alloc (Below.refl _ _) (.cells #[.string p1, .slice A12 p2.length c12] 24))).go (below_alloc (Below.refl _ _) (.cells #[.string p3, .slice A13 p4.length c13] 24)))
        have X46 := Aside0.mk (blk_alloc (blk_alloc (blk_below X45.out hb) (.cells #[.string p1, .slice A12 p2.length c12] 24)) (.cells #[.string p3, .slice A13 p4.length c13] 24))
        have X126 := Aside0.mk ((Bx.new (t := p1) T12).go (below_alloc (Below.refl _ _) (.cells #[.string p3, .slice A13 p4.length c13] 24)))
        have X136 := Aside0.mk (Bx.new (t := p3) (T13.go (below_alloc (Below.refl w6.heap.size w6) (.cells #[.string p1, .slice A12 p2.length c12] 24))))
        rw [show (w6.alloc (.cells #[.string p1, .slice A12 p2.length c12] 24)).heap.size = w6.heap.size + 1 from by simp] at X136
        have hnX126 : w.heap.size + 1 + 1 < w6.heap.size := by
          have h1 := blk_lt X45.out
          have h2 := hb.size
          omega
        clear z0 z1 hR hR' hb T12 T13 HB5 X25 X45 X65 X85 X95 HR5 X136
        go_upto_region 10 with fail
        obtain ⟨W6, HW6⟩ : ∃ W6 : World, (w6.alloc (.cells #[.string p1, .slice A12 p2.length c12] 24)).alloc (.cells #[.string p3, .slice A13 p4.length c13] 24) = W6 := ⟨_, rfl⟩
        rw [HW6] at HB6 X26 X46 X66 X96 X126 ⊢
        clear HW6
        obtain ⟨g12, hg12⟩ : ∃ g12 : Nat, w6.heap.size = g12 := ⟨_, rfl⟩
        rw [hg12] at X126 hnX126 ⊢
        clear hg12
        have z0 := X96.out.c0
        have z1 := X96.out.c1
        go_wp2_with fail
        refine (resolve_tail.calls k t1 _ _ t2 o1 o2 o3 o4 _ X96.out.2.C X96.out.2.le HTO.out).mono ?_
        rintro e w7 ⟨v, v', rfl, hR, hR', hb⟩
        obtain ⟨A14, c14, e14⟩ := Kd.R_slice hR
        subst e14
        obtain ⟨A15, c15, e15⟩ := Kd.R_slice hR'
        subst e15
        have T14 := Txt.of hR
        have T15 := Txt.of hR'
        have HB7 := Aside0.mk (below_alloc (below_alloc (below_step HB6.out hb) (.cells #[.string o1, .slice A14 o2.length c14] 24)) (.cells #[.string o3, .slice A15 o4.length c15] 24))
        have X27 := Aside0.mk (((X26.out.go hb).go (below_alloc (Below.refl _ _) (.cells #[.string o1, .slice A14 o2.length c14] 24))).go (below_alloc (Below.refl _ _) (.cells #[.string o3, .slice A15 o4.length c15] 24)))
        have X67 := Aside0.mk (((X66.out.go hb).go (below_alloc (Below.refl _ _) (.cells #[.string o1, .slice A14 o2.length c14] 24))).go (below_alloc (Below.refl _ _) (.cells #[.string o3, .slice A15 o4.length c15] 24)))
        have X97 := Aside0.mk (((X96.out.go hb).go (below_alloc (Below.refl _ _) (.cells #[.string o1, .slice A14 o2.length c14] 24))).go (below_alloc (Below.refl _ _) (.cells #[.string o3, .slice A15 o4.length c15] 24)))
        have X127 := Aside0.mk (((X126.out.go hb).go (below_alloc (Below.refl _ _) (.cells #[.string o1, .slice A14 o2.length c14] 24))).go (below_alloc (Below.refl _ _) (.cells #[.string o3, .slice A15 o4.length c15] 24)))
        have X47 := Aside0.mk (blk_alloc (blk_alloc (blk_below X46.out hb) (.cells #[.string o1, .slice A14 o2.length c14] 24)) (.cells #[.string o3, .slice A15 o4.length c15] 24))
        have X147 := Aside0.mk ((Bx.new (t := o1) T14).go (below_alloc (Below.refl _ _) (.cells #[.string o3, .slice A15 o4.length c15] 24)))
        have X157 := Aside0.mk (Bx.new (t := o3) (T15.go (below_alloc (Below.refl w7.heap.size w7) (.cells #[.string o1, .slice A14 o2.length c14] 24))))
        rw [show (w7.alloc (.cells #[.string o1, .slice A14 o2.length c14] 24)).heap.size = w7.heap.size + 1 from by simp] at X157
        have hnX147 : w.heap.size + 1 + 1 < w7.heap.size := by
          have h1 := blk_lt X46.out
          have h2 := hb.size
          omega
        clear z0 z1 hR hR' hb T14 T15 HB6 X26 X46 X66 X96 X126
        go_upto_region 11 with fail
        obtain ⟨W7, HW7⟩ : ∃ W7 : World, (w7.alloc (.cells #[.string o1, .slice A14 o2.length c14] 24)).alloc (.cells #[.string o3, .slice A15 o4.length c15] 24) = W7 := ⟨_, rfl⟩
        rw [HW7] at HB7 X27 X47 X67 X97 X127 X147 X157 ⊢
        clear HW7
        obtain ⟨g14, hg14⟩ : ∃ g14 : Nat, w7.heap.size = g14 := ⟨_, rfl⟩
        rw [hg14] at X147 X157 hnX147 ⊢
        clear hg14
        go_cut [16] (fun s16 wx => ∃ (g16 : Nat) (A16 : Option Addr) (c16 : Nat), s16 = .pointer (some ⟨g16, 0, none⟩) ∧ Aside0 (W7.heap.size ≤ g16) ∧ Aside0 (Bx wx g16 d1 A16 c16 d2) ∧ Aside0 (Below W7.heap.size W7 wx))
        case first =>
          have z0 := X67.out.c0
          have z1 := X67.out.c1
          go_region_held3 (fun W => W.cell? ⟨g6, 0, none⟩ = some (.string n1) ∧ W.cell? ⟨g6, 1, none⟩ = some (.slice A6 n2.length c6))
            (first
              | exact ⟨(X67.out.go (by repeat (first | exact HB9.out | exact HB8.out | exact Below.refl _ _ | apply below_alloc | apply below_drew1 | apply pw_below_drewN | refine below_set ?_ (by first | exact Nat.le_refl _ | (have := HB8.out.size; have := HB9.out.size; first | omega | (simp; omega)))))).c0, (X67.out.go (by repeat (first | exact HB9.out | exact HB8.out | exact Below.refl _ _ | apply below_alloc | apply below_drew1 | apply pw_below_drewN | refine below_set ?_ (by first | exact Nat.le_refl _ | (have := HB8.out.size; have := HB9.out.size; first | omega | (simp; omega)))))).c1⟩
              | go_keep)
            ((first
              | (go_at_call 63; (with_reducible refine (mark_Of.calls _ _ e1 e2 _ HOF.out).mono ?_); rintro e w8 ⟨v, rfl, hR, hb⟩; obtain ⟨A17, c17, e17⟩ := Kd.R_slice hR; subst e17; have T17 := Aside0.mk (Txt.of hR); clear hR; have HB8 := Aside0.mk (below_step (show Below W7.heap.size W7 _ from (by repeat (first | exact Below.refl _ _ | apply below_alloc | apply below_drew1 | apply pw_below_drewN))) hb); (try have hz8 : Aside0 (w8.heap[W7.heap.size]? = some (.cells #[.string (⟨#[]⟩ : ByteArray), .slice none 0 0] 24 (0, 0))) := ⟨blk_below (blk_new W7.drew (.cells #[.string (⟨#[]⟩ : ByteArray), .slice none 0 0] 24 (0, 0))) hb⟩))
              | (go_at_call 47; (with_reducible refine (Cat2 k n1 _ n2 _ e1 _ e2 _ d1 d2 _ _ (by first | exact blk_new _ _ | exact blk_alloc (blk_new _ _) _ | (simpa using blk_new (w8.alloc _) _)) (X67.out.txt.go (by repeat (first | exact HB8.out | apply below_alloc | apply below_drew1 | apply pw_below_drewN))) (T17.out.go (by repeat (first | exact Below.refl _ _ | apply below_alloc | apply below_drew1 | apply pw_below_drewN))) HLE.out).mono ?_); rintro e w9 ⟨v, rfl, hR, hb⟩; obtain ⟨A16, c16, e16⟩ := Kd.R_slice hR; subst e16; have HR16 := Aside0.mk hR; clear hR; have HB9 := Aside0.mk (below_step (show Below W7.heap.size W7 _ from (by repeat (first | exact HB8.out | apply below_alloc | apply below_drew1 | apply pw_below_drewN))) hb); (first | have hz9 : Aside0 (w9.heap[W7.heap.size]? = some (.cells #[.string (⟨#[]⟩ : ByteArray), .slice none 0 0] 24 (0, 0))) := ⟨blk_below (blk_alloc hz8.out _) hb⟩ | have hz9 : Aside0 (w9.heap[w8.heap.size]? = some (.cells #[.string (⟨#[]⟩ : ByteArray), .slice none 0 0] 24 (0, 0))) := ⟨blk_below (blk_alloc (blk_new w8 (.cells #[.string (⟨#[]⟩ : ByteArray), .slice none 0 0] 24 (0, 0))) _) hb⟩ | have hz9 : Aside0 (w9.heap[w8.heap.size + 1]? = some (.cells #[.string (⟨#[]⟩ : ByteArray), .slice none 0 0] 24 (0, 0))) := ⟨blk_below (by simpa using blk_new (w8.alloc (.cells #[.string n1, .slice A6 n2.length c6, .string e1, .slice A17 e2.length c17] 24 (0, 0))) (.cells #[.string (⟨#[]⟩ : ByteArray), .slice none 0 0] 24 (0, 0))) hb⟩ | skip); (try (have zf0 := blk_frozen hz9.out 0; have zf1 := blk_frozen hz9.out 1; have zr0 := blk_cell hz9.out 0; have zr1 := blk_cell hz9.out 1)))))
          all_goals
            go_wp2_with fail
            go_meet
            case rel => first | exact ⟨_, _, _, rfl, ⟨by first | exact Nat.le_refl _ | (have h1 := HB8.out.size; have h2 := HB9.out.size; omega)⟩, ⟨Bx.new (Txt.of HR16.out)⟩, ⟨(by repeat (first | exact HB9.out | exact HB8.out | exact Below.refl _ _ | apply below_alloc | apply below_drew1 | apply pw_below_drewN | refine below_set ?_ (by first | exact Nat.le_refl _ | (have := HB8.out.size; have := HB9.out.size; first | omega | (simp; omega)))))⟩⟩ | exact ⟨_, _, _, rfl, ⟨by first | exact Nat.le_refl _ | (have h1 := HB8.out.size; have h2 := HB9.out.size; omega)⟩, ⟨⟨blk_put (cs := #[.string d1, .slice none 0 0]) (blk_put (cs := #[.string (⟨#[]⟩ : ByteArray), .slice none 0 0]) hz9.out 0 _ rfl) 1 _ rfl, Txt.of (Kd.R_far (p := ⟨_, 1, none⟩) (Kd.R_far (p := ⟨_, 0, none⟩) (Kd.R_types HR16.out hz9.out (by decide)) (fun _ hk => hk.2) _) (fun _ hk => hk.2) _)⟩⟩, ⟨(by repeat (first | exact HB9.out | exact HB8.out | exact Below.refl _ _ | apply below_alloc | apply below_drew1 | apply pw_below_drewN | refine below_set ?_ (by first | exact Nat.le_refl _ | (have := HB8.out.size; have := HB9.out.size; first | omega | (simp; omega)))))⟩⟩
        case rest =>
          obtain ⟨g16, A16, c16, rfl, hle, X16, HBc⟩ := hcut
          have hn16 : w.heap.size + 1 + 1 < g16 := by
            have h1 := blk_lt X47.out
            have h2 := hle.out
            omega
          clear hle
          have HBw := Aside0.mk (below_step HB7.out HBc.out)
          have Y2 := Aside0.mk (X27.out.go HBc.out)
          have Y4 := Aside0.mk (blk_below X47.out HBc.out)
          have Y9 := Aside0.mk (X97.out.go HBc.out)
          have Y12 := Aside0.mk (X127.out.go HBc.out)
          have Y14 := Aside0.mk (X147.out.go HBc.out)
          have Y15 := Aside0.mk (X157.out.go HBc.out)
          clear X27 X47 X67 X97 X127 X147 X157 HBc HB7
          have NE_X16 := Aside0.mk (show g16 ≠ w.heap.size + 1 + 1 by omega)
          have NE_Y12 := Aside0.mk (show g12 ≠ w.heap.size + 1 + 1 by omega)
          have NE_Y2 := Aside0.mk (show w.heap.size ≠ w.heap.size + 1 + 1 by omega)
          have NE_Y9 := Aside0.mk (show g9 ≠ w.heap.size + 1 + 1 by omega)
          have NE_Y14 := Aside0.mk (show g14 ≠ w.heap.size + 1 + 1 by omega)
          have NE_Y15 := Aside0.mk (show g14 + 1 ≠ w.heap.size + 1 + 1 by omega)
          have H := HG.out
          clear HG
          unfold resolve_Join.g at H
          have z0 := Y9.out.c0
          by_cases hs : t1.toList = ([] : List UInt8)
          ·
            rw [if_pos hs] at H
            have hs0 : (t1.toList == ([] : List UInt8)) = true := beq_iff_eq.mpr hs
            have hs1 : t1.toList.isEmpty = true := by rw [hs]; rfl
            have HS := Aside0.mk hs
            clear hs
            unfold resolve_Join.a13 at H
            obtain ⟨⟨x1, x2⟩, hx, H⟩ := Option.bind_eq_some_iff.mp H
            obtain ⟨⟨y1, y2⟩, hy, H⟩ := Option.bind_eq_some_iff.mp H
            have H_x1 := Aside0.mk hx
            have H_y1 := Aside0.mk hy
            have H_c := Aside0.mk H
            clear hx hy H
            have zX160 := X16.out.c0
            have zX161 := X16.out.c1
            have zY120 := Y12.out.c0
            have zY121 := Y12.out.c1
            have zY20 := Y2.out.c0
            have zY21 := Y2.out.c1
            have zY90 := Y9.out.c0
            have zY91 := Y9.out.c1
            go_wp2_with fail
            go_region_held3 (fun W => W.cell? ⟨g16, 0, none⟩ = some (.string d1) ∧ W.cell? ⟨g16, 1, none⟩ = some (.slice A16 d2.length c16) ∧ W.cell? ⟨g12, 0, none⟩ = some (.string p1) ∧ W.cell? ⟨g12, 1, none⟩ = some (.slice A12 p2.length c12) ∧ W.cell? ⟨w.heap.size, 0, none⟩ = some (.string a0_0) ∧ W.cell? ⟨w.heap.size, 1, none⟩ = some (.slice A0_1 l0_1.length c0_1) ∧ W.cell? ⟨g9, 0, none⟩ = some (.string t1) ∧ W.cell? ⟨g9, 1, none⟩ = some (.slice A9 t2.length c9))
              (first
                | exact ⟨(cell_far (p := ⟨w.heap.size + 1 + 1, 1, none⟩) NE_X16.out _).trans ((cell_far (p := ⟨w.heap.size + 1 + 1, 0, none⟩) NE_X16.out _).trans (X16.out.go (by repeat (first | exact HV3.out | exact HV2.out | exact HV1.out | exact Below.refl _ _ | apply below_alloc | apply below_drew1 | apply pw_below_drewN))).c0), (cell_far (p := ⟨w.heap.size + 1 + 1, 1, none⟩) NE_X16.out _).trans ((cell_far (p := ⟨w.heap.size + 1 + 1, 0, none⟩) NE_X16.out _).trans (X16.out.go (by repeat (first | exact HV3.out | exact HV2.out | exact HV1.out | exact Below.refl _ _ | apply below_alloc | apply below_drew1 | apply pw_below_drewN))).c1), (cell_far (p := ⟨w.heap.size + 1 + 1, 1, none⟩) NE_Y12.out _).trans ((cell_far (p := ⟨w.heap.size + 1 + 1, 0, none⟩) NE_Y12.out _).trans (Y12.out.go (by repeat (first | exact HV3.out | exact HV2.out | exact HV1.out | exact Below.refl _ _ | apply below_alloc | apply below_drew1 | apply pw_below_drewN))).c0), (cell_far (p := ⟨w.heap.size + 1 + 1, 1, none⟩) NE_Y12.out _).trans ((cell_far (p := ⟨w.heap.size + 1 + 1, 0, none⟩) NE_Y12.out _).trans (Y12.out.go (by repeat (first | exact HV3.out | exact HV2.out | exact HV1.out | exact Below.refl _ _ | apply below_alloc | apply below_drew1 | apply pw_below_drewN))).c1), (cell_far (p := ⟨w.heap.size + 1 + 1, 1, none⟩) NE_Y2.out _).trans ((cell_far (p := ⟨w.heap.size + 1 + 1, 0, none⟩) NE_Y2.out _).trans (Y2.out.go (by repeat (first | exact HV3.out | exact HV2.out | exact HV1.out | exact Below.refl _ _ | apply below_alloc | apply below_drew1 | apply pw_below_drewN))).c0), (cell_far (p := ⟨w.heap.size + 1 + 1, 1, none⟩) NE_Y2.out _).trans ((cell_far (p := ⟨w.heap.size + 1 + 1, 0, none⟩) NE_Y2.out _).trans (Y2.out.go (by repeat (first | exact HV3.out | exact HV2.out | exact HV1.out | exact Below.refl _ _ | apply below_alloc | apply below_drew1 | apply pw_below_drewN))).c1), (cell_far (p := ⟨w.heap.size + 1 + 1, 1, none⟩) NE_Y9.out _).trans ((cell_far (p := ⟨w.heap.size + 1 + 1, 0, none⟩) NE_Y9.out _).trans (Y9.out.go (by repeat (first | exact HV3.out | exact HV2.out | exact HV1.out | exact Below.refl _ _ | apply below_alloc | apply below_drew1 | apply pw_below_drewN))).c0), (cell_far (p := ⟨w.heap.size + 1 + 1, 1, none⟩) NE_Y9.out _).trans ((cell_far (p := ⟨w.heap.size + 1 + 1, 0, none⟩) NE_Y9.out _).trans (Y9.out.go (by repeat (first | exact HV3.out | exact HV2.out | exact HV1.out | exact Below.refl _ _ | apply below_alloc | apply below_drew1 | apply pw_below_drewN))).c1)⟩
                | exact ⟨(X16.out.go (by repeat (first | exact HV3.out | exact HV2.out | exact HV1.out | exact Below.refl _ _ | apply below_alloc | apply below_drew1 | apply pw_below_drewN))).c0, (X16.out.go (by repeat (first | exact HV3.out | exact HV2.out | exact HV1.out | exact Below.refl _ _ | apply below_alloc | apply below_drew1 | apply pw_below_drewN))).c1, (Y12.out.go (by repeat (first | exact HV3.out | exact HV2.out | exact HV1.out | exact Below.refl _ _ | apply below_alloc | apply below_drew1 | apply pw_below_drewN))).c0, (Y12.out.go (by repeat (first | exact HV3.out | exact HV2.out | exact HV1.out | exact Below.refl _ _ | apply below_alloc | apply below_drew1 | apply pw_below_drewN))).c1, (Y2.out.go (by repeat (first | exact HV3.out | exact HV2.out | exact HV1.out | exact Below.refl _ _ | apply below_alloc | apply below_drew1 | apply pw_below_drewN))).c0, (Y2.out.go (by repeat (first | exact HV3.out | exact HV2.out | exact HV1.out | exact Below.refl _ _ | apply below_alloc | apply below_drew1 | apply pw_below_drewN))).c1, (Y9.out.go (by repeat (first | exact HV3.out | exact HV2.out | exact HV1.out | exact Below.refl _ _ | apply below_alloc | apply below_drew1 | apply pw_below_drewN))).c0, (Y9.out.go (by repeat (first | exact HV3.out | exact HV2.out | exact HV1.out | exact Below.refl _ _ | apply below_alloc | apply below_drew1 | apply pw_below_drewN))).c1⟩
                | go_keep)
              ((first
                | (go_at_call 117; (with_reducible refine (resolve_Dots.calls k p1 _ _ p2 x1 x2 _ (Y12.out.txt.go (by repeat (first | exact Below.refl _ _ | apply below_alloc | apply below_drew1 | apply pw_below_drewN | refine below_set ?_ (Nat.le_refl _)))).C (Y12.out.txt.go (by repeat (first | exact Below.refl _ _ | apply below_alloc | apply below_drew1 | apply pw_below_drewN | refine below_set ?_ (Nat.le_refl _)))).le H_x1.out).mono ?_); rintro e v1 ⟨v, rfl, hR, hb⟩; obtain ⟨AV1, cV1, eV1⟩ := Kd.R_slice hR; subst eV1; have TV1 := Aside0.mk (Txt.of hR); have RV1 := Aside0.mk hR; clear hR; have HV1 := Aside0.mk (below_step (show Below wc.heap.size wc _ from (by repeat (first | exact Below.refl _ _ | apply below_alloc | apply below_drew1 | apply pw_below_drewN | refine below_set ?_ (Nat.le_refl _)))) hb); have hbV1 := Aside0.mk hb)
                | (go_at_call 119; (with_reducible refine (resolve_query.calls k a0_0 _ _ l0_1 y1 y2 _ (Y2.out.txt.go (by repeat (first | exact HV1.out | exact Below.refl _ _ | apply below_alloc | apply below_drew1 | apply pw_below_drewN | refine below_set ?_ (Nat.le_refl _)))).C (Y2.out.txt.go (by repeat (first | exact HV1.out | exact Below.refl _ _ | apply below_alloc | apply below_drew1 | apply pw_below_drewN | refine below_set ?_ (Nat.le_refl _)))).le H_y1.out).mono ?_); rintro e v2 ⟨v, rfl, hR, hb⟩; obtain ⟨AV2, cV2, eV2⟩ := Kd.R_slice hR; subst eV2; have TV2 := Aside0.mk (Txt.of hR); have RV2 := Aside0.mk hR; clear hR; have HV2 := Aside0.mk (below_step (show Below wc.heap.size wc _ from (by repeat (first | exact HV1.out | exact Below.refl _ _ | apply below_alloc | apply below_drew1 | apply pw_below_drewN | refine below_set ?_ (Nat.le_refl _)))) hb); have hbV2 := Aside0.mk hb)
                | (go_at_call 47; (with_reducible refine (Cat4 k d1 _ d2 _ x1 _ x2 _ y1 _ y2 _ t1 _ t2 _ s1 s2 _ _ (by first | exact blk_new _ _) (X16.out.txt.go (by repeat (first | exact HV2.out | exact HV1.out | exact Below.refl _ _ | apply below_alloc | apply below_drew1 | apply pw_below_drewN | refine below_set ?_ (Nat.le_refl _)))) ((((TV1.out).go (below_step (by repeat (first | exact Below.refl _ _ | apply below_alloc | apply below_drew1 | apply pw_below_drewN)) hbV2.out))).go (by repeat (first | exact Below.refl _ _ | apply below_alloc | apply below_drew1 | apply pw_below_drewN))) ((TV2.out).go (by repeat (first | exact Below.refl _ _ | apply below_alloc | apply below_drew1 | apply pw_below_drewN))) (Y9.out.txt.go (by repeat (first | exact HV2.out | exact HV1.out | exact Below.refl _ _ | apply below_alloc | apply below_drew1 | apply pw_below_drewN | refine below_set ?_ (Nat.le_refl _)))) H_c.out).mono ?_); rintro e v3 ⟨v, rfl, hR, hb⟩; obtain ⟨AV3, cV3, eV3⟩ := Kd.R_slice hR; subst eV3; have TV3 := Aside0.mk (Txt.of hR); have RV3 := Aside0.mk hR; clear hR; have HV3 := Aside0.mk (below_step (show Below wc.heap.size wc _ from (by repeat (first | exact HV2.out | exact HV1.out | exact Below.refl _ _ | apply below_alloc | apply below_drew1 | apply pw_below_drewN | refine below_set ?_ (Nat.le_refl _)))) hb); have hbV3 := Aside0.mk hb; have zf0 := blk_frozen (blk_below Y4.out HV3.out) 0; have zf1 := blk_frozen (blk_below Y4.out HV3.out) 1; have zr0 := blk_cell (blk_below Y4.out HV3.out) 0; have zr1 := blk_cell (blk_below Y4.out HV3.out) 1)
              ))
            go_wp2_with fail
            refine bodyPost_ret (results_ct rfl _ _ (w.heap.size + 1 + 1) 24 #[.string s1, .slice AV3 s2.length cV3] (0, 0) _ rfl (blk_put (cs := #[.string s1, .slice none 0 0]) (blk_put (cs := #[.string (⟨#[]⟩ : ByteArray), .slice none 0 0]) (blk_below Y4.out HV3.out) 0 _ rfl) 1 _ rfl) Try.underlying24 rfl (by kernel_rfl)) rfl ?_
            exact ⟨_, rfl, Kd.R_lower (Kd.R_mono (Kd.R_far (p := ⟨w.heap.size + 1 + 1, 1, none⟩) (Kd.R_far (p := ⟨w.heap.size + 1 + 1, 0, none⟩) (Kd.R_types RV3.out (blk_below Y4.out HV3.out) (by decide)) (fun _ hk => hk.2) (.string s1)) (fun _ hk => hk.2) (.slice AV3 s2.length cV3)) (fun _ _ => trivial)) (by have h1 := HBw.out.size; have h2 := (show Below wc.heap.size wc _ from (by repeat (first | exact HV2.out | exact HV1.out | exact Below.refl _ _ | apply below_alloc | apply below_drew1 | apply pw_below_drewN))).size; simp at h2 ⊢; omega), below_set (below_set (below_step HBw.out HV3.out) (by omega)) (by omega)⟩
          ·
            rw [if_neg hs] at H
            have hs0 : (t1.toList == ([] : List UInt8)) = false := beq_eq_false_iff_ne.mpr hs
            have hs1 : t1.toList.isEmpty = false := by
              cases h : t1.toList with
              | nil => exact absurd h hs
              | cons _ _ => rfl
            have hsz : 0 < t1.size := by
              rcases Nat.eq_zero_or_pos t1.size with h | h
              · exact absurd (by rw [ByteArray.toList_eq]; exact List.eq_nil_of_length_eq_zero (by rw [Array.length_toList]; exact h)) hs
              · exact h
            have hq0 : (0 : Int) < (t1.size : Int) := by omega
            have HBt := Aside0.mk (show ((t1[0]'hsz).toNat : Int) = bt t1 0 from bt_at t1 0 hsz)
            have HS := Aside0.mk hs
            clear hs
            by_cases c35 : bt t1 0 = 35
            ·
              rw [if_pos c35] at H
              have c35b : (((t1[0]'hsz).toNat : Int) == 35) = true := by rw [HBt.out]; exact beq_iff_eq.mpr c35
              clear c35
              unfold resolve_Join.a13 at H
              obtain ⟨⟨x1, x2⟩, hx, H⟩ := Option.bind_eq_some_iff.mp H
              obtain ⟨⟨y1, y2⟩, hy, H⟩ := Option.bind_eq_some_iff.mp H
              have H_x1 := Aside0.mk hx
              have H_y1 := Aside0.mk hy
              have H_c := Aside0.mk H
              clear hx hy H
              have zX160 := X16.out.c0
              have zX161 := X16.out.c1
              have zY120 := Y12.out.c0
              have zY121 := Y12.out.c1
              have zY20 := Y2.out.c0
              have zY21 := Y2.out.c1
              have zY90 := Y9.out.c0
              have zY91 := Y9.out.c1
              go_wp2_with fail
              go_region_held3 (fun W => W.cell? ⟨g16, 0, none⟩ = some (.string d1) ∧ W.cell? ⟨g16, 1, none⟩ = some (.slice A16 d2.length c16) ∧ W.cell? ⟨g12, 0, none⟩ = some (.string p1) ∧ W.cell? ⟨g12, 1, none⟩ = some (.slice A12 p2.length c12) ∧ W.cell? ⟨w.heap.size, 0, none⟩ = some (.string a0_0) ∧ W.cell? ⟨w.heap.size, 1, none⟩ = some (.slice A0_1 l0_1.length c0_1) ∧ W.cell? ⟨g9, 0, none⟩ = some (.string t1) ∧ W.cell? ⟨g9, 1, none⟩ = some (.slice A9 t2.length c9))
                (first
                  | exact ⟨(cell_far (p := ⟨w.heap.size + 1 + 1, 1, none⟩) NE_X16.out _).trans ((cell_far (p := ⟨w.heap.size + 1 + 1, 0, none⟩) NE_X16.out _).trans (X16.out.go (by repeat (first | exact HV3.out | exact HV2.out | exact HV1.out | exact Below.refl _ _ | apply below_alloc | apply below_drew1 | apply pw_below_drewN))).c0), (cell_far (p := ⟨w.heap.size + 1 + 1, 1, none⟩) NE_X16.out _).trans ((cell_far (p := ⟨w.heap.size + 1 + 1, 0, none⟩) NE_X16.out _).trans (X16.out.go (by repeat (first | exact HV3.out | exact HV2.out | exact HV1.out | exact Below.refl _ _ | apply below_alloc | apply below_drew1 | apply pw_below_drewN))).c1), (cell_far (p := ⟨w.heap.size + 1 + 1, 1, none⟩) NE_Y12.out _).trans ((cell_far (p := ⟨w.heap.size + 1 + 1, 0, none⟩) NE_Y12.out _).trans (Y12.out.go (by repeat (first | exact HV3.out | exact HV2.out | exact HV1.out | exact Below.refl _ _ | apply below_alloc | apply below_drew1 | apply pw_below_drewN))).c0), (cell_far (p := ⟨w.heap.size + 1 + 1, 1, none⟩) NE_Y12.out _).trans ((cell_far (p := ⟨w.heap.size + 1 + 1, 0, none⟩) NE_Y12.out _).trans (Y12.out.go (by repeat (first | exact HV3.out | exact HV2.out | exact HV1.out | exact Below.refl _ _ | apply below_alloc | apply below_drew1 | apply pw_below_drewN))).c1), (cell_far (p := ⟨w.heap.size + 1 + 1, 1, none⟩) NE_Y2.out _).trans ((cell_far (p := ⟨w.heap.size + 1 + 1, 0, none⟩) NE_Y2.out _).trans (Y2.out.go (by repeat (first | exact HV3.out | exact HV2.out | exact HV1.out | exact Below.refl _ _ | apply below_alloc | apply below_drew1 | apply pw_below_drewN))).c0), (cell_far (p := ⟨w.heap.size + 1 + 1, 1, none⟩) NE_Y2.out _).trans ((cell_far (p := ⟨w.heap.size + 1 + 1, 0, none⟩) NE_Y2.out _).trans (Y2.out.go (by repeat (first | exact HV3.out | exact HV2.out | exact HV1.out | exact Below.refl _ _ | apply below_alloc | apply below_drew1 | apply pw_below_drewN))).c1), (cell_far (p := ⟨w.heap.size + 1 + 1, 1, none⟩) NE_Y9.out _).trans ((cell_far (p := ⟨w.heap.size + 1 + 1, 0, none⟩) NE_Y9.out _).trans (Y9.out.go (by repeat (first | exact HV3.out | exact HV2.out | exact HV1.out | exact Below.refl _ _ | apply below_alloc | apply below_drew1 | apply pw_below_drewN))).c0), (cell_far (p := ⟨w.heap.size + 1 + 1, 1, none⟩) NE_Y9.out _).trans ((cell_far (p := ⟨w.heap.size + 1 + 1, 0, none⟩) NE_Y9.out _).trans (Y9.out.go (by repeat (first | exact HV3.out | exact HV2.out | exact HV1.out | exact Below.refl _ _ | apply below_alloc | apply below_drew1 | apply pw_below_drewN))).c1)⟩
                  | exact ⟨(X16.out.go (by repeat (first | exact HV3.out | exact HV2.out | exact HV1.out | exact Below.refl _ _ | apply below_alloc | apply below_drew1 | apply pw_below_drewN))).c0, (X16.out.go (by repeat (first | exact HV3.out | exact HV2.out | exact HV1.out | exact Below.refl _ _ | apply below_alloc | apply below_drew1 | apply pw_below_drewN))).c1, (Y12.out.go (by repeat (first | exact HV3.out | exact HV2.out | exact HV1.out | exact Below.refl _ _ | apply below_alloc | apply below_drew1 | apply pw_below_drewN))).c0, (Y12.out.go (by repeat (first | exact HV3.out | exact HV2.out | exact HV1.out | exact Below.refl _ _ | apply below_alloc | apply below_drew1 | apply pw_below_drewN))).c1, (Y2.out.go (by repeat (first | exact HV3.out | exact HV2.out | exact HV1.out | exact Below.refl _ _ | apply below_alloc | apply below_drew1 | apply pw_below_drewN))).c0, (Y2.out.go (by repeat (first | exact HV3.out | exact HV2.out | exact HV1.out | exact Below.refl _ _ | apply below_alloc | apply below_drew1 | apply pw_below_drewN))).c1, (Y9.out.go (by repeat (first | exact HV3.out | exact HV2.out | exact HV1.out | exact Below.refl _ _ | apply below_alloc | apply below_drew1 | apply pw_below_drewN))).c0, (Y9.out.go (by repeat (first | exact HV3.out | exact HV2.out | exact HV1.out | exact Below.refl _ _ | apply below_alloc | apply below_drew1 | apply pw_below_drewN))).c1⟩
                  | go_keep)
                ((first
                  | (go_at_call 117; (with_reducible refine (resolve_Dots.calls k p1 _ _ p2 x1 x2 _ (Y12.out.txt.go (by repeat (first | exact Below.refl _ _ | apply below_alloc | apply below_drew1 | apply pw_below_drewN | refine below_set ?_ (Nat.le_refl _)))).C (Y12.out.txt.go (by repeat (first | exact Below.refl _ _ | apply below_alloc | apply below_drew1 | apply pw_below_drewN | refine below_set ?_ (Nat.le_refl _)))).le H_x1.out).mono ?_); rintro e v1 ⟨v, rfl, hR, hb⟩; obtain ⟨AV1, cV1, eV1⟩ := Kd.R_slice hR; subst eV1; have TV1 := Aside0.mk (Txt.of hR); have RV1 := Aside0.mk hR; clear hR; have HV1 := Aside0.mk (below_step (show Below wc.heap.size wc _ from (by repeat (first | exact Below.refl _ _ | apply below_alloc | apply below_drew1 | apply pw_below_drewN | refine below_set ?_ (Nat.le_refl _)))) hb); have hbV1 := Aside0.mk hb)
                  | (go_at_call 119; (with_reducible refine (resolve_query.calls k a0_0 _ _ l0_1 y1 y2 _ (Y2.out.txt.go (by repeat (first | exact HV1.out | exact Below.refl _ _ | apply below_alloc | apply below_drew1 | apply pw_below_drewN | refine below_set ?_ (Nat.le_refl _)))).C (Y2.out.txt.go (by repeat (first | exact HV1.out | exact Below.refl _ _ | apply below_alloc | apply below_drew1 | apply pw_below_drewN | refine below_set ?_ (Nat.le_refl _)))).le H_y1.out).mono ?_); rintro e v2 ⟨v, rfl, hR, hb⟩; obtain ⟨AV2, cV2, eV2⟩ := Kd.R_slice hR; subst eV2; have TV2 := Aside0.mk (Txt.of hR); have RV2 := Aside0.mk hR; clear hR; have HV2 := Aside0.mk (below_step (show Below wc.heap.size wc _ from (by repeat (first | exact HV1.out | exact Below.refl _ _ | apply below_alloc | apply below_drew1 | apply pw_below_drewN | refine below_set ?_ (Nat.le_refl _)))) hb); have hbV2 := Aside0.mk hb)
                  | (go_at_call 47; (with_reducible refine (Cat4 k d1 _ d2 _ x1 _ x2 _ y1 _ y2 _ t1 _ t2 _ s1 s2 _ _ (by first | exact blk_new _ _) (X16.out.txt.go (by repeat (first | exact HV2.out | exact HV1.out | exact Below.refl _ _ | apply below_alloc | apply below_drew1 | apply pw_below_drewN | refine below_set ?_ (Nat.le_refl _)))) ((((TV1.out).go (below_step (by repeat (first | exact Below.refl _ _ | apply below_alloc | apply below_drew1 | apply pw_below_drewN)) hbV2.out))).go (by repeat (first | exact Below.refl _ _ | apply below_alloc | apply below_drew1 | apply pw_below_drewN))) ((TV2.out).go (by repeat (first | exact Below.refl _ _ | apply below_alloc | apply below_drew1 | apply pw_below_drewN))) (Y9.out.txt.go (by repeat (first | exact HV2.out | exact HV1.out | exact Below.refl _ _ | apply below_alloc | apply below_drew1 | apply pw_below_drewN | refine below_set ?_ (Nat.le_refl _)))) H_c.out).mono ?_); rintro e v3 ⟨v, rfl, hR, hb⟩; obtain ⟨AV3, cV3, eV3⟩ := Kd.R_slice hR; subst eV3; have TV3 := Aside0.mk (Txt.of hR); have RV3 := Aside0.mk hR; clear hR; have HV3 := Aside0.mk (below_step (show Below wc.heap.size wc _ from (by repeat (first | exact HV2.out | exact HV1.out | exact Below.refl _ _ | apply below_alloc | apply below_drew1 | apply pw_below_drewN | refine below_set ?_ (Nat.le_refl _)))) hb); have hbV3 := Aside0.mk hb; have zf0 := blk_frozen (blk_below Y4.out HV3.out) 0; have zf1 := blk_frozen (blk_below Y4.out HV3.out) 1; have zr0 := blk_cell (blk_below Y4.out HV3.out) 0; have zr1 := blk_cell (blk_below Y4.out HV3.out) 1)
                ))
              go_wp2_with fail
              refine bodyPost_ret (results_ct rfl _ _ (w.heap.size + 1 + 1) 24 #[.string s1, .slice AV3 s2.length cV3] (0, 0) _ rfl (blk_put (cs := #[.string s1, .slice none 0 0]) (blk_put (cs := #[.string (⟨#[]⟩ : ByteArray), .slice none 0 0]) (blk_below Y4.out HV3.out) 0 _ rfl) 1 _ rfl) Try.underlying24 rfl (by kernel_rfl)) rfl ?_
              exact ⟨_, rfl, Kd.R_lower (Kd.R_mono (Kd.R_far (p := ⟨w.heap.size + 1 + 1, 1, none⟩) (Kd.R_far (p := ⟨w.heap.size + 1 + 1, 0, none⟩) (Kd.R_types RV3.out (blk_below Y4.out HV3.out) (by decide)) (fun _ hk => hk.2) (.string s1)) (fun _ hk => hk.2) (.slice AV3 s2.length cV3)) (fun _ _ => trivial)) (by have h1 := HBw.out.size; have h2 := (show Below wc.heap.size wc _ from (by repeat (first | exact HV2.out | exact HV1.out | exact Below.refl _ _ | apply below_alloc | apply below_drew1 | apply pw_below_drewN))).size; simp at h2 ⊢; omega), below_set (below_set (below_step HBw.out HV3.out) (by omega)) (by omega)⟩
            ·
              rw [if_neg c35] at H
              have c35b : (((t1[0]'hsz).toNat : Int) == 35) = false := by rw [HBt.out]; exact beq_eq_false_iff_ne.mpr c35
              clear c35
              by_cases c63 : bt t1 0 = 63
              ·
                rw [if_pos c63] at H
                have c63b : (((t1[0]'hsz).toNat : Int) == 63) = true := by rw [HBt.out]; exact beq_iff_eq.mpr c63
                clear c63
                unfold resolve_Join.a15 at H
                obtain ⟨⟨x1, x2⟩, hx, H⟩ := Option.bind_eq_some_iff.mp H
                have H_x1 := Aside0.mk hx
                have H_c := Aside0.mk H
                clear hx H
                have zX160 := X16.out.c0
                have zX161 := X16.out.c1
                have zY120 := Y12.out.c0
                have zY121 := Y12.out.c1
                have zY90 := Y9.out.c0
                have zY91 := Y9.out.c1
                go_wp2_with fail
                go_region_held3 (fun W => W.cell? ⟨g16, 0, none⟩ = some (.string d1) ∧ W.cell? ⟨g16, 1, none⟩ = some (.slice A16 d2.length c16) ∧ W.cell? ⟨g12, 0, none⟩ = some (.string p1) ∧ W.cell? ⟨g12, 1, none⟩ = some (.slice A12 p2.length c12) ∧ W.cell? ⟨g9, 0, none⟩ = some (.string t1) ∧ W.cell? ⟨g9, 1, none⟩ = some (.slice A9 t2.length c9))
                  (first
                    | exact ⟨(cell_far (p := ⟨w.heap.size + 1 + 1, 1, none⟩) NE_X16.out _).trans ((cell_far (p := ⟨w.heap.size + 1 + 1, 0, none⟩) NE_X16.out _).trans (X16.out.go (by repeat (first | exact HV2.out | exact HV1.out | exact Below.refl _ _ | apply below_alloc | apply below_drew1 | apply pw_below_drewN))).c0), (cell_far (p := ⟨w.heap.size + 1 + 1, 1, none⟩) NE_X16.out _).trans ((cell_far (p := ⟨w.heap.size + 1 + 1, 0, none⟩) NE_X16.out _).trans (X16.out.go (by repeat (first | exact HV2.out | exact HV1.out | exact Below.refl _ _ | apply below_alloc | apply below_drew1 | apply pw_below_drewN))).c1), (cell_far (p := ⟨w.heap.size + 1 + 1, 1, none⟩) NE_Y12.out _).trans ((cell_far (p := ⟨w.heap.size + 1 + 1, 0, none⟩) NE_Y12.out _).trans (Y12.out.go (by repeat (first | exact HV2.out | exact HV1.out | exact Below.refl _ _ | apply below_alloc | apply below_drew1 | apply pw_below_drewN))).c0), (cell_far (p := ⟨w.heap.size + 1 + 1, 1, none⟩) NE_Y12.out _).trans ((cell_far (p := ⟨w.heap.size + 1 + 1, 0, none⟩) NE_Y12.out _).trans (Y12.out.go (by repeat (first | exact HV2.out | exact HV1.out | exact Below.refl _ _ | apply below_alloc | apply below_drew1 | apply pw_below_drewN))).c1), (cell_far (p := ⟨w.heap.size + 1 + 1, 1, none⟩) NE_Y9.out _).trans ((cell_far (p := ⟨w.heap.size + 1 + 1, 0, none⟩) NE_Y9.out _).trans (Y9.out.go (by repeat (first | exact HV2.out | exact HV1.out | exact Below.refl _ _ | apply below_alloc | apply below_drew1 | apply pw_below_drewN))).c0), (cell_far (p := ⟨w.heap.size + 1 + 1, 1, none⟩) NE_Y9.out _).trans ((cell_far (p := ⟨w.heap.size + 1 + 1, 0, none⟩) NE_Y9.out _).trans (Y9.out.go (by repeat (first | exact HV2.out | exact HV1.out | exact Below.refl _ _ | apply below_alloc | apply below_drew1 | apply pw_below_drewN))).c1)⟩
                    | exact ⟨(X16.out.go (by repeat (first | exact HV2.out | exact HV1.out | exact Below.refl _ _ | apply below_alloc | apply below_drew1 | apply pw_below_drewN))).c0, (X16.out.go (by repeat (first | exact HV2.out | exact HV1.out | exact Below.refl _ _ | apply below_alloc | apply below_drew1 | apply pw_below_drewN))).c1, (Y12.out.go (by repeat (first | exact HV2.out | exact HV1.out | exact Below.refl _ _ | apply below_alloc | apply below_drew1 | apply pw_below_drewN))).c0, (Y12.out.go (by repeat (first | exact HV2.out | exact HV1.out | exact Below.refl _ _ | apply below_alloc | apply below_drew1 | apply pw_below_drewN))).c1, (Y9.out.go (by repeat (first | exact HV2.out | exact HV1.out | exact Below.refl _ _ | apply below_alloc | apply below_drew1 | apply pw_below_drewN))).c0, (Y9.out.go (by repeat (first | exact HV2.out | exact HV1.out | exact Below.refl _ _ | apply below_alloc | apply below_drew1 | apply pw_below_drewN))).c1⟩
                    | go_keep)
                  ((first
                    | (go_at_call 117; (with_reducible refine (resolve_Dots.calls k p1 _ _ p2 x1 x2 _ (Y12.out.txt.go (by repeat (first | exact Below.refl _ _ | apply below_alloc | apply below_drew1 | apply pw_below_drewN | refine below_set ?_ (Nat.le_refl _)))).C (Y12.out.txt.go (by repeat (first | exact Below.refl _ _ | apply below_alloc | apply below_drew1 | apply pw_below_drewN | refine below_set ?_ (Nat.le_refl _)))).le H_x1.out).mono ?_); rintro e v1 ⟨v, rfl, hR, hb⟩; obtain ⟨AV1, cV1, eV1⟩ := Kd.R_slice hR; subst eV1; have TV1 := Aside0.mk (Txt.of hR); have RV1 := Aside0.mk hR; clear hR; have HV1 := Aside0.mk (below_step (show Below wc.heap.size wc _ from (by repeat (first | exact Below.refl _ _ | apply below_alloc | apply below_drew1 | apply pw_below_drewN | refine below_set ?_ (Nat.le_refl _)))) hb); have hbV1 := Aside0.mk hb)
                    | (go_at_call 47; (with_reducible refine (Cat3 k d1 _ d2 _ x1 _ x2 _ t1 _ t2 _ s1 s2 _ _ (by first | exact blk_new _ _) (X16.out.txt.go (by repeat (first | exact HV1.out | exact Below.refl _ _ | apply below_alloc | apply below_drew1 | apply pw_below_drewN | refine below_set ?_ (Nat.le_refl _)))) ((TV1.out).go (by repeat (first | exact Below.refl _ _ | apply below_alloc | apply below_drew1 | apply pw_below_drewN))) (Y9.out.txt.go (by repeat (first | exact HV1.out | exact Below.refl _ _ | apply below_alloc | apply below_drew1 | apply pw_below_drewN | refine below_set ?_ (Nat.le_refl _)))) H_c.out).mono ?_); rintro e v2 ⟨v, rfl, hR, hb⟩; obtain ⟨AV2, cV2, eV2⟩ := Kd.R_slice hR; subst eV2; have TV2 := Aside0.mk (Txt.of hR); have RV2 := Aside0.mk hR; clear hR; have HV2 := Aside0.mk (below_step (show Below wc.heap.size wc _ from (by repeat (first | exact HV1.out | exact Below.refl _ _ | apply below_alloc | apply below_drew1 | apply pw_below_drewN | refine below_set ?_ (Nat.le_refl _)))) hb); have hbV2 := Aside0.mk hb; have zf0 := blk_frozen (blk_below Y4.out HV2.out) 0; have zf1 := blk_frozen (blk_below Y4.out HV2.out) 1; have zr0 := blk_cell (blk_below Y4.out HV2.out) 0; have zr1 := blk_cell (blk_below Y4.out HV2.out) 1)
                  ))
                go_wp2_with fail
                refine bodyPost_ret (results_ct rfl _ _ (w.heap.size + 1 + 1) 24 #[.string s1, .slice AV2 s2.length cV2] (0, 0) _ rfl (blk_put (cs := #[.string s1, .slice none 0 0]) (blk_put (cs := #[.string (⟨#[]⟩ : ByteArray), .slice none 0 0]) (blk_below Y4.out HV2.out) 0 _ rfl) 1 _ rfl) Try.underlying24 rfl (by kernel_rfl)) rfl ?_
                exact ⟨_, rfl, Kd.R_lower (Kd.R_mono (Kd.R_far (p := ⟨w.heap.size + 1 + 1, 1, none⟩) (Kd.R_far (p := ⟨w.heap.size + 1 + 1, 0, none⟩) (Kd.R_types RV2.out (blk_below Y4.out HV2.out) (by decide)) (fun _ hk => hk.2) (.string s1)) (fun _ hk => hk.2) (.slice AV2 s2.length cV2)) (fun _ _ => trivial)) (by have h1 := HBw.out.size; have h2 := (show Below wc.heap.size wc _ from (by repeat (first | exact HV1.out | exact Below.refl _ _ | apply below_alloc | apply below_drew1 | apply pw_below_drewN))).size; simp at h2 ⊢; omega), below_set (below_set (below_step HBw.out HV2.out) (by omega)) (by omega)⟩
              ·
                rw [if_neg c63] at H
                have c63b : (((t1[0]'hsz).toNat : Int) == 63) = false := by rw [HBt.out]; exact beq_eq_false_iff_ne.mpr c63
                clear c63
                by_cases c47 : bt t1 0 = 47
                ·
                  rw [if_pos c47] at H
                  have c47b : (((t1[0]'hsz).toNat : Int) == 47) = true := by rw [HBt.out]; exact beq_iff_eq.mpr c47
                  clear c47
                  unfold resolve_Join.a15 at H
                  obtain ⟨⟨x1, x2⟩, hx, H⟩ := Option.bind_eq_some_iff.mp H
                  have H_x1 := Aside0.mk hx
                  have H_c := Aside0.mk H
                  clear hx H
                  have zX160 := X16.out.c0
                  have zX161 := X16.out.c1
                  have zY140 := Y14.out.c0
                  have zY141 := Y14.out.c1
                  have zY150 := Y15.out.c0
                  have zY151 := Y15.out.c1
                  go_wp2_with fail
                  go_region_held3 (fun W => W.cell? ⟨g16, 0, none⟩ = some (.string d1) ∧ W.cell? ⟨g16, 1, none⟩ = some (.slice A16 d2.length c16) ∧ W.cell? ⟨g14, 0, none⟩ = some (.string o1) ∧ W.cell? ⟨g14, 1, none⟩ = some (.slice A14 o2.length c14) ∧ W.cell? ⟨g14 + 1, 0, none⟩ = some (.string o3) ∧ W.cell? ⟨g14 + 1, 1, none⟩ = some (.slice A15 o4.length c15))
                    (first
                      | exact ⟨(cell_far (p := ⟨w.heap.size + 1 + 1, 1, none⟩) NE_X16.out _).trans ((cell_far (p := ⟨w.heap.size + 1 + 1, 0, none⟩) NE_X16.out _).trans (X16.out.go (by repeat (first | exact HV2.out | exact HV1.out | exact Below.refl _ _ | apply below_alloc | apply below_drew1 | apply pw_below_drewN))).c0), (cell_far (p := ⟨w.heap.size + 1 + 1, 1, none⟩) NE_X16.out _).trans ((cell_far (p := ⟨w.heap.size + 1 + 1, 0, none⟩) NE_X16.out _).trans (X16.out.go (by repeat (first | exact HV2.out | exact HV1.out | exact Below.refl _ _ | apply below_alloc | apply below_drew1 | apply pw_below_drewN))).c1), (cell_far (p := ⟨w.heap.size + 1 + 1, 1, none⟩) NE_Y14.out _).trans ((cell_far (p := ⟨w.heap.size + 1 + 1, 0, none⟩) NE_Y14.out _).trans (Y14.out.go (by repeat (first | exact HV2.out | exact HV1.out | exact Below.refl _ _ | apply below_alloc | apply below_drew1 | apply pw_below_drewN))).c0), (cell_far (p := ⟨w.heap.size + 1 + 1, 1, none⟩) NE_Y14.out _).trans ((cell_far (p := ⟨w.heap.size + 1 + 1, 0, none⟩) NE_Y14.out _).trans (Y14.out.go (by repeat (first | exact HV2.out | exact HV1.out | exact Below.refl _ _ | apply below_alloc | apply below_drew1 | apply pw_below_drewN))).c1), (cell_far (p := ⟨w.heap.size + 1 + 1, 1, none⟩) NE_Y15.out _).trans ((cell_far (p := ⟨w.heap.size + 1 + 1, 0, none⟩) NE_Y15.out _).trans (Y15.out.go (by repeat (first | exact HV2.out | exact HV1.out | exact Below.refl _ _ | apply below_alloc | apply below_drew1 | apply pw_below_drewN))).c0), (cell_far (p := ⟨w.heap.size + 1 + 1, 1, none⟩) NE_Y15.out _).trans ((cell_far (p := ⟨w.heap.size + 1 + 1, 0, none⟩) NE_Y15.out _).trans (Y15.out.go (by repeat (first | exact HV2.out | exact HV1.out | exact Below.refl _ _ | apply below_alloc | apply below_drew1 | apply pw_below_drewN))).c1)⟩
                      | exact ⟨(X16.out.go (by repeat (first | exact HV2.out | exact HV1.out | exact Below.refl _ _ | apply below_alloc | apply below_drew1 | apply pw_below_drewN))).c0, (X16.out.go (by repeat (first | exact HV2.out | exact HV1.out | exact Below.refl _ _ | apply below_alloc | apply below_drew1 | apply pw_below_drewN))).c1, (Y14.out.go (by repeat (first | exact HV2.out | exact HV1.out | exact Below.refl _ _ | apply below_alloc | apply below_drew1 | apply pw_below_drewN))).c0, (Y14.out.go (by repeat (first | exact HV2.out | exact HV1.out | exact Below.refl _ _ | apply below_alloc | apply below_drew1 | apply pw_below_drewN))).c1, (Y15.out.go (by repeat (first | exact HV2.out | exact HV1.out | exact Below.refl _ _ | apply below_alloc | apply below_drew1 | apply pw_below_drewN))).c0, (Y15.out.go (by repeat (first | exact HV2.out | exact HV1.out | exact Below.refl _ _ | apply below_alloc | apply below_drew1 | apply pw_below_drewN))).c1⟩
                      | go_keep)
                    ((first
                      | (go_at_call 117; (with_reducible refine (resolve_Dots.calls k o1 _ _ o2 x1 x2 _ (Y14.out.txt.go (by repeat (first | exact Below.refl _ _ | apply below_alloc | apply below_drew1 | apply pw_below_drewN | refine below_set ?_ (Nat.le_refl _)))).C (Y14.out.txt.go (by repeat (first | exact Below.refl _ _ | apply below_alloc | apply below_drew1 | apply pw_below_drewN | refine below_set ?_ (Nat.le_refl _)))).le H_x1.out).mono ?_); rintro e v1 ⟨v, rfl, hR, hb⟩; obtain ⟨AV1, cV1, eV1⟩ := Kd.R_slice hR; subst eV1; have TV1 := Aside0.mk (Txt.of hR); have RV1 := Aside0.mk hR; clear hR; have HV1 := Aside0.mk (below_step (show Below wc.heap.size wc _ from (by repeat (first | exact Below.refl _ _ | apply below_alloc | apply below_drew1 | apply pw_below_drewN | refine below_set ?_ (Nat.le_refl _)))) hb); have hbV1 := Aside0.mk hb)
                      | (go_at_call 47; (with_reducible refine (Cat3 k d1 _ d2 _ x1 _ x2 _ o3 _ o4 _ s1 s2 _ _ (by first | exact blk_new _ _) (X16.out.txt.go (by repeat (first | exact HV1.out | exact Below.refl _ _ | apply below_alloc | apply below_drew1 | apply pw_below_drewN | refine below_set ?_ (Nat.le_refl _)))) ((TV1.out).go (by repeat (first | exact Below.refl _ _ | apply below_alloc | apply below_drew1 | apply pw_below_drewN))) (Y15.out.txt.go (by repeat (first | exact HV1.out | exact Below.refl _ _ | apply below_alloc | apply below_drew1 | apply pw_below_drewN | refine below_set ?_ (Nat.le_refl _)))) H_c.out).mono ?_); rintro e v2 ⟨v, rfl, hR, hb⟩; obtain ⟨AV2, cV2, eV2⟩ := Kd.R_slice hR; subst eV2; have TV2 := Aside0.mk (Txt.of hR); have RV2 := Aside0.mk hR; clear hR; have HV2 := Aside0.mk (below_step (show Below wc.heap.size wc _ from (by repeat (first | exact HV1.out | exact Below.refl _ _ | apply below_alloc | apply below_drew1 | apply pw_below_drewN | refine below_set ?_ (Nat.le_refl _)))) hb); have hbV2 := Aside0.mk hb; have zf0 := blk_frozen (blk_below Y4.out HV2.out) 0; have zf1 := blk_frozen (blk_below Y4.out HV2.out) 1; have zr0 := blk_cell (blk_below Y4.out HV2.out) 0; have zr1 := blk_cell (blk_below Y4.out HV2.out) 1)
                    ))
                  go_wp2_with fail
                  refine bodyPost_ret (results_ct rfl _ _ (w.heap.size + 1 + 1) 24 #[.string s1, .slice AV2 s2.length cV2] (0, 0) _ rfl (blk_put (cs := #[.string s1, .slice none 0 0]) (blk_put (cs := #[.string (⟨#[]⟩ : ByteArray), .slice none 0 0]) (blk_below Y4.out HV2.out) 0 _ rfl) 1 _ rfl) Try.underlying24 rfl (by kernel_rfl)) rfl ?_
                  exact ⟨_, rfl, Kd.R_lower (Kd.R_mono (Kd.R_far (p := ⟨w.heap.size + 1 + 1, 1, none⟩) (Kd.R_far (p := ⟨w.heap.size + 1 + 1, 0, none⟩) (Kd.R_types RV2.out (blk_below Y4.out HV2.out) (by decide)) (fun _ hk => hk.2) (.string s1)) (fun _ hk => hk.2) (.slice AV2 s2.length cV2)) (fun _ _ => trivial)) (by have h1 := HBw.out.size; have h2 := (show Below wc.heap.size wc _ from (by repeat (first | exact HV1.out | exact Below.refl _ _ | apply below_alloc | apply below_drew1 | apply pw_below_drewN))).size; simp at h2 ⊢; omega), below_set (below_set (below_step HBw.out HV2.out) (by omega)) (by omega)⟩
                ·
                  rw [if_neg c47] at H
                  have c47b : (((t1[0]'hsz).toNat : Int) == 47) = false := by rw [HBt.out]; exact beq_eq_false_iff_ne.mpr c47
                  clear c47
                  unfold resolve_Join.a18 at H
                  obtain ⟨⟨x1, x2⟩, hx, H⟩ := Option.bind_eq_some_iff.mp H
                  obtain ⟨⟨y1, y2⟩, hy, H⟩ := Option.bind_eq_some_iff.mp H
                  obtain ⟨⟨m1, m2⟩, hm, H⟩ := Option.bind_eq_some_iff.mp H
                  have H_x1 := Aside0.mk hx
                  have H_y := Aside0.mk hy
                  have H_m1 := Aside0.mk hm
                  have H_c := Aside0.mk H
                  clear hx hy hm H
                  have zX160 := X16.out.c0
                  have zX161 := X16.out.c1
                  have zY120 := Y12.out.c0
                  have zY121 := Y12.out.c1
                  have zY140 := Y14.out.c0
                  have zY141 := Y14.out.c1
                  have zY150 := Y15.out.c0
                  have zY151 := Y15.out.c1
                  go_wp2_with fail
                  go_region_held3 (fun W => W.cell? ⟨g16, 0, none⟩ = some (.string d1) ∧ W.cell? ⟨g16, 1, none⟩ = some (.slice A16 d2.length c16) ∧ W.cell? ⟨g12, 0, none⟩ = some (.string p1) ∧ W.cell? ⟨g12, 1, none⟩ = some (.slice A12 p2.length c12) ∧ W.cell? ⟨g14, 0, none⟩ = some (.string o1) ∧ W.cell? ⟨g14, 1, none⟩ = some (.slice A14 o2.length c14) ∧ W.cell? ⟨g14 + 1, 0, none⟩ = some (.string o3) ∧ W.cell? ⟨g14 + 1, 1, none⟩ = some (.slice A15 o4.length c15))
                    (first
                      | exact ⟨(cell_far (p := ⟨w.heap.size + 1 + 1, 1, none⟩) NE_X16.out _).trans ((cell_far (p := ⟨w.heap.size + 1 + 1, 0, none⟩) NE_X16.out _).trans (X16.out.go (by repeat (first | exact HV4.out | exact HV3.out | exact HV2.out | exact HV1.out | exact Below.refl _ _ | apply below_alloc | apply below_drew1 | apply pw_below_drewN))).c0), (cell_far (p := ⟨w.heap.size + 1 + 1, 1, none⟩) NE_X16.out _).trans ((cell_far (p := ⟨w.heap.size + 1 + 1, 0, none⟩) NE_X16.out _).trans (X16.out.go (by repeat (first | exact HV4.out | exact HV3.out | exact HV2.out | exact HV1.out | exact Below.refl _ _ | apply below_alloc | apply below_drew1 | apply pw_below_drewN))).c1), (cell_far (p := ⟨w.heap.size + 1 + 1, 1, none⟩) NE_Y12.out _).trans ((cell_far (p := ⟨w.heap.size + 1 + 1, 0, none⟩) NE_Y12.out _).trans (Y12.out.go (by repeat (first | exact HV4.out | exact HV3.out | exact HV2.out | exact HV1.out | exact Below.refl _ _ | apply below_alloc | apply below_drew1 | apply pw_below_drewN))).c0), (cell_far (p := ⟨w.heap.size + 1 + 1, 1, none⟩) NE_Y12.out _).trans ((cell_far (p := ⟨w.heap.size + 1 + 1, 0, none⟩) NE_Y12.out _).trans (Y12.out.go (by repeat (first | exact HV4.out | exact HV3.out | exact HV2.out | exact HV1.out | exact Below.refl _ _ | apply below_alloc | apply below_drew1 | apply pw_below_drewN))).c1), (cell_far (p := ⟨w.heap.size + 1 + 1, 1, none⟩) NE_Y14.out _).trans ((cell_far (p := ⟨w.heap.size + 1 + 1, 0, none⟩) NE_Y14.out _).trans (Y14.out.go (by repeat (first | exact HV4.out | exact HV3.out | exact HV2.out | exact HV1.out | exact Below.refl _ _ | apply below_alloc | apply below_drew1 | apply pw_below_drewN))).c0), (cell_far (p := ⟨w.heap.size + 1 + 1, 1, none⟩) NE_Y14.out _).trans ((cell_far (p := ⟨w.heap.size + 1 + 1, 0, none⟩) NE_Y14.out _).trans (Y14.out.go (by repeat (first | exact HV4.out | exact HV3.out | exact HV2.out | exact HV1.out | exact Below.refl _ _ | apply below_alloc | apply below_drew1 | apply pw_below_drewN))).c1), (cell_far (p := ⟨w.heap.size + 1 + 1, 1, none⟩) NE_Y15.out _).trans ((cell_far (p := ⟨w.heap.size + 1 + 1, 0, none⟩) NE_Y15.out _).trans (Y15.out.go (by repeat (first | exact HV4.out | exact HV3.out | exact HV2.out | exact HV1.out | exact Below.refl _ _ | apply below_alloc | apply below_drew1 | apply pw_below_drewN))).c0), (cell_far (p := ⟨w.heap.size + 1 + 1, 1, none⟩) NE_Y15.out _).trans ((cell_far (p := ⟨w.heap.size + 1 + 1, 0, none⟩) NE_Y15.out _).trans (Y15.out.go (by repeat (first | exact HV4.out | exact HV3.out | exact HV2.out | exact HV1.out | exact Below.refl _ _ | apply below_alloc | apply below_drew1 | apply pw_below_drewN))).c1)⟩
                      | exact ⟨(X16.out.go (by repeat (first | exact HV4.out | exact HV3.out | exact HV2.out | exact HV1.out | exact Below.refl _ _ | apply below_alloc | apply below_drew1 | apply pw_below_drewN))).c0, (X16.out.go (by repeat (first | exact HV4.out | exact HV3.out | exact HV2.out | exact HV1.out | exact Below.refl _ _ | apply below_alloc | apply below_drew1 | apply pw_below_drewN))).c1, (Y12.out.go (by repeat (first | exact HV4.out | exact HV3.out | exact HV2.out | exact HV1.out | exact Below.refl _ _ | apply below_alloc | apply below_drew1 | apply pw_below_drewN))).c0, (Y12.out.go (by repeat (first | exact HV4.out | exact HV3.out | exact HV2.out | exact HV1.out | exact Below.refl _ _ | apply below_alloc | apply below_drew1 | apply pw_below_drewN))).c1, (Y14.out.go (by repeat (first | exact HV4.out | exact HV3.out | exact HV2.out | exact HV1.out | exact Below.refl _ _ | apply below_alloc | apply below_drew1 | apply pw_below_drewN))).c0, (Y14.out.go (by repeat (first | exact HV4.out | exact HV3.out | exact HV2.out | exact HV1.out | exact Below.refl _ _ | apply below_alloc | apply below_drew1 | apply pw_below_drewN))).c1, (Y15.out.go (by repeat (first | exact HV4.out | exact HV3.out | exact HV2.out | exact HV1.out | exact Below.refl _ _ | apply below_alloc | apply below_drew1 | apply pw_below_drewN))).c0, (Y15.out.go (by repeat (first | exact HV4.out | exact HV3.out | exact HV2.out | exact HV1.out | exact Below.refl _ _ | apply below_alloc | apply below_drew1 | apply pw_below_drewN))).c1⟩
                      | go_keep)
                    ((first
                      | (go_at_call 120; (with_reducible refine (resolve_folder.calls k p1 _ _ p2 x1 x2 _ (Y12.out.txt.go (by repeat (first | exact Below.refl _ _ | apply below_alloc | apply below_drew1 | apply pw_below_drewN | refine below_set ?_ (Nat.le_refl _)))).C (Y12.out.txt.go (by repeat (first | exact Below.refl _ _ | apply below_alloc | apply below_drew1 | apply pw_below_drewN | refine below_set ?_ (Nat.le_refl _)))).le H_x1.out).mono ?_); rintro e v1 ⟨v, rfl, hR, hb⟩; obtain ⟨AV1, cV1, eV1⟩ := Kd.R_slice hR; subst eV1; have TV1 := Aside0.mk (Txt.of hR); have RV1 := Aside0.mk hR; clear hR; have HV1 := Aside0.mk (below_step (show Below wc.heap.size wc _ from (by repeat (first | exact Below.refl _ _ | apply below_alloc | apply below_drew1 | apply pw_below_drewN | refine below_set ?_ (Nat.le_refl _)))) hb); have hbV1 := Aside0.mk hb)
                      | (go_at_call 47; (with_reducible refine (Cat2 k x1 _ x2 _ o1 _ o2 _ y1 y2 _ _ (by first | exact blk_new _ _) ((TV1.out).go (by repeat (first | exact Below.refl _ _ | apply below_alloc | apply below_drew1 | apply pw_below_drewN))) (Y14.out.txt.go (by repeat (first | exact HV1.out | exact Below.refl _ _ | apply below_alloc | apply below_drew1 | apply pw_below_drewN | refine below_set ?_ (Nat.le_refl _)))) H_y.out).mono ?_); rintro e v2 ⟨v, rfl, hR, hb⟩; obtain ⟨AV2, cV2, eV2⟩ := Kd.R_slice hR; subst eV2; have TV2 := Aside0.mk (Txt.of hR); have RV2 := Aside0.mk hR; clear hR; have HV2 := Aside0.mk (below_step (show Below wc.heap.size wc _ from (by repeat (first | exact HV1.out | exact Below.refl _ _ | apply below_alloc | apply below_drew1 | apply pw_below_drewN | refine below_set ?_ (Nat.le_refl _)))) hb); have hbV2 := Aside0.mk hb)
                      | (go_at_call 117; (with_reducible refine (resolve_Dots.calls k y1 _ _ y2 m1 m2 _ (TV2.out.go (by repeat (first | exact Below.refl _ _ | apply below_alloc | apply below_drew1 | apply pw_below_drewN))).C (TV2.out.go (by repeat (first | exact Below.refl _ _ | apply below_alloc | apply below_drew1 | apply pw_below_drewN))).le H_m1.out).mono ?_); rintro e v3 ⟨v, rfl, hR, hb⟩; obtain ⟨AV3, cV3, eV3⟩ := Kd.R_slice hR; subst eV3; have TV3 := Aside0.mk (Txt.of hR); have RV3 := Aside0.mk hR; clear hR; have HV3 := Aside0.mk (below_step (show Below wc.heap.size wc _ from (by repeat (first | exact HV2.out | exact HV1.out | exact Below.refl _ _ | apply below_alloc | apply below_drew1 | apply pw_below_drewN | refine below_set ?_ (Nat.le_refl _)))) hb); have hbV3 := Aside0.mk hb)
                      | (go_at_call 47; (with_reducible refine (Cat3 k d1 _ d2 _ m1 _ m2 _ o3 _ o4 _ s1 s2 _ _ (by first | exact blk_new _ _) (X16.out.txt.go (by repeat (first | exact HV3.out | exact HV2.out | exact HV1.out | exact Below.refl _ _ | apply below_alloc | apply below_drew1 | apply pw_below_drewN | refine below_set ?_ (Nat.le_refl _)))) ((TV3.out).go (by repeat (first | exact Below.refl _ _ | apply below_alloc | apply below_drew1 | apply pw_below_drewN))) (Y15.out.txt.go (by repeat (first | exact HV3.out | exact HV2.out | exact HV1.out | exact Below.refl _ _ | apply below_alloc | apply below_drew1 | apply pw_below_drewN | refine below_set ?_ (Nat.le_refl _)))) H_c.out).mono ?_); rintro e v4 ⟨v, rfl, hR, hb⟩; obtain ⟨AV4, cV4, eV4⟩ := Kd.R_slice hR; subst eV4; have TV4 := Aside0.mk (Txt.of hR); have RV4 := Aside0.mk hR; clear hR; have HV4 := Aside0.mk (below_step (show Below wc.heap.size wc _ from (by repeat (first | exact HV3.out | exact HV2.out | exact HV1.out | exact Below.refl _ _ | apply below_alloc | apply below_drew1 | apply pw_below_drewN | refine below_set ?_ (Nat.le_refl _)))) hb); have hbV4 := Aside0.mk hb; have zf0 := blk_frozen (blk_below Y4.out HV4.out) 0; have zf1 := blk_frozen (blk_below Y4.out HV4.out) 1; have zr0 := blk_cell (blk_below Y4.out HV4.out) 0; have zr1 := blk_cell (blk_below Y4.out HV4.out) 1)
                    ))
                  go_wp2_with fail
                  refine bodyPost_ret (results_ct rfl _ _ (w.heap.size + 1 + 1) 24 #[.string s1, .slice AV4 s2.length cV4] (0, 0) _ rfl (blk_put (cs := #[.string s1, .slice none 0 0]) (blk_put (cs := #[.string (⟨#[]⟩ : ByteArray), .slice none 0 0]) (blk_below Y4.out HV4.out) 0 _ rfl) 1 _ rfl) Try.underlying24 rfl (by kernel_rfl)) rfl ?_
                  exact ⟨_, rfl, Kd.R_lower (Kd.R_mono (Kd.R_far (p := ⟨w.heap.size + 1 + 1, 1, none⟩) (Kd.R_far (p := ⟨w.heap.size + 1 + 1, 0, none⟩) (Kd.R_types RV4.out (blk_below Y4.out HV4.out) (by decide)) (fun _ hk => hk.2) (.string s1)) (fun _ hk => hk.2) (.slice AV4 s2.length cV4)) (fun _ _ => trivial)) (by have h1 := HBw.out.size; have h2 := (show Below wc.heap.size wc _ from (by repeat (first | exact HV3.out | exact HV2.out | exact HV1.out | exact Below.refl _ _ | apply below_alloc | apply below_drew1 | apply pw_below_drewN))).size; simp at h2 ⊢; omega), below_set (below_set (below_step HBw.out HV4.out) (by omega)) (by omega)⟩

end Go.Proofs.Ytljmmhihdcnbaaa.G
