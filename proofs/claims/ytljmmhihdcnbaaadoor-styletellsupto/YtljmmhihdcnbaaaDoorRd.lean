/- How an argument's reading gives the lists that the contracts speak of, and the bound on what is read. -/
import Derived.Test.YtljmmhihdcnbaaaDoorRows
import Derived.Test.YtljmmhihdcnbaaaDoorG0
import Derived.WalkKit
import Derived.ProofKit
import Derived.OpenShut
import Derived.JoinedCond
import Derived.Deep.Slices
import Derived.Carry
namespace Go.Proofs.YtljmmhihdcnbaaaDoor.G
open Go.ChangeShapes Go.WideShapes Go.ChangeAt Go.RowKit Go.Deep Go.Proofs.YtljmmhihdcnbaaaDoorW.PrintWords
set_option linter.unusedVariables false
set_option linter.unusedSimpArgs false

def Opens {α : Type} (t : TypeId) (d : Kd α) (wt : α → Nat) : Prop :=
  ∀ (H : Type) (enc : TypeId × Value → H) (w : World) (base : Nat) (spare : Nat → Bool) (held : Bool) (fuel : Nat) (cs : List Value) (x : DataW H × List MemPlace),
    DataW.trod enc Tryd.prog w base spare held fuel t cs = some x → ∃ a, d.K w a cs ∧ wt a ≤ Rows.uptoBulk x.1
theorem opens_int {t : TypeId} {k : IntKind} (ht : Tryd.prog.underlying t = some (.int k)) : Opens t (Kd.int k) (fun _ => 1) := by
  intro H enc w base spare held fuel cs x h
  obtain ⟨n, rfl, rfl, _⟩ := DataW.trod_int ht h
  exact ⟨n, rfl, by simp [Rows.uptoBulk]⟩
theorem opens_string {t : TypeId} (ht : Tryd.prog.underlying t = some .string) : Opens t Kd.string (fun s => s.size + 1) := by
  intro H enc w base spare held fuel cs x h
  obtain ⟨s, rfl, rfl, _⟩ := DataW.trod_string ht h
  exact ⟨s, rfl, by simp [Rows.uptoBulk]⟩
theorem opens_pair {α β : Type} {t : TypeId} {f0 f1 : Field} {a : Kd α} {b : Kd β} {wa : α → Nat} {wb : β → Nat} (ht : Tryd.prog.underlying t = some (.struct #[f0, f1])) (h0 : Opens f0.type a wa) (h1 : Opens f1.type b wb)
    (ho0 : f0.offset = 0) (ho1 : f1.offset = a.sz) (hs0 : Tryd.prog.cellsOf f0.type = a.sz) (hs1 : Tryd.prog.cellsOf f1.type = b.sz) (hc : Tryd.prog.cellsOf t = a.sz + b.sz) : Opens t (Kd.pair a b) (fun x => wa x.1 + wb x.2 + 1) := by
  intro H enc w base spare held fuel cs x h
  obtain ⟨y0, y1, n, rfl, hl, e0, e1⟩ := trod_struct2 ht h
  obtain ⟨p, hp, hwp⟩ := h0 H enc w base spare held _ _ _ e0
  obtain ⟨q, hq, hwq⟩ := h1 H enc w base spare held _ _ _ e1
  rw [ho0, hs0, List.drop_zero] at hp
  rw [ho1, hs1, List.take_of_length_le (by rw [List.length_drop, hl, hc]; omega)] at hq
  refine ⟨(p, q), ⟨_, _, (List.take_append_drop a.sz cs).symm, hp, hq⟩, ?_⟩
  simp only [Rows.uptoBulk, Rows.uptoBulkAll]
  omega
theorem opens_iso {α β : Type} {t : TypeId} {d : Kd α} {wt : α → Nat} (f : β → α) (g : α → β) (hfg : ∀ x, f (g x) = x) (h : Opens t d wt) : Opens t (Kd.iso d f) (fun x => wt (f x)) := by
  intro H enc w base spare held fuel cs x hx
  obtain ⟨a, ha, hw⟩ := h H enc w base spare held _ _ _ hx
  exact ⟨g a, by show d.K w (f (g a)) cs; rw [hfg]; exact ha, by show wt (f (g a)) ≤ _; rw [hfg]; exact hw⟩
theorem add_add' (a : Addr) (i j : Nat) : (a.add i).add j = a.add (i + j) := by
  unfold Addr.add
  by_cases hi : i = 0 <;> by_cases hj : j = 0 <;> simp [hi, hj, Nat.add_assoc]
theorem opens_slice {α : Type} {t e : TypeId} {d : Kd α} {wt : α → Nat} (ht : Tryd.prog.underlying t = some (.slice e)) (hs : Tryd.prog.cellsOf e = d.sz) (h : Opens e d wt) : Opens t (Kd.slice e d) (fun l => (l.map wt).sum + 1) := by
  intro H enc w base spare held fuel cs x hx
  rcases DataW.trod_slice ht hx with ⟨rfl, rfl⟩ | ⟨a, len, cap, elems, rest, n, _, rfl, rfl, _, hl, hm, hlen, hel, _, _⟩
  · exact ⟨[], ⟨none, 0, rfl, Nat.le_refl _, rfl, by simp, fun h0 => absurd h0 (by simp)⟩, by simp [Rows.uptoBulk]⟩
  · have key : ∀ m, m ≤ len → ∃ l : List α, l.length = m ∧ (l.map wt).sum ≤ Rows.uptoBulkAll ((elems.take m).map (·.1)) ∧ ∀ j p, l[j]? = some p → ∃ c, c.length = d.sz ∧ d.K w p c ∧ ∀ i u, c[i]? = some u → w.cell? (a.add (j * d.sz + i)) = some u := by
      intro m
      induction m with
      | zero => intro _; exact ⟨[], rfl, by simp [Rows.uptoBulkAll], fun j p hj => by simp at hj⟩
      | succ m ih =>
        intro hm1
        obtain ⟨l, hll, hws, hp⟩ := ih (by omega)
        have hlt : m < elems.length := by omega
        have he := hel m (by omega)
        rw [List.getElem?_eq_getElem hlt] at he
        obtain ⟨c, hc, hct⟩ := Option.bind_eq_some_iff.1 he
        obtain ⟨p, hK, hw⟩ := h H enc w base spare held _ _ _ hct
        obtain ⟨_, hcl, hca⟩ := World.cells?_some hc
        refine ⟨l ++ [p], by simp [hll], ?_, fun j q hj => ?_⟩
        · rw [List.take_succ_eq_append_getElem hlt, List.map_append, List.map_append, List.sum_append]
          have ha : ∀ (l r : List (DataW H)), Rows.uptoBulkAll (l ++ r) = Rows.uptoBulkAll l + Rows.uptoBulkAll r := by
            intro l r
            induction l with
            | nil => simp [Rows.uptoBulkAll]
            | cons x l ih => simp only [List.cons_append, Rows.uptoBulkAll, ih]; omega
          rw [ha]
          simp only [List.map_cons, List.map_nil, List.sum_cons, List.sum_nil, Rows.uptoBulkAll]
          omega
        · rcases Nat.lt_or_ge j l.length with hj2 | hj2
          · rw [List.getElem?_append_left hj2] at hj
            exact hp j q hj
          · have ej : j = l.length := by
              have := (List.getElem?_eq_some_iff.1 hj).1
              simp at this
              omega
            subst ej
            rw [List.getElem?_append_right (Nat.le_refl _)] at hj
            simp at hj
            subst hj
            refine ⟨c, hcl.trans hs, hK, fun i u hi => ?_⟩
            have hic : i < c.length := (List.getElem?_eq_some_iff.1 hi).1
            have := hca i (by omega)
            rw [hs, add_add', hll.symm] at this
            rw [this, hi]
    obtain ⟨l, hll, hws, hp⟩ := key len (Nat.le_refl _)
    refine ⟨l, ⟨some a, cap, by rw [hll], by omega, rfl, by rw [hll]; unfold maxLen at hm; omega, fun _ => ⟨a, rfl, hp⟩⟩, ?_⟩
    rw [List.take_of_length_le (by omega)] at hws
    simp only [Rows.uptoBulk]
    omega
def wt56 (r : S56) : Nat := 3
theorem opens56 : Opens 56 k56 wt56 := by
  have := opens_iso (fun x : S56 => (x.f0, x.f1)) (fun p => ⟨p.1, p.2⟩) (fun _ => rfl) (opens_pair (t := 56) Tryd.underlying56 (opens_int Tryd.underlying3) (opens_int Tryd.underlying3) rfl rfl (by kernel_rfl) (by kernel_rfl) (by kernel_rfl))
  exact this
def wt24 (s : S24) : Nat := s.f0.size + 1 + ((s.f1.map wt56).sum + 1) + 1
theorem opens24 : Opens 24 k24 wt24 := by
  have := opens_iso (fun x : S24 => (x.f0, x.f1)) (fun p => ⟨p.1, p.2⟩) (fun _ => rfl) (opens_pair (t := 24) Tryd.underlying24 (opens_string Tryd.underlying9) (opens_slice Tryd.underlying22 (by kernel_rfl) opens56) rfl rfl (by kernel_rfl) (by kernel_rfl) (by kernel_rfl))
  exact this
theorem sum_len {α : Type} (l : List α) (wt : α → Nat) (h : ∀ x ∈ l, 1 ≤ wt x) : l.length ≤ (l.map wt).sum := by
  induction l with
  | nil => simp
  | cons x l ih =>
    have h1 := h x (by simp)
    have h2 := ih (fun y hy => h y (by simp [hy]))
    simp only [List.map_cons, List.sum_cons, List.length_cons]
    omega
theorem wt24_le (s : S24) : s.f0.size ≤ wt24 s ∧ s.f1.length ≤ wt24 s := by
  have := sum_len s.f1 wt56 (fun _ _ => by unfold wt56; omega)
  unfold wt24
  omega

section
variable {H : Type} {enc : TypeId × Value → H} {W : World} {base : Nat}
set_option maxRecDepth 100000 in
theorem open24 {v : Value} {d : DataW H} {p : List MemPlace} (hv : Value.okWide Tryd.prog W .any base 24 v) (h : DataW.Trod enc Tryd.prog W 0 (fun _ => true) true 24 v d p) :
    ∃ (s : S24) (A : Option Addr) (c : Nat), v = .agg #[.string s.f0, .slice A s.f1.length c] ∧ s.f1.length ≤ c ∧ Kd.C k56 W A s.f1.length s.f1 ∧ wt24 s ≤ Rows.uptoBulk d := by
  obtain ⟨cs, rfl, _⟩ := okWide_struct Tryd.underlying24 hv
  obtain ⟨fuel, hf⟩ := h
  obtain ⟨s, hK, hw⟩ := opens24 H enc W 0 _ _ _ _ _ hf
  obtain ⟨A, c, e, hl, hC⟩ := k24_open hK
  refine ⟨s, A, c, ?_, hl, hC, hw⟩
  obtain ⟨l⟩ := cs
  simp only [Value.cells] at e
  subst e
  rfl
end
end Go.Proofs.YtljmmhihdcnbaaaDoor.G
