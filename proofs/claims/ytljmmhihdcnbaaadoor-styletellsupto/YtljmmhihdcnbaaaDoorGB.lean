/- Variables that hold labelled texts, lists that can be read: words of the walks by hand. -/
import Derived.Test.YtljmmhihdcnbaaaDoorG0
namespace Go.Proofs.YtljmmhihdcnbaaaDoor.G
open Go.RowKit Go.Proofs.YtljmmhihdcnbaaaDoorW.PrintWords Go.Proofs.YtljmmhihdcnbaaaDoorW.PrintLast Go.Proofs.YtljmmhihdcnbaaaDoorW.PrintMore
attribute [local go_sem] max2_int min2_int max_two min_two max_three min_three max_four min_four   -- for this text's walks alone
set_option linter.unusedVariables false
set_option linter.unusedSimpArgs false
/-- A labelled text that can be read: its slice's address and capacity. -/
structure Txt (W : World) (A : Option Addr) (c : Nat) (l : List S56) : Prop where
  C : Kd.C k56 W A l.length l
  le : l.length ≤ c
theorem Txt.go {W W1 : World} {A : Option Addr} {c : Nat} {l : List S56} (h : Txt W A c l) (hb : Below W.heap.size W W1) : Txt W1 A c l := ⟨Kd.C_below h.C hb, h.le⟩
theorem Txt.of {W : World} {base : Nat} {ok : Nat → Prop} {A : Option Addr} {n c : Nat} {l : List S56} (h : Kd.R k56 56 W base ok (.slice A n c) l) : Txt W A c l := ⟨(Kd.R_reads' h).2.2, (Kd.R_reads' h).1 ▸ (Kd.R_reads' h).2.1⟩
/-- A variable of the call's own that holds a labelled text. -/
def Bx (W : World) (g : Nat) (t : ByteArray) (A : Option Addr) (c : Nat) (l : List S56) : Prop := W.heap[g]? = some (.cells #[.string t, .slice A l.length c] 24 (0, 0)) ∧ Txt W A c l
theorem Bx.go {W W1 : World} {g : Nat} {t : ByteArray} {A : Option Addr} {c : Nat} {l : List S56} (h : Bx W g t A c l) (hb : Below W.heap.size W W1) : Bx W1 g t A c l := ⟨blk_below h.1 hb, h.2.go hb⟩
theorem Bx.c0 {W : World} {g : Nat} {t : ByteArray} {A : Option Addr} {c : Nat} {l : List S56} (h : Bx W g t A c l) : W.cell? ⟨g, 0, none⟩ = some (.string t) := blk_cell h.1 0
theorem Bx.c1 {W : World} {g : Nat} {t : ByteArray} {A : Option Addr} {c : Nat} {l : List S56} (h : Bx W g t A c l) : W.cell? ⟨g, 1, none⟩ = some (.slice A l.length c) := blk_cell h.1 1
theorem Bx.new {W : World} {t : ByteArray} {A : Option Addr} {c : Nat} {l : List S56} (h : Txt W A c l) : Bx (W.alloc (.cells #[.string t, .slice A l.length c] 24)) W.heap.size t A c l := ⟨blk_new _ _, h.go (below_alloc (Below.refl _ _) _)⟩
/-- A list of attributes that can be read; its blocks are of its own types. -/
def LL (W : World) (A : Option Addr) (c : Nat) (t : List S32) : Prop := Kd.R k32 32 W 0 (fun _ => True) (.slice A t.length c) t
theorem LL.C {W : World} {A : Option Addr} {c : Nat} {t : List S32} (h : LL W A c t) : Kd.C k32 W A t.length t := (Kd.R_reads' h).2.2
theorem LL.le {W : World} {A : Option Addr} {c : Nat} {t : List S32} (h : LL W A c t) : t.length ≤ c := (Kd.R_reads' h).2.1
theorem LL.go {W W1 : World} {A : Option Addr} {c : Nat} {t : List S32} (h : LL W A c t) (hb : Below W.heap.size W W1) : LL W1 A c t := Kd.R_below h hb
theorem LL.of {W : World} {base : Nat} {ok : Nat → Prop} {A : Option Addr} {c : Nat} {t : List S32} (h : Kd.S k32 32 W base ok (.slice A t.length c) t) : LL W A c t := Kd.R_lower (Kd.R_mono (Kd.S_R h) (fun _ _ => trivial)) (Nat.zero_le _)
theorem LL.grown {W W1 : World} {A : Option Addr} {c e : Nat} {t : List S32} {v : Value} (h : LL W A c t) (he : ∀ q, q ∈ 32 :: k32.E → q ≠ e) (hv : ∀ k, v.ownBlock = some k → ∃ cells, W.heap[k]? = some (.cells cells e (0, 0))) (hg : W.grownBy W1 v.ownBlock) : LL W1 A c t := by
  cases hvb : v.ownBlock with
  | none => exact Kd.R_step h (fun k _ hk => hg.block k hk (by rw [hvb]; simp))
  | some g =>
    obtain ⟨cells, hc⟩ := hv g hvb
    exact Kd.R_mono (Kd.R_step (Kd.R_types h hc he) (fun k hk hlt => hg.block k hlt (by rw [hvb]; exact fun e => hk.2 (Option.some.inj e)))) (fun _ _ => trivial)
theorem Bx.grown {W W1 : World} {g : Nat} {t : ByteArray} {A : Option Addr} {c e : Nat} {l : List S56} {v : Value} (h : W.heap[g]? = some (.cells #[.string t, .slice A l.length c] 24 (0, 0))) (he : e ≠ 24) (hv : ∀ k, v.ownBlock = some k → ∃ cells, W.heap[k]? = some (.cells cells e (0, 0))) (hg : W.grownBy W1 v.ownBlock) : W1.heap[g]? = some (.cells #[.string t, .slice A l.length c] 24 (0, 0)) := by
  refine (hg.block g (blk_lt h) (fun hgv => ?_)).trans h
  obtain ⟨cells, hc⟩ := hv g hgv.symm
  rw [h] at hc
  injection hc with hc
  injection hc with _ h2
  exact he h2.symm

end Go.Proofs.YtljmmhihdcnbaaaDoor.G
