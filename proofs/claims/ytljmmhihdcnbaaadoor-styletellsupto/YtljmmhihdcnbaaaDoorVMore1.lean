/- Words that the print's text of PercentParts names, and short ones for what it repeats. -/
import Derived.Test.YtljmmhihdcnbaaaDoorVMore6
namespace Go.Proofs.YtljmmhihdcnbaaaDoorW.PrintWords
open Go.RowKit
set_option linter.unusedVariables false
namespace Kd
section
variable {α : Type} {d : Kd α} {e base : Nat} {ok : Nat → Prop} {W w1 : World} {v : Value} {xs : List α}
theorem V_go (h : V d e W base ok v xs) (hb : Below W.heap.size W w1 := by (with_reducible repeat (first | exact Below.refl _ _ | apply below_alloc | apply pw_below_drewN | apply below_drew1))) : V d e w1 base ok v xs := V_below h hb
theorem R_go (h : d.R e W base ok v xs) (hb : Below W.heap.size W w1 := by (with_reducible repeat (first | exact Below.refl _ _ | apply below_alloc | apply pw_below_drewN | apply below_drew1))) : d.R e w1 base ok v xs := R_below h hb
theorem N_go (h : N d e W base ok v xs) (hb : Below W.heap.size W w1 := by (with_reducible repeat (first | exact Below.refl _ _ | apply below_alloc | apply pw_below_drewN | apply below_drew1))) : N d e w1 base ok v xs := N_below h hb
end
end Kd
theorem blk_go {W w1 : World} {g : Nat} {o : Obj} (h : W.heap[g]? = some o) (hb : Below W.heap.size W w1 := by (with_reducible repeat (first | exact Below.refl _ _ | apply below_alloc | apply pw_below_drewN | apply below_drew1))) : w1.heap[g]? = some o := blk_below h hb
theorem below_go {w W w1 : World} (h : Below w.heap.size w W) (hb : Below W.heap.size W w1 := by (with_reducible repeat (first | exact Below.refl _ _ | apply below_alloc | apply pw_below_drewN | apply below_drew1))) : Below w.heap.size w w1 := below_step h hb
theorem blk_apart {W : World} {g g' : Nat} {o : Obj} (hg : g' = W.heap.size) (h : W.heap[g]? = some o) : g' ≠ g := by rw [hg]; exact Nat.ne_of_gt (blk_lt h)
section
variable {P : Program} {ops : Array Oper} {o : Oper} {a : Act} {Q : Exit → Act → World → Prop} {Kc : Act → World → Prop}
end
end Go.Proofs.YtljmmhihdcnbaaaDoorW.PrintWords
namespace Go.Proofs.YtljmmhihdcnbaaaDoorW.PrintLast
section
variable {P : Program} {ops : Array Oper} {Q : Exit → Act → World → Prop} {md : Region.Mode} {S : World → Prop} {ds : List Nat}
end
section
variable {md : Region.Mode} {ops : Array Oper} {T : Bool × List (List Nat × List Nat)} {l l' li lj lk : Array Bool} {ds : List Nat} {i j k : Nat}
end
end Go.Proofs.YtljmmhihdcnbaaaDoorW.PrintLast
