/- Lists of labelled texts that the program made; single bytes of a labelled text. -/
import Derived.Test.YtljmmhihdcnbaaaPd
namespace Go.Proofs.Ytljmmhihdcnbaaa.G
open Go.RowKit Go.Proofs.YtljmmhihdcnbaaaW.PrintWords Go.Proofs.YtljmmhihdcnbaaaW.PrintLast Go.Proofs.YtljmmhihdcnbaaaW.PrintMore
set_option linter.unusedVariables false
set_option linter.unusedSimpArgs false

theorem rdC {l : List Lc} {i : Nat} (h : i < l.length) : rd_T29 (l.map toC) (i : Int) = toC l[i] := by rw [rdT29 (by simpa using h)]; simp
end Go.Proofs.Ytljmmhihdcnbaaa.G
