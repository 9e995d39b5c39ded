/-
  NARROWER THAN 'FOR EVERY INPUT', by the rows' own cells (each row's printed sentence says how): StyleTrust: laid · StyleTwice: laid · BlanksQuote: laid · StyleTells: laid.
  DERIVED. THE GIVEN ROWS OF THIS SEAT. 4 by the template 'for every input the law returns true; each argument reads behind the call as it read before'; 0 by the template 'total and deterministic' (their statements: YtljmmhihdcnbaaaDoorTotals.lean).
  GIVEN WITH THE SEED: the statements are not yours to turn. If you find one false, say at which input.
  Laid BY PROGRAM, IN A SANDBOX (cutbox-rows.mjs): the forced cells as the released guide's own fill.sh prints them over the translation f7ae7749c2597886… (all of the seat's roots in one cut). By AI agents, Wed Nov 11 2026. No macro, syntax, notation, axiom, sorry.
-/
import Derived.Test.YtljmmhihdcnbaaaDoorChecked
import GoSem.PinnedTables
import GoSem.Claim
import GoSem.ClaimJoined
import GoSem.ClaimMapViews
import Derived.JoinedTies
import Derived.KernelRfl
namespace Go.Proofs.YtljmmhihdcnbaaaDoor
/- THE CELL 'sum', in the pinned program and in every row, IS THE sha256 OF THE DUMP (.gsa) THAT YtljmmhihdcnbaaaDoorProg.lean LOADS. Nothing in Lean hashes anything: it is a label: what it is worth is what the hold of that sum in a sandbox is worth. -/
noncomputable def Tryd.pinned : Pinned := { name := "ytljmmhihdcnbaaadoor", sum := "f7ae7749c25978864224e8e54dd7dcea752aeac7e92c3952a243378b073a172b", checked := Tryd.checked }
namespace Rows
def none {H : Type} : Left H := { results := [], args := [] }

/- WHAT THE LISTED PACKAGE-LEVEL VARIABLES READ AS WHEN THE CALL BEGINS. Each datum BY PROGRAM (the guide's laid-datum.mjs) off the statement by which the dump's own 'gosem.cut.vars' lays the variable. In a bare row this is a premise. The card (YtljmmhihdcnbaaaDoorCards.lean) ties it to the program's text. -/
def laid_unicode_utf8_acceptRanges {H : Type} : DataW H := .agg [.agg [.lit (.int .u8 128), .lit (.int .u8 191)], .agg [.lit (.int .u8 160), .lit (.int .u8 191)], .agg [.lit (.int .u8 128), .lit (.int .u8 159)], .agg [.lit (.int .u8 144), .lit (.int .u8 191)], .agg [.lit (.int .u8 128), .lit (.int .u8 143)], .agg [.lit (.int .u8 0), .lit (.int .u8 0)], .agg [.lit (.int .u8 0), .lit (.int .u8 0)], .agg [.lit (.int .u8 0), .lit (.int .u8 0)], .agg [.lit (.int .u8 0), .lit (.int .u8 0)], .agg [.lit (.int .u8 0), .lit (.int .u8 0)], .agg [.lit (.int .u8 0), .lit (.int .u8 0)], .agg [.lit (.int .u8 0), .lit (.int .u8 0)], .agg [.lit (.int .u8 0), .lit (.int .u8 0)], .agg [.lit (.int .u8 0), .lit (.int .u8 0)], .agg [.lit (.int .u8 0), .lit (.int .u8 0)], .agg [.lit (.int .u8 0), .lit (.int .u8 0)]]
/-- One of Go's own tables, pinned by name: the form's constant. -/
def laid_unicode_utf8_first : DataW Unit := Go.Pinned.utf8First

/-- 'glazierlaw44.StyleTrust': WHATEVER THE INPUT: true; the input reads as it did. -/
def styleTrustSpec : ChangeSpec := { name := "styleTrust", fn := fun _ => fun
  | [d] => { results := [.lit (.bool true)], args := [d] }
  | _ => none }
def styleTrustRow : OpenClaim := { program := "ytljmmhihdcnbaaadoor", sum := "f7ae7749c25978864224e8e54dd7dcea752aeac7e92c3952a243378b073a172b", func := "glazier/glazierlaw44.StyleTrust", spec := "styleTrust", inPlace := ["internal/bytealg.IndexByteString", "internal/bytealg.IndexString"], unfollowed := true, recurses := true, named := ["internal/bytealg.MaxLen", "unicode/utf8.first", "unicode/utf8.acceptRanges"], apart := false, laid := [("unicode/utf8.acceptRanges", laid_unicode_utf8_acceptRanges), ("unicode/utf8.first", laid_unicode_utf8_first)] }
def StyleTrustSaid : Prop := styleTrustRow.holds Tryd.pinned (OpenSpec.ofChange styleTrustSpec)

/-- ITS FALSE NEIGHBOUR: 'it returns false'. Refute it at one input. -/
def styleTrustWrong : ChangeSpec := { name := "styleTrust", fn := fun _ => fun
  | [d] => { results := [.lit (.bool false)], args := [d] }
  | _ => none }
def StyleTrustWrongFalsely : Prop := styleTrustRow.holds Tryd.pinned (OpenSpec.ofChange styleTrustWrong)

/-- 'glazierlaw44.StyleTwice': WHATEVER THE INPUT: true; the input reads as it did. -/
def styleTwiceSpec : ChangeSpec := { name := "styleTwice", fn := fun _ => fun
  | [d] => { results := [.lit (.bool true)], args := [d] }
  | _ => none }
def styleTwiceRow : OpenClaim := { program := "ytljmmhihdcnbaaadoor", sum := "f7ae7749c25978864224e8e54dd7dcea752aeac7e92c3952a243378b073a172b", func := "glazier/glazierlaw44.StyleTwice", spec := "styleTwice", inPlace := ["internal/bytealg.IndexByteString", "internal/bytealg.IndexString"], unfollowed := true, recurses := true, named := ["internal/bytealg.MaxLen", "unicode/utf8.first", "unicode/utf8.acceptRanges"], apart := false, laid := [("unicode/utf8.acceptRanges", laid_unicode_utf8_acceptRanges), ("unicode/utf8.first", laid_unicode_utf8_first)] }
def StyleTwiceSaid : Prop := styleTwiceRow.holds Tryd.pinned (OpenSpec.ofChange styleTwiceSpec)

/-- ITS FALSE NEIGHBOUR: 'it returns false'. Refute it at one input. -/
def styleTwiceWrong : ChangeSpec := { name := "styleTwice", fn := fun _ => fun
  | [d] => { results := [.lit (.bool false)], args := [d] }
  | _ => none }
def StyleTwiceWrongFalsely : Prop := styleTwiceRow.holds Tryd.pinned (OpenSpec.ofChange styleTwiceWrong)

/-- 'glazierlaw47.BlanksQuote': WHATEVER THE INPUT: true; the input reads as it did. -/
def blanksQuoteSpec : ChangeSpec := { name := "blanksQuote", fn := fun _ => fun
  | [d1, d2] => { results := [.lit (.bool true)], args := [d1, d2] }
  | _ => none }
def blanksQuoteRow : OpenClaim := { program := "ytljmmhihdcnbaaadoor", sum := "f7ae7749c25978864224e8e54dd7dcea752aeac7e92c3952a243378b073a172b", func := "glazier/glazierlaw47.BlanksQuote", spec := "blanksQuote", inPlace := ["internal/bytealg.IndexByteString", "internal/bytealg.CountString", "internal/bytealg.IndexString", "internal/abi.NoEscape", "internal/bytealg.MakeNoZero"], unfollowed := true, recurses := true, named := ["internal/bytealg.MaxLen", "unicode/utf8.first", "unicode/utf8.acceptRanges"], apart := false, laid := [("unicode/utf8.acceptRanges", laid_unicode_utf8_acceptRanges), ("unicode/utf8.first", laid_unicode_utf8_first)] }
def BlanksQuoteSaid : Prop := blanksQuoteRow.holds Tryd.pinned (OpenSpec.ofChange blanksQuoteSpec)

/-- ITS FALSE NEIGHBOUR: 'it returns false'. Refute it at one input. -/
def blanksQuoteWrong : ChangeSpec := { name := "blanksQuote", fn := fun _ => fun
  | [d1, d2] => { results := [.lit (.bool false)], args := [d1, d2] }
  | _ => none }
def BlanksQuoteWrongFalsely : Prop := blanksQuoteRow.holds Tryd.pinned (OpenSpec.ofChange blanksQuoteWrong)

/-- 'glazierlaw44.StyleTells': WHATEVER THE INPUT: true; the input reads as it did. -/
def styleTellsSpec : ChangeSpec := { name := "styleTells", fn := fun _ => fun
  | [d1, d2, d3] => { results := [.lit (.bool true)], args := [d1, d2, d3] }
  | _ => none }
def styleTellsRow : OpenClaim := { program := "ytljmmhihdcnbaaadoor", sum := "f7ae7749c25978864224e8e54dd7dcea752aeac7e92c3952a243378b073a172b", func := "glazier/glazierlaw44.StyleTells", spec := "styleTells", inPlace := ["internal/bytealg.IndexByteString", "internal/bytealg.IndexString"], unfollowed := true, recurses := true, named := ["internal/bytealg.MaxLen", "unicode/utf8.first", "unicode/utf8.acceptRanges"], apart := false, laid := [("unicode/utf8.acceptRanges", laid_unicode_utf8_acceptRanges), ("unicode/utf8.first", laid_unicode_utf8_first)] }
def StyleTellsSaid : Prop := styleTellsRow.holds Tryd.pinned (OpenSpec.ofChange styleTellsSpec)

/-- ITS FALSE NEIGHBOUR: 'it returns false'. Refute it at one input. -/
def styleTellsWrong : ChangeSpec := { name := "styleTells", fn := fun _ => fun
  | [d1, d2, d3] => { results := [.lit (.bool false)], args := [d1, d2, d3] }
  | _ => none }
def StyleTellsWrongFalsely : Prop := styleTellsRow.holds Tryd.pinned (OpenSpec.ofChange styleTellsWrong)

/- THE SECOND FORM. 'bulk': how many values and letters a reading holds, each counted each time it is reached (what is shared counts as often as it is met; a slice's spare places count too). A statement '..UptoSaid' is the law's where the arguments, and the package variables that the reading takes, are together of bulk at most 1048576: NARROWER than '..Said'. Prove '..Said' where nothing that the law and all that it calls make is longer than what came in: it says more and counts as full. Else prove '..UptoSaid'. A law counts once. -/
mutual
def uptoBulk {H : Type} : DataW H → Nat
  | .lit (.string bytes) => bytes.length + 1
  | .lit _ => 1
  | .nil => 1
  | .ptr d => uptoBulk d + 1
  | .slice elems spare => uptoBulkAll elems + uptoBulkAll spare + 1
  | .agg parts => uptoBulkAll parts + 1
  | .iface _ d => uptoBulk d + 1
  | .map entries => uptoBulkEntries entries + 1
  | .held _ => 1
def uptoBulkAll {H : Type} : List (DataW H) → Nat
  | [] => 0
  | d :: r => uptoBulk d + uptoBulkAll r
def uptoBulkEntries {H : Type} : List (Lit × DataW H) → Nat
  | [] => 0
  | x :: r => uptoBulkEntry x + uptoBulkEntries r
def uptoBulkEntry {H : Type} : Lit × DataW H → Nat
  | (.string bytes, d) => bytes.length + uptoBulk d + 1
  | (_, d) => uptoBulk d + 1
 end
def uptoSmall : (H : Type) → List (DataW H) → Bool := fun _ ds => decide (uptoBulkAll ds ≤ 1048576)
def OpenSpec.upto (s : _root_.Go.ChangeSpec) : _root_.Go.OpenSpec := { _root_.Go.OpenSpec.ofChange s with cond := some uptoSmall }

/-- 'glazierlaw44.StyleTrust', WHERE WHAT IT READS IS OF BULK AT MOST 1048576: true; the input reads as it did. -/
def styleTrustUptoRow : OpenClaim := { program := "ytljmmhihdcnbaaadoor", sum := "f7ae7749c25978864224e8e54dd7dcea752aeac7e92c3952a243378b073a172b", func := "glazier/glazierlaw44.StyleTrust", spec := "styleTrust", inPlace := ["internal/bytealg.IndexByteString", "internal/bytealg.IndexString"], unfollowed := true, recurses := true, named := ["internal/bytealg.MaxLen", "unicode/utf8.first", "unicode/utf8.acceptRanges"], apart := false, laid := [("unicode/utf8.acceptRanges", laid_unicode_utf8_acceptRanges), ("unicode/utf8.first", laid_unicode_utf8_first)], narrowed := true }
def StyleTrustUptoSaid : Prop := styleTrustUptoRow.holds Tryd.pinned (OpenSpec.upto styleTrustSpec)

/-- 'glazierlaw44.StyleTwice', WHERE WHAT IT READS IS OF BULK AT MOST 1048576: true; the input reads as it did. -/
def styleTwiceUptoRow : OpenClaim := { program := "ytljmmhihdcnbaaadoor", sum := "f7ae7749c25978864224e8e54dd7dcea752aeac7e92c3952a243378b073a172b", func := "glazier/glazierlaw44.StyleTwice", spec := "styleTwice", inPlace := ["internal/bytealg.IndexByteString", "internal/bytealg.IndexString"], unfollowed := true, recurses := true, named := ["internal/bytealg.MaxLen", "unicode/utf8.first", "unicode/utf8.acceptRanges"], apart := false, laid := [("unicode/utf8.acceptRanges", laid_unicode_utf8_acceptRanges), ("unicode/utf8.first", laid_unicode_utf8_first)], narrowed := true }
def StyleTwiceUptoSaid : Prop := styleTwiceUptoRow.holds Tryd.pinned (OpenSpec.upto styleTwiceSpec)

/-- 'glazierlaw47.BlanksQuote', WHERE WHAT IT READS IS OF BULK AT MOST 1048576: true; the input reads as it did. -/
def blanksQuoteUptoRow : OpenClaim := { program := "ytljmmhihdcnbaaadoor", sum := "f7ae7749c25978864224e8e54dd7dcea752aeac7e92c3952a243378b073a172b", func := "glazier/glazierlaw47.BlanksQuote", spec := "blanksQuote", inPlace := ["internal/bytealg.IndexByteString", "internal/bytealg.CountString", "internal/bytealg.IndexString", "internal/abi.NoEscape", "internal/bytealg.MakeNoZero"], unfollowed := true, recurses := true, named := ["internal/bytealg.MaxLen", "unicode/utf8.first", "unicode/utf8.acceptRanges"], apart := false, laid := [("unicode/utf8.acceptRanges", laid_unicode_utf8_acceptRanges), ("unicode/utf8.first", laid_unicode_utf8_first)], narrowed := true }
def BlanksQuoteUptoSaid : Prop := blanksQuoteUptoRow.holds Tryd.pinned (OpenSpec.upto blanksQuoteSpec)

/-- 'glazierlaw44.StyleTells', WHERE WHAT IT READS IS OF BULK AT MOST 1048576: true; the input reads as it did. -/
def styleTellsUptoRow : OpenClaim := { program := "ytljmmhihdcnbaaadoor", sum := "f7ae7749c25978864224e8e54dd7dcea752aeac7e92c3952a243378b073a172b", func := "glazier/glazierlaw44.StyleTells", spec := "styleTells", inPlace := ["internal/bytealg.IndexByteString", "internal/bytealg.IndexString"], unfollowed := true, recurses := true, named := ["internal/bytealg.MaxLen", "unicode/utf8.first", "unicode/utf8.acceptRanges"], apart := false, laid := [("unicode/utf8.acceptRanges", laid_unicode_utf8_acceptRanges), ("unicode/utf8.first", laid_unicode_utf8_first)], narrowed := true }
def StyleTellsUptoSaid : Prop := styleTellsUptoRow.holds Tryd.pinned (OpenSpec.upto styleTellsSpec)

end Rows
end Go.Proofs.YtljmmhihdcnbaaaDoor
