/-
  No cell of these rows narrows 'for every input' (looked for: loops, veiled, ifaces, maps, wideKeys, modest, calm, conditions, laid).
  DERIVED. THE GIVEN ROWS OF THIS SEAT. 19 by the template 'for every input the law returns true; each argument reads behind the call as it read before'; 0 by the template 'total and deterministic' (their statements: YtljmmhihdcnbaaaTotals.lean).
  GIVEN WITH THE SEED: the statements are not yours to turn. If you find one false, say at which input.
  Laid BY PROGRAM, IN A SANDBOX (cutbox-rows.mjs): the forced cells as the released guide's own fill.sh prints them over the translation 48ed2b2b636901f8… (all of the seat's roots in one cut). By AI agents, Wed Nov 11 2026. No macro, syntax, notation, axiom, sorry.
-/
import Derived.Test.YtljmmhihdcnbaaaChecked
import GoSem.Claim
import GoSem.ClaimJoined
import GoSem.ClaimMapViews
import Derived.JoinedTies
import Derived.KernelRfl
namespace Go.Proofs.Ytljmmhihdcnbaaa
/- THE CELL 'sum', in the pinned program and in every row, IS THE sha256 OF THE DUMP (.gsa) THAT YtljmmhihdcnbaaaProg.lean LOADS. Nothing in Lean hashes anything: it is a label: what it is worth is what the hold of that sum in a sandbox is worth. -/
noncomputable def Try.pinned : Pinned := { name := "ytljmmhihdcnbaaa", sum := "48ed2b2b636901f8a6f4881e6a98af8354a4c4261425fc80d2432c206ca04667", checked := Try.checked }
namespace Rows
def none {H : Type} : Left H := { results := [], args := [] }

/-- 'glazierlaw03.FoldLines': WHATEVER THE INPUT: true; the input reads as it did. -/
def foldLinesSpec : ChangeSpec := { name := "foldLines", fn := fun _ => fun
  | [d] => { results := [.lit (.bool true)], args := [d] }
  | _ => none }
def foldLinesRow : OpenClaim := { program := "ytljmmhihdcnbaaa", sum := "48ed2b2b636901f8a6f4881e6a98af8354a4c4261425fc80d2432c206ca04667", func := "glazier/glazierlaw03.FoldLines", spec := "foldLines", apart := false }
def FoldLinesSaid : Prop := foldLinesRow.holds Try.pinned (OpenSpec.ofChange foldLinesSpec)

/-- ITS FALSE NEIGHBOUR: 'it returns false'. Refute it at one input. -/
def foldLinesWrong : ChangeSpec := { name := "foldLines", fn := fun _ => fun
  | [d] => { results := [.lit (.bool false)], args := [d] }
  | _ => none }
def FoldLinesWrongFalsely : Prop := foldLinesRow.holds Try.pinned (OpenSpec.ofChange foldLinesWrong)

/-- 'glazierlaw06.UrlTells': WHATEVER THE INPUT: true; the input reads as it did. -/
def urlTellsSpec : ChangeSpec := { name := "urlTells", fn := fun _ => fun
  | [d] => { results := [.lit (.bool true)], args := [d] }
  | _ => none }
def urlTellsRow : OpenClaim := { program := "ytljmmhihdcnbaaa", sum := "48ed2b2b636901f8a6f4881e6a98af8354a4c4261425fc80d2432c206ca04667", func := "glazier/glazierlaw06.UrlTells", spec := "urlTells", inPlace := ["internal/bytealg.IndexByteString"], unfollowed := true, recurses := true, apart := false }
def UrlTellsSaid : Prop := urlTellsRow.holds Try.pinned (OpenSpec.ofChange urlTellsSpec)

/-- ITS FALSE NEIGHBOUR: 'it returns false'. Refute it at one input. -/
def urlTellsWrong : ChangeSpec := { name := "urlTells", fn := fun _ => fun
  | [d] => { results := [.lit (.bool false)], args := [d] }
  | _ => none }
def UrlTellsWrongFalsely : Prop := urlTellsRow.holds Try.pinned (OpenSpec.ofChange urlTellsWrong)

/-- 'glazierlaw05.PercentTells': WHATEVER THE INPUT: true; the input reads as it did. -/
def percentTellsSpec : ChangeSpec := { name := "percentTells", fn := fun _ => fun
  | [d1, d2] => { results := [.lit (.bool true)], args := [d1, d2] }
  | _ => none }
def percentTellsRow : OpenClaim := { program := "ytljmmhihdcnbaaa", sum := "48ed2b2b636901f8a6f4881e6a98af8354a4c4261425fc80d2432c206ca04667", func := "glazier/glazierlaw05.PercentTells", spec := "percentTells", inPlace := ["internal/bytealg.IndexByteString"], apart := false }
def PercentTellsSaid : Prop := percentTellsRow.holds Try.pinned (OpenSpec.ofChange percentTellsSpec)

/-- ITS FALSE NEIGHBOUR: 'it returns false'. Refute it at one input. -/
def percentTellsWrong : ChangeSpec := { name := "percentTells", fn := fun _ => fun
  | [d1, d2] => { results := [.lit (.bool false)], args := [d1, d2] }
  | _ => none }
def PercentTellsWrongFalsely : Prop := percentTellsRow.holds Try.pinned (OpenSpec.ofChange percentTellsWrong)

/-- 'glazierlaw06.UrlTwice': WHATEVER THE INPUT: true; the input reads as it did. -/
def urlTwiceSpec : ChangeSpec := { name := "urlTwice", fn := fun _ => fun
  | [d] => { results := [.lit (.bool true)], args := [d] }
  | _ => none }
def urlTwiceRow : OpenClaim := { program := "ytljmmhihdcnbaaa", sum := "48ed2b2b636901f8a6f4881e6a98af8354a4c4261425fc80d2432c206ca04667", func := "glazier/glazierlaw06.UrlTwice", spec := "urlTwice", inPlace := ["internal/bytealg.IndexByteString"], unfollowed := true, recurses := true, apart := false }
def UrlTwiceSaid : Prop := urlTwiceRow.holds Try.pinned (OpenSpec.ofChange urlTwiceSpec)

/-- ITS FALSE NEIGHBOUR: 'it returns false'. Refute it at one input. -/
def urlTwiceWrong : ChangeSpec := { name := "urlTwice", fn := fun _ => fun
  | [d] => { results := [.lit (.bool false)], args := [d] }
  | _ => none }
def UrlTwiceWrongFalsely : Prop := urlTwiceRow.holds Try.pinned (OpenSpec.ofChange urlTwiceWrong)

/-- 'glazierlaw47.BlanksTrust': WHATEVER THE INPUT: true; the input reads as it did. -/
def blanksTrustSpec : ChangeSpec := { name := "blanksTrust", fn := fun _ => fun
  | [d1, d2] => { results := [.lit (.bool true)], args := [d1, d2] }
  | _ => none }
def blanksTrustRow : OpenClaim := { program := "ytljmmhihdcnbaaa", sum := "48ed2b2b636901f8a6f4881e6a98af8354a4c4261425fc80d2432c206ca04667", func := "glazier/glazierlaw47.BlanksTrust", spec := "blanksTrust", inPlace := ["internal/bytealg.IndexByteString"], unfollowed := true, recurses := true, apart := false }
def BlanksTrustSaid : Prop := blanksTrustRow.holds Try.pinned (OpenSpec.ofChange blanksTrustSpec)

/-- ITS FALSE NEIGHBOUR: 'it returns false'. Refute it at one input. -/
def blanksTrustWrong : ChangeSpec := { name := "blanksTrust", fn := fun _ => fun
  | [d1, d2] => { results := [.lit (.bool false)], args := [d1, d2] }
  | _ => none }
def BlanksTrustWrongFalsely : Prop := blanksTrustRow.holds Try.pinned (OpenSpec.ofChange blanksTrustWrong)

/-- 'glazierlaw05.PercentBack': WHATEVER THE INPUT: true; the input reads as it did. -/
def percentBackSpec : ChangeSpec := { name := "percentBack", fn := fun _ => fun
  | [d] => { results := [.lit (.bool true)], args := [d] }
  | _ => none }
def percentBackRow : OpenClaim := { program := "ytljmmhihdcnbaaa", sum := "48ed2b2b636901f8a6f4881e6a98af8354a4c4261425fc80d2432c206ca04667", func := "glazier/glazierlaw05.PercentBack", spec := "percentBack", inPlace := ["internal/bytealg.IndexByteString"], apart := false }
def PercentBackSaid : Prop := percentBackRow.holds Try.pinned (OpenSpec.ofChange percentBackSpec)

/-- ITS FALSE NEIGHBOUR: 'it returns false'. Refute it at one input. -/
def percentBackWrong : ChangeSpec := { name := "percentBack", fn := fun _ => fun
  | [d] => { results := [.lit (.bool false)], args := [d] }
  | _ => none }
def PercentBackWrongFalsely : Prop := percentBackRow.holds Try.pinned (OpenSpec.ofChange percentBackWrong)

/-- 'glazierlaw05.PercentParts': WHATEVER THE INPUT: true; the input reads as it did. -/
def percentPartsSpec : ChangeSpec := { name := "percentParts", fn := fun _ => fun
  | [d1, d2] => { results := [.lit (.bool true)], args := [d1, d2] }
  | _ => none }
def percentPartsRow : OpenClaim := { program := "ytljmmhihdcnbaaa", sum := "48ed2b2b636901f8a6f4881e6a98af8354a4c4261425fc80d2432c206ca04667", func := "glazier/glazierlaw05.PercentParts", spec := "percentParts", inPlace := ["internal/bytealg.IndexByteString"], apart := false }
def PercentPartsSaid : Prop := percentPartsRow.holds Try.pinned (OpenSpec.ofChange percentPartsSpec)

/-- ITS FALSE NEIGHBOUR: 'it returns false'. Refute it at one input. -/
def percentPartsWrong : ChangeSpec := { name := "percentParts", fn := fun _ => fun
  | [d1, d2] => { results := [.lit (.bool false)], args := [d1, d2] }
  | _ => none }
def PercentPartsWrongFalsely : Prop := percentPartsRow.holds Try.pinned (OpenSpec.ofChange percentPartsWrong)

/-- 'glazierlaw47.BlanksTells': WHATEVER THE INPUT: true; the input reads as it did. -/
def blanksTellsSpec : ChangeSpec := { name := "blanksTells", fn := fun _ => fun
  | [d1, d2] => { results := [.lit (.bool true)], args := [d1, d2] }
  | _ => none }
def blanksTellsRow : OpenClaim := { program := "ytljmmhihdcnbaaa", sum := "48ed2b2b636901f8a6f4881e6a98af8354a4c4261425fc80d2432c206ca04667", func := "glazier/glazierlaw47.BlanksTells", spec := "blanksTells", inPlace := ["internal/bytealg.IndexByteString"], unfollowed := true, recurses := true, apart := false }
def BlanksTellsSaid : Prop := blanksTellsRow.holds Try.pinned (OpenSpec.ofChange blanksTellsSpec)

/-- ITS FALSE NEIGHBOUR: 'it returns false'. Refute it at one input. -/
def blanksTellsWrong : ChangeSpec := { name := "blanksTells", fn := fun _ => fun
  | [d1, d2] => { results := [.lit (.bool false)], args := [d1, d2] }
  | _ => none }
def BlanksTellsWrongFalsely : Prop := blanksTellsRow.holds Try.pinned (OpenSpec.ofChange blanksTellsWrong)

/-- 'glazierlaw03.FoldTells': WHATEVER THE INPUT: true; the input reads as it did. -/
def foldTellsSpec : ChangeSpec := { name := "foldTells", fn := fun _ => fun
  | [d1, d2, d3, d4] => { results := [.lit (.bool true)], args := [d1, d2, d3, d4] }
  | _ => none }
def foldTellsRow : OpenClaim := { program := "ytljmmhihdcnbaaa", sum := "48ed2b2b636901f8a6f4881e6a98af8354a4c4261425fc80d2432c206ca04667", func := "glazier/glazierlaw03.FoldTells", spec := "foldTells", inPlace := ["internal/bytealg.IndexByteString"], unfollowed := true, recurses := true, apart := false }
def FoldTellsSaid : Prop := foldTellsRow.holds Try.pinned (OpenSpec.ofChange foldTellsSpec)

/-- ITS FALSE NEIGHBOUR: 'it returns false'. Refute it at one input. -/
def foldTellsWrong : ChangeSpec := { name := "foldTells", fn := fun _ => fun
  | [d1, d2, d3, d4] => { results := [.lit (.bool false)], args := [d1, d2, d3, d4] }
  | _ => none }
def FoldTellsWrongFalsely : Prop := foldTellsRow.holds Try.pinned (OpenSpec.ofChange foldTellsWrong)

/-- 'glazierlaw03.FoldTwice': WHATEVER THE INPUT: true; the input reads as it did. -/
def foldTwiceSpec : ChangeSpec := { name := "foldTwice", fn := fun _ => fun
  | [d1, d2] => { results := [.lit (.bool true)], args := [d1, d2] }
  | _ => none }
def foldTwiceRow : OpenClaim := { program := "ytljmmhihdcnbaaa", sum := "48ed2b2b636901f8a6f4881e6a98af8354a4c4261425fc80d2432c206ca04667", func := "glazier/glazierlaw03.FoldTwice", spec := "foldTwice", inPlace := ["internal/bytealg.IndexByteString"], unfollowed := true, recurses := true, apart := false }
def FoldTwiceSaid : Prop := foldTwiceRow.holds Try.pinned (OpenSpec.ofChange foldTwiceSpec)

/-- ITS FALSE NEIGHBOUR: 'it returns false'. Refute it at one input. -/
def foldTwiceWrong : ChangeSpec := { name := "foldTwice", fn := fun _ => fun
  | [d1, d2] => { results := [.lit (.bool false)], args := [d1, d2] }
  | _ => none }
def FoldTwiceWrongFalsely : Prop := foldTwiceRow.holds Try.pinned (OpenSpec.ofChange foldTwiceWrong)

/-- 'glazierlaw41.ClassesTurn': WHATEVER THE INPUT: true; the input reads as it did. -/
def classesTurnSpec : ChangeSpec := { name := "classesTurn", fn := fun _ => fun
  | [d1, d2] => { results := [.lit (.bool true)], args := [d1, d2] }
  | _ => none }
def classesTurnRow : OpenClaim := { program := "ytljmmhihdcnbaaa", sum := "48ed2b2b636901f8a6f4881e6a98af8354a4c4261425fc80d2432c206ca04667", func := "glazier/glazierlaw41.ClassesTurn", spec := "classesTurn", inPlace := ["internal/bytealg.IndexByteString"], unfollowed := true, recurses := true, apart := false }
def ClassesTurnSaid : Prop := classesTurnRow.holds Try.pinned (OpenSpec.ofChange classesTurnSpec)

/-- ITS FALSE NEIGHBOUR: 'it returns false'. Refute it at one input. -/
def classesTurnWrong : ChangeSpec := { name := "classesTurn", fn := fun _ => fun
  | [d1, d2] => { results := [.lit (.bool false)], args := [d1, d2] }
  | _ => none }
def ClassesTurnWrongFalsely : Prop := classesTurnRow.holds Try.pinned (OpenSpec.ofChange classesTurnWrong)

/-- 'glazierlaw07.SchemeDyed': WHATEVER THE INPUT: true; the input reads as it did. -/
def schemeDyedSpec : ChangeSpec := { name := "schemeDyed", fn := fun _ => fun
  | [d1, d2] => { results := [.lit (.bool true)], args := [d1, d2] }
  | _ => none }
def schemeDyedRow : OpenClaim := { program := "ytljmmhihdcnbaaa", sum := "48ed2b2b636901f8a6f4881e6a98af8354a4c4261425fc80d2432c206ca04667", func := "glazier/glazierlaw07.SchemeDyed", spec := "schemeDyed", inPlace := ["internal/bytealg.IndexByteString"], unfollowed := true, recurses := true, apart := false }
def SchemeDyedSaid : Prop := schemeDyedRow.holds Try.pinned (OpenSpec.ofChange schemeDyedSpec)

/-- ITS FALSE NEIGHBOUR: 'it returns false'. Refute it at one input. -/
def schemeDyedWrong : ChangeSpec := { name := "schemeDyed", fn := fun _ => fun
  | [d1, d2] => { results := [.lit (.bool false)], args := [d1, d2] }
  | _ => none }
def SchemeDyedWrongFalsely : Prop := schemeDyedRow.holds Try.pinned (OpenSpec.ofChange schemeDyedWrong)

/-- 'glazierlaw07.SchemeBack': WHATEVER THE INPUT: true; the input reads as it did. -/
def schemeBackSpec : ChangeSpec := { name := "schemeBack", fn := fun _ => fun
  | [d] => { results := [.lit (.bool true)], args := [d] }
  | _ => none }
def schemeBackRow : OpenClaim := { program := "ytljmmhihdcnbaaa", sum := "48ed2b2b636901f8a6f4881e6a98af8354a4c4261425fc80d2432c206ca04667", func := "glazier/glazierlaw07.SchemeBack", spec := "schemeBack", inPlace := ["internal/bytealg.IndexByteString"], unfollowed := true, recurses := true, apart := false }
def SchemeBackSaid : Prop := schemeBackRow.holds Try.pinned (OpenSpec.ofChange schemeBackSpec)

/-- ITS FALSE NEIGHBOUR: 'it returns false'. Refute it at one input. -/
def schemeBackWrong : ChangeSpec := { name := "schemeBack", fn := fun _ => fun
  | [d] => { results := [.lit (.bool false)], args := [d] }
  | _ => none }
def SchemeBackWrongFalsely : Prop := schemeBackRow.holds Try.pinned (OpenSpec.ofChange schemeBackWrong)

/-- 'glazierlaw07.SchemeTells': WHATEVER THE INPUT: true; the input reads as it did. -/
def schemeTellsSpec : ChangeSpec := { name := "schemeTells", fn := fun _ => fun
  | [d] => { results := [.lit (.bool true)], args := [d] }
  | _ => none }
def schemeTellsRow : OpenClaim := { program := "ytljmmhihdcnbaaa", sum := "48ed2b2b636901f8a6f4881e6a98af8354a4c4261425fc80d2432c206ca04667", func := "glazier/glazierlaw07.SchemeTells", spec := "schemeTells", inPlace := ["internal/bytealg.IndexByteString"], unfollowed := true, recurses := true, apart := false }
def SchemeTellsSaid : Prop := schemeTellsRow.holds Try.pinned (OpenSpec.ofChange schemeTellsSpec)

/-- ITS FALSE NEIGHBOUR: 'it returns false'. Refute it at one input. -/
def schemeTellsWrong : ChangeSpec := { name := "schemeTells", fn := fun _ => fun
  | [d] => { results := [.lit (.bool false)], args := [d] }
  | _ => none }
def SchemeTellsWrongFalsely : Prop := schemeTellsRow.holds Try.pinned (OpenSpec.ofChange schemeTellsWrong)

/-- 'glazierlaw04.SeekSplits': WHATEVER THE INPUT: true; the input reads as it did. -/
def seekSplitsSpec : ChangeSpec := { name := "seekSplits", fn := fun _ => fun
  | [d1, d2] => { results := [.lit (.bool true)], args := [d1, d2] }
  | _ => none }
def seekSplitsRow : OpenClaim := { program := "ytljmmhihdcnbaaa", sum := "48ed2b2b636901f8a6f4881e6a98af8354a4c4261425fc80d2432c206ca04667", func := "glazier/glazierlaw04.SeekSplits", spec := "seekSplits", inPlace := ["internal/bytealg.IndexByteString", "internal/bytealg.IndexString"], named := ["internal/bytealg.MaxLen"], apart := false }
def SeekSplitsSaid : Prop := seekSplitsRow.holds Try.pinned (OpenSpec.ofChange seekSplitsSpec)

/-- ITS FALSE NEIGHBOUR: 'it returns false'. Refute it at one input. -/
def seekSplitsWrong : ChangeSpec := { name := "seekSplits", fn := fun _ => fun
  | [d1, d2] => { results := [.lit (.bool false)], args := [d1, d2] }
  | _ => none }
def SeekSplitsWrongFalsely : Prop := seekSplitsRow.holds Try.pinned (OpenSpec.ofChange seekSplitsWrong)

/-- 'glazierlaw04.SeekJoins': WHATEVER THE INPUT: true; the input reads as it did. -/
def seekJoinsSpec : ChangeSpec := { name := "seekJoins", fn := fun _ => fun
  | [d1, d2] => { results := [.lit (.bool true)], args := [d1, d2] }
  | _ => none }
def seekJoinsRow : OpenClaim := { program := "ytljmmhihdcnbaaa", sum := "48ed2b2b636901f8a6f4881e6a98af8354a4c4261425fc80d2432c206ca04667", func := "glazier/glazierlaw04.SeekJoins", spec := "seekJoins", inPlace := ["internal/bytealg.IndexByteString", "internal/bytealg.IndexString"], named := ["internal/bytealg.MaxLen"], apart := false }
def SeekJoinsSaid : Prop := seekJoinsRow.holds Try.pinned (OpenSpec.ofChange seekJoinsSpec)

/-- ITS FALSE NEIGHBOUR: 'it returns false'. Refute it at one input. -/
def seekJoinsWrong : ChangeSpec := { name := "seekJoins", fn := fun _ => fun
  | [d1, d2] => { results := [.lit (.bool false)], args := [d1, d2] }
  | _ => none }
def SeekJoinsWrongFalsely : Prop := seekJoinsRow.holds Try.pinned (OpenSpec.ofChange seekJoinsWrong)

/-- 'glazierlaw04.SeekTells': WHATEVER THE INPUT: true; the input reads as it did. -/
def seekTellsSpec : ChangeSpec := { name := "seekTells", fn := fun _ => fun
  | [d1, d2, d3, d4] => { results := [.lit (.bool true)], args := [d1, d2, d3, d4] }
  | _ => none }
def seekTellsRow : OpenClaim := { program := "ytljmmhihdcnbaaa", sum := "48ed2b2b636901f8a6f4881e6a98af8354a4c4261425fc80d2432c206ca04667", func := "glazier/glazierlaw04.SeekTells", spec := "seekTells", inPlace := ["internal/bytealg.IndexByteString", "internal/bytealg.IndexString"], named := ["internal/bytealg.MaxLen"], apart := false }
def SeekTellsSaid : Prop := seekTellsRow.holds Try.pinned (OpenSpec.ofChange seekTellsSpec)

/-- ITS FALSE NEIGHBOUR: 'it returns false'. Refute it at one input. -/
def seekTellsWrong : ChangeSpec := { name := "seekTells", fn := fun _ => fun
  | [d1, d2, d3, d4] => { results := [.lit (.bool false)], args := [d1, d2, d3, d4] }
  | _ => none }
def SeekTellsWrongFalsely : Prop := seekTellsRow.holds Try.pinned (OpenSpec.ofChange seekTellsWrong)

/-- 'glazierlaw40.ResolveOrigins': WHATEVER THE INPUT: true; the input reads as it did. -/
def resolveOriginsSpec : ChangeSpec := { name := "resolveOrigins", fn := fun _ => fun
  | [d1, d2] => { results := [.lit (.bool true)], args := [d1, d2] }
  | _ => none }
def resolveOriginsRow : OpenClaim := { program := "ytljmmhihdcnbaaa", sum := "48ed2b2b636901f8a6f4881e6a98af8354a4c4261425fc80d2432c206ca04667", func := "glazier/glazierlaw40.ResolveOrigins", spec := "resolveOrigins", inPlace := ["internal/bytealg.IndexByteString"], unfollowed := true, recurses := true, apart := false }
def ResolveOriginsSaid : Prop := resolveOriginsRow.holds Try.pinned (OpenSpec.ofChange resolveOriginsSpec)

/-- ITS FALSE NEIGHBOUR: 'it returns false'. Refute it at one input. -/
def resolveOriginsWrong : ChangeSpec := { name := "resolveOrigins", fn := fun _ => fun
  | [d1, d2] => { results := [.lit (.bool false)], args := [d1, d2] }
  | _ => none }
def ResolveOriginsWrongFalsely : Prop := resolveOriginsRow.holds Try.pinned (OpenSpec.ofChange resolveOriginsWrong)

/-- 'glazierlaw06.UrlParts': WHATEVER THE INPUT: true; the input reads as it did. -/
def urlPartsSpec : ChangeSpec := { name := "urlParts", fn := fun _ => fun
  | [d] => { results := [.lit (.bool true)], args := [d] }
  | _ => none }
def urlPartsRow : OpenClaim := { program := "ytljmmhihdcnbaaa", sum := "48ed2b2b636901f8a6f4881e6a98af8354a4c4261425fc80d2432c206ca04667", func := "glazier/glazierlaw06.UrlParts", spec := "urlParts", inPlace := ["internal/bytealg.IndexByteString", "internal/bytealg.IndexString"], unfollowed := true, recurses := true, named := ["internal/bytealg.MaxLen"], apart := false }
def UrlPartsSaid : Prop := urlPartsRow.holds Try.pinned (OpenSpec.ofChange urlPartsSpec)

/-- ITS FALSE NEIGHBOUR: 'it returns false'. Refute it at one input. -/
def urlPartsWrong : ChangeSpec := { name := "urlParts", fn := fun _ => fun
  | [d] => { results := [.lit (.bool false)], args := [d] }
  | _ => none }
def UrlPartsWrongFalsely : Prop := urlPartsRow.holds Try.pinned (OpenSpec.ofChange urlPartsWrong)

/- THE SECOND FORM. 'bulk': how many values and letters a reading holds, each counted each time it is reached (what is shared counts as often as it is met; a slice's spare places count too). A statement '..UptoSaid' is the law's where the arguments, and the package variables that the reading takes, are together of bulk at most 1048576: NARROWER than '..Said'. Prove '..Said' where nothing that the law and all that it calls make is longer than what came in: it says more and counts as full. Else prove '..UptoSaid'. A law counts once. -/
mutual
def uptoBulk {H : Type} : DataW H → Nat
  | .lit (.string bytes) => bytes.length + 1
  | .lit _ => 1
  | .nil => 1
  | .ptr d => uptoBulk d + 1
  | .slice elems spare => uptoBulkAll elems + uptoBulkAll spare + 1
  | .agg parts => uptoBulkAll parts + 1
  | .iface _ d => uptoBulk d + 1
  | .map entries => uptoBulkEntries entries + 1
  | .held _ => 1
def uptoBulkAll {H : Type} : List (DataW H) → Nat
  | [] => 0
  | d :: r => uptoBulk d + uptoBulkAll r
def uptoBulkEntries {H : Type} : List (Lit × DataW H) → Nat
  | [] => 0
  | x :: r => uptoBulkEntry x + uptoBulkEntries r
def uptoBulkEntry {H : Type} : Lit × DataW H → Nat
  | (.string bytes, d) => bytes.length + uptoBulk d + 1
  | (_, d) => uptoBulk d + 1
 end
def uptoSmall : (H : Type) → List (DataW H) → Bool := fun _ ds => decide (uptoBulkAll ds ≤ 1048576)
def OpenSpec.upto (s : _root_.Go.ChangeSpec) : _root_.Go.OpenSpec := { _root_.Go.OpenSpec.ofChange s with cond := some uptoSmall }

/-- 'glazierlaw03.FoldLines', WHERE WHAT IT READS IS OF BULK AT MOST 1048576: true; the input reads as it did. -/
def foldLinesUptoRow : OpenClaim := { program := "ytljmmhihdcnbaaa", sum := "48ed2b2b636901f8a6f4881e6a98af8354a4c4261425fc80d2432c206ca04667", func := "glazier/glazierlaw03.FoldLines", spec := "foldLines", apart := false, narrowed := true }
def FoldLinesUptoSaid : Prop := foldLinesUptoRow.holds Try.pinned (OpenSpec.upto foldLinesSpec)

/-- 'glazierlaw06.UrlTells', WHERE WHAT IT READS IS OF BULK AT MOST 1048576: true; the input reads as it did. -/
def urlTellsUptoRow : OpenClaim := { program := "ytljmmhihdcnbaaa", sum := "48ed2b2b636901f8a6f4881e6a98af8354a4c4261425fc80d2432c206ca04667", func := "glazier/glazierlaw06.UrlTells", spec := "urlTells", inPlace := ["internal/bytealg.IndexByteString"], unfollowed := true, recurses := true, apart := false, narrowed := true }
def UrlTellsUptoSaid : Prop := urlTellsUptoRow.holds Try.pinned (OpenSpec.upto urlTellsSpec)

/-- 'glazierlaw05.PercentTells', WHERE WHAT IT READS IS OF BULK AT MOST 1048576: true; the input reads as it did. -/
def percentTellsUptoRow : OpenClaim := { program := "ytljmmhihdcnbaaa", sum := "48ed2b2b636901f8a6f4881e6a98af8354a4c4261425fc80d2432c206ca04667", func := "glazier/glazierlaw05.PercentTells", spec := "percentTells", inPlace := ["internal/bytealg.IndexByteString"], apart := false, narrowed := true }
def PercentTellsUptoSaid : Prop := percentTellsUptoRow.holds Try.pinned (OpenSpec.upto percentTellsSpec)

/-- 'glazierlaw06.UrlTwice', WHERE WHAT IT READS IS OF BULK AT MOST 1048576: true; the input reads as it did. -/
def urlTwiceUptoRow : OpenClaim := { program := "ytljmmhihdcnbaaa", sum := "48ed2b2b636901f8a6f4881e6a98af8354a4c4261425fc80d2432c206ca04667", func := "glazier/glazierlaw06.UrlTwice", spec := "urlTwice", inPlace := ["internal/bytealg.IndexByteString"], unfollowed := true, recurses := true, apart := false, narrowed := true }
def UrlTwiceUptoSaid : Prop := urlTwiceUptoRow.holds Try.pinned (OpenSpec.upto urlTwiceSpec)

/-- 'glazierlaw47.BlanksTrust', WHERE WHAT IT READS IS OF BULK AT MOST 1048576: true; the input reads as it did. -/
def blanksTrustUptoRow : OpenClaim := { program := "ytljmmhihdcnbaaa", sum := "48ed2b2b636901f8a6f4881e6a98af8354a4c4261425fc80d2432c206ca04667", func := "glazier/glazierlaw47.BlanksTrust", spec := "blanksTrust", inPlace := ["internal/bytealg.IndexByteString"], unfollowed := true, recurses := true, apart := false, narrowed := true }
def BlanksTrustUptoSaid : Prop := blanksTrustUptoRow.holds Try.pinned (OpenSpec.upto blanksTrustSpec)

/-- 'glazierlaw05.PercentBack', WHERE WHAT IT READS IS OF BULK AT MOST 1048576: true; the input reads as it did. -/
def percentBackUptoRow : OpenClaim := { program := "ytljmmhihdcnbaaa", sum := "48ed2b2b636901f8a6f4881e6a98af8354a4c4261425fc80d2432c206ca04667", func := "glazier/glazierlaw05.PercentBack", spec := "percentBack", inPlace := ["internal/bytealg.IndexByteString"], apart := false, narrowed := true }
def PercentBackUptoSaid : Prop := percentBackUptoRow.holds Try.pinned (OpenSpec.upto percentBackSpec)

/-- 'glazierlaw05.PercentParts', WHERE WHAT IT READS IS OF BULK AT MOST 1048576: true; the input reads as it did. -/
def percentPartsUptoRow : OpenClaim := { program := "ytljmmhihdcnbaaa", sum := "48ed2b2b636901f8a6f4881e6a98af8354a4c4261425fc80d2432c206ca04667", func := "glazier/glazierlaw05.PercentParts", spec := "percentParts", inPlace := ["internal/bytealg.IndexByteString"], apart := false, narrowed := true }
def PercentPartsUptoSaid : Prop := percentPartsUptoRow.holds Try.pinned (OpenSpec.upto percentPartsSpec)

/-- 'glazierlaw47.BlanksTells', WHERE WHAT IT READS IS OF BULK AT MOST 1048576: true; the input reads as it did. -/
def blanksTellsUptoRow : OpenClaim := { program := "ytljmmhihdcnbaaa", sum := "48ed2b2b636901f8a6f4881e6a98af8354a4c4261425fc80d2432c206ca04667", func := "glazier/glazierlaw47.BlanksTells", spec := "blanksTells", inPlace := ["internal/bytealg.IndexByteString"], unfollowed := true, recurses := true, apart := false, narrowed := true }
def BlanksTellsUptoSaid : Prop := blanksTellsUptoRow.holds Try.pinned (OpenSpec.upto blanksTellsSpec)

/-- 'glazierlaw03.FoldTells', WHERE WHAT IT READS IS OF BULK AT MOST 1048576: true; the input reads as it did. -/
def foldTellsUptoRow : OpenClaim := { program := "ytljmmhihdcnbaaa", sum := "48ed2b2b636901f8a6f4881e6a98af8354a4c4261425fc80d2432c206ca04667", func := "glazier/glazierlaw03.FoldTells", spec := "foldTells", inPlace := ["internal/bytealg.IndexByteString"], unfollowed := true, recurses := true, apart := false, narrowed := true }
def FoldTellsUptoSaid : Prop := foldTellsUptoRow.holds Try.pinned (OpenSpec.upto foldTellsSpec)

/-- 'glazierlaw03.FoldTwice', WHERE WHAT IT READS IS OF BULK AT MOST 1048576: true; the input reads as it did. -/
def foldTwiceUptoRow : OpenClaim := { program := "ytljmmhihdcnbaaa", sum := "48ed2b2b636901f8a6f4881e6a98af8354a4c4261425fc80d2432c206ca04667", func := "glazier/glazierlaw03.FoldTwice", spec := "foldTwice", inPlace := ["internal/bytealg.IndexByteString"], unfollowed := true, recurses := true, apart := false, narrowed := true }
def FoldTwiceUptoSaid : Prop := foldTwiceUptoRow.holds Try.pinned (OpenSpec.upto foldTwiceSpec)

/-- 'glazierlaw41.ClassesTurn', WHERE WHAT IT READS IS OF BULK AT MOST 1048576: true; the input reads as it did. -/
def classesTurnUptoRow : OpenClaim := { program := "ytljmmhihdcnbaaa", sum := "48ed2b2b636901f8a6f4881e6a98af8354a4c4261425fc80d2432c206ca04667", func := "glazier/glazierlaw41.ClassesTurn", spec := "classesTurn", inPlace := ["internal/bytealg.IndexByteString"], unfollowed := true, recurses := true, apart := false, narrowed := true }
def ClassesTurnUptoSaid : Prop := classesTurnUptoRow.holds Try.pinned (OpenSpec.upto classesTurnSpec)

/-- 'glazierlaw07.SchemeDyed', WHERE WHAT IT READS IS OF BULK AT MOST 1048576: true; the input reads as it did. -/
def schemeDyedUptoRow : OpenClaim := { program := "ytljmmhihdcnbaaa", sum := "48ed2b2b636901f8a6f4881e6a98af8354a4c4261425fc80d2432c206ca04667", func := "glazier/glazierlaw07.SchemeDyed", spec := "schemeDyed", inPlace := ["internal/bytealg.IndexByteString"], unfollowed := true, recurses := true, apart := false, narrowed := true }
def SchemeDyedUptoSaid : Prop := schemeDyedUptoRow.holds Try.pinned (OpenSpec.upto schemeDyedSpec)

/-- 'glazierlaw07.SchemeBack', WHERE WHAT IT READS IS OF BULK AT MOST 1048576: true; the input reads as it did. -/
def schemeBackUptoRow : OpenClaim := { program := "ytljmmhihdcnbaaa", sum := "48ed2b2b636901f8a6f4881e6a98af8354a4c4261425fc80d2432c206ca04667", func := "glazier/glazierlaw07.SchemeBack", spec := "schemeBack", inPlace := ["internal/bytealg.IndexByteString"], unfollowed := true, recurses := true, apart := false, narrowed := true }
def SchemeBackUptoSaid : Prop := schemeBackUptoRow.holds Try.pinned (OpenSpec.upto schemeBackSpec)

/-- 'glazierlaw07.SchemeTells', WHERE WHAT IT READS IS OF BULK AT MOST 1048576: true; the input reads as it did. -/
def schemeTellsUptoRow : OpenClaim := { program := "ytljmmhihdcnbaaa", sum := "48ed2b2b636901f8a6f4881e6a98af8354a4c4261425fc80d2432c206ca04667", func := "glazier/glazierlaw07.SchemeTells", spec := "schemeTells", inPlace := ["internal/bytealg.IndexByteString"], unfollowed := true, recurses := true, apart := false, narrowed := true }
def SchemeTellsUptoSaid : Prop := schemeTellsUptoRow.holds Try.pinned (OpenSpec.upto schemeTellsSpec)

/-- 'glazierlaw04.SeekSplits', WHERE WHAT IT READS IS OF BULK AT MOST 1048576: true; the input reads as it did. -/
def seekSplitsUptoRow : OpenClaim := { program := "ytljmmhihdcnbaaa", sum := "48ed2b2b636901f8a6f4881e6a98af8354a4c4261425fc80d2432c206ca04667", func := "glazier/glazierlaw04.SeekSplits", spec := "seekSplits", inPlace := ["internal/bytealg.IndexByteString", "internal/bytealg.IndexString"], named := ["internal/bytealg.MaxLen"], apart := false, narrowed := true }
def SeekSplitsUptoSaid : Prop := seekSplitsUptoRow.holds Try.pinned (OpenSpec.upto seekSplitsSpec)

/-- 'glazierlaw04.SeekJoins', WHERE WHAT IT READS IS OF BULK AT MOST 1048576: true; the input reads as it did. -/
def seekJoinsUptoRow : OpenClaim := { program := "ytljmmhihdcnbaaa", sum := "48ed2b2b636901f8a6f4881e6a98af8354a4c4261425fc80d2432c206ca04667", func := "glazier/glazierlaw04.SeekJoins", spec := "seekJoins", inPlace := ["internal/bytealg.IndexByteString", "internal/bytealg.IndexString"], named := ["internal/bytealg.MaxLen"], apart := false, narrowed := true }
def SeekJoinsUptoSaid : Prop := seekJoinsUptoRow.holds Try.pinned (OpenSpec.upto seekJoinsSpec)

/-- 'glazierlaw04.SeekTells', WHERE WHAT IT READS IS OF BULK AT MOST 1048576: true; the input reads as it did. -/
def seekTellsUptoRow : OpenClaim := { program := "ytljmmhihdcnbaaa", sum := "48ed2b2b636901f8a6f4881e6a98af8354a4c4261425fc80d2432c206ca04667", func := "glazier/glazierlaw04.SeekTells", spec := "seekTells", inPlace := ["internal/bytealg.IndexByteString", "internal/bytealg.IndexString"], named := ["internal/bytealg.MaxLen"], apart := false, narrowed := true }
def SeekTellsUptoSaid : Prop := seekTellsUptoRow.holds Try.pinned (OpenSpec.upto seekTellsSpec)

/-- 'glazierlaw40.ResolveOrigins', WHERE WHAT IT READS IS OF BULK AT MOST 1048576: true; the input reads as it did. -/
def resolveOriginsUptoRow : OpenClaim := { program := "ytljmmhihdcnbaaa", sum := "48ed2b2b636901f8a6f4881e6a98af8354a4c4261425fc80d2432c206ca04667", func := "glazier/glazierlaw40.ResolveOrigins", spec := "resolveOrigins", inPlace := ["internal/bytealg.IndexByteString"], unfollowed := true, recurses := true, apart := false, narrowed := true }
def ResolveOriginsUptoSaid : Prop := resolveOriginsUptoRow.holds Try.pinned (OpenSpec.upto resolveOriginsSpec)

/-- 'glazierlaw06.UrlParts', WHERE WHAT IT READS IS OF BULK AT MOST 1048576: true; the input reads as it did. -/
def urlPartsUptoRow : OpenClaim := { program := "ytljmmhihdcnbaaa", sum := "48ed2b2b636901f8a6f4881e6a98af8354a4c4261425fc80d2432c206ca04667", func := "glazier/glazierlaw06.UrlParts", spec := "urlParts", inPlace := ["internal/bytealg.IndexByteString", "internal/bytealg.IndexString"], unfollowed := true, recurses := true, named := ["internal/bytealg.MaxLen"], apart := false, narrowed := true }
def UrlPartsUptoSaid : Prop := urlPartsUptoRow.holds Try.pinned (OpenSpec.upto urlPartsSpec)

end Rows
end Go.Proofs.Ytljmmhihdcnbaaa
