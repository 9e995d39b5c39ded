/-
  DERIVED. GIVEN WITH THE SEED: THE CARDS: each row of YtljmmhihdcnbaaaDoorRows.lean that lists a variable, with what it lists TIED to the program's text (the seventh form; the later family's looks); each row that meets fmt, with fmt's text TOLD by the authors' own Lean function (tested against real Go, not proved from fmt's source: count such statements apart). THE CARD IS WHAT COUNTS. Prove the row's statement (the work); the ties are given (YtljmmhihdcnbaaaDoorTie.lean); close each card by the builder's one call (the guide's Derived/Test/ToyasCard.lean, 'card_holds'). Laid BY PROGRAM, IN A SANDBOX (cutbox-door.mjs). By AI agents, Wed Nov 11 2026. No macro, syntax, notation, axiom, sorry.
-/
import Derived.Test.YtljmmhihdcnbaaaDoorRows
import GoSem.ClaimSeven
namespace Go.Proofs.YtljmmhihdcnbaaaDoor
namespace Rows

/-- THE TIED CARD OF 'glazierlaw44.StyleTrust'. -/
def styleTrustCard : Claim7 := { stood := { row := styleTrustRow, standIns := [], harness := (true, "50dea5cbe478acdc22e2c3e2bc82a8a0a985b88fe97c814b6e46f9796652b6b7"), looks := false }, kinds := [], alts := [], laidByText := true, laidKinds := [.data, .pinned], laidTests := true, laidLooks := .later }
def StyleTrustCardSaid : Prop := Claim7.holds Tryd.pinned (.plain (OpenSpec.ofChange styleTrustSpec)) styleTrustCard

/-- THE TIED CARD OF 'glazierlaw44.StyleTwice'. -/
def styleTwiceCard : Claim7 := { stood := { row := styleTwiceRow, standIns := [], harness := (true, "50dea5cbe478acdc22e2c3e2bc82a8a0a985b88fe97c814b6e46f9796652b6b7"), looks := false }, kinds := [], alts := [], laidByText := true, laidKinds := [.data, .pinned], laidTests := true, laidLooks := .later }
def StyleTwiceCardSaid : Prop := Claim7.holds Tryd.pinned (.plain (OpenSpec.ofChange styleTwiceSpec)) styleTwiceCard

/-- THE TIED CARD OF 'glazierlaw47.BlanksQuote'. -/
def blanksQuoteCard : Claim7 := { stood := { row := blanksQuoteRow, standIns := [], harness := (true, "50dea5cbe478acdc22e2c3e2bc82a8a0a985b88fe97c814b6e46f9796652b6b7"), looks := false }, kinds := [], alts := [], laidByText := true, laidKinds := [.data, .pinned], laidTests := true, laidLooks := .later }
def BlanksQuoteCardSaid : Prop := Claim7.holds Tryd.pinned (.plain (OpenSpec.ofChange blanksQuoteSpec)) blanksQuoteCard

/-- THE TIED CARD OF 'glazierlaw44.StyleTells'. -/
def styleTellsCard : Claim7 := { stood := { row := styleTellsRow, standIns := [], harness := (true, "50dea5cbe478acdc22e2c3e2bc82a8a0a985b88fe97c814b6e46f9796652b6b7"), looks := false }, kinds := [], alts := [], laidByText := true, laidKinds := [.data, .pinned], laidTests := true, laidLooks := .later }
def StyleTellsCardSaid : Prop := Claim7.holds Tryd.pinned (.plain (OpenSpec.ofChange styleTellsSpec)) styleTellsCard

/-- THE SECOND FORM's CARD OF 'glazierlaw44.StyleTrust'. -/
def styleTrustUptoCard : Claim7 := { stood := { row := styleTrustUptoRow, standIns := [], harness := (true, "50dea5cbe478acdc22e2c3e2bc82a8a0a985b88fe97c814b6e46f9796652b6b7"), looks := false }, kinds := [], alts := [], laidByText := true, laidKinds := [.data, .pinned], laidTests := true, laidLooks := .later }
def StyleTrustUptoCardSaid : Prop := Claim7.holds Tryd.pinned (.plain (OpenSpec.upto styleTrustSpec)) styleTrustUptoCard

/-- THE SECOND FORM's CARD OF 'glazierlaw44.StyleTwice'. -/
def styleTwiceUptoCard : Claim7 := { stood := { row := styleTwiceUptoRow, standIns := [], harness := (true, "50dea5cbe478acdc22e2c3e2bc82a8a0a985b88fe97c814b6e46f9796652b6b7"), looks := false }, kinds := [], alts := [], laidByText := true, laidKinds := [.data, .pinned], laidTests := true, laidLooks := .later }
def StyleTwiceUptoCardSaid : Prop := Claim7.holds Tryd.pinned (.plain (OpenSpec.upto styleTwiceSpec)) styleTwiceUptoCard

/-- THE SECOND FORM's CARD OF 'glazierlaw47.BlanksQuote'. -/
def blanksQuoteUptoCard : Claim7 := { stood := { row := blanksQuoteUptoRow, standIns := [], harness := (true, "50dea5cbe478acdc22e2c3e2bc82a8a0a985b88fe97c814b6e46f9796652b6b7"), looks := false }, kinds := [], alts := [], laidByText := true, laidKinds := [.data, .pinned], laidTests := true, laidLooks := .later }
def BlanksQuoteUptoCardSaid : Prop := Claim7.holds Tryd.pinned (.plain (OpenSpec.upto blanksQuoteSpec)) blanksQuoteUptoCard

/-- THE SECOND FORM's CARD OF 'glazierlaw44.StyleTells'. -/
def styleTellsUptoCard : Claim7 := { stood := { row := styleTellsUptoRow, standIns := [], harness := (true, "50dea5cbe478acdc22e2c3e2bc82a8a0a985b88fe97c814b6e46f9796652b6b7"), looks := false }, kinds := [], alts := [], laidByText := true, laidKinds := [.data, .pinned], laidTests := true, laidLooks := .later }
def StyleTellsUptoCardSaid : Prop := Claim7.holds Tryd.pinned (.plain (OpenSpec.upto styleTellsSpec)) styleTellsUptoCard
end Rows
end Go.Proofs.YtljmmhihdcnbaaaDoor
