/-
  DERIVED. GIVEN WITH THE SEED: THE CARDS: each row of YtidbneljichnhaaDoorRows.lean that lists a variable, with what it lists TIED to the program's text (the seventh form; the later family's looks); each row that meets fmt, with fmt's text TOLD by the authors' own Lean function (tested against real Go, not proved from fmt's source: count such statements apart). THE CARD IS WHAT COUNTS. Prove the row's statement (the work); the ties are given (YtidbneljichnhaaDoorTie.lean); close each card by the builder's one call (the guide's Derived/Test/ToyasCard.lean, 'card_holds'). Laid BY PROGRAM, IN A SANDBOX (cutbox-door.mjs). By AI agents, Wed Nov 11 2026. No macro, syntax, notation, axiom, sorry.
-/
import Derived.Test.YtidbneljichnhaaDoorRows
import GoSem.ClaimSeven
namespace Go.Proofs.YtidbneljichnhaaDoor
namespace Rows

/-- THE TIED CARD OF 'grommetlaw07.QuoteReads'. -/
def quoteReadsCard : Claim7 := { stood := { row := quoteReadsRow, standIns := [], harness := (true, "e97b400e09be73ab53d22027cdc82470941ac60e2846d1eca25350111a7367db"), looks := true }, kinds := [], alts := [], laidByText := true, laidKinds := [.data, .data, .data, .data, .sentinel, .sentinel, .pinned], laidTests := true, laidLooks := .later }
def QuoteReadsCardSaid : Prop := Claim7.holds Tryd.pinned (.plain (OpenSpec.ofChange quoteReadsSpec)) quoteReadsCard

/-- THE TIED CARD OF 'grommetlaw07.QuoteMeans'. -/
def quoteMeansCard : Claim7 := { stood := { row := quoteMeansRow, standIns := [], harness := (true, "e97b400e09be73ab53d22027cdc82470941ac60e2846d1eca25350111a7367db"), looks := true }, kinds := [], alts := [], laidByText := true, laidKinds := [.data, .data, .data, .data, .sentinel, .sentinel, .pinned], laidTests := true, laidLooks := .later }
def QuoteMeansCardSaid : Prop := Claim7.holds Tryd.pinned (.plain (OpenSpec.ofChange quoteMeansSpec)) quoteMeansCard

/-- THE TIED CARD OF 'grommetlaw07.QuoteDouble'. -/
def quoteDoubleCard : Claim7 := { stood := { row := quoteDoubleRow, standIns := [], harness := (true, "e97b400e09be73ab53d22027cdc82470941ac60e2846d1eca25350111a7367db"), looks := true }, kinds := [], alts := [], laidByText := true, laidKinds := [.data, .data, .data, .data, .sentinel, .sentinel, .pinned], laidTests := true, laidLooks := .later }
def QuoteDoubleCardSaid : Prop := Claim7.holds Tryd.pinned (.plain (OpenSpec.ofChange quoteDoubleSpec)) quoteDoubleCard

/-- THE TIED CARD OF 'grommetlaw07.QuoteSingle'. -/
def quoteSingleCard : Claim7 := { stood := { row := quoteSingleRow, standIns := [], harness := (true, "e97b400e09be73ab53d22027cdc82470941ac60e2846d1eca25350111a7367db"), looks := true }, kinds := [], alts := [], laidByText := true, laidKinds := [.data, .data, .data, .data, .sentinel, .sentinel, .pinned], laidTests := true, laidLooks := .later }
def QuoteSingleCardSaid : Prop := Claim7.holds Tryd.pinned (.plain (OpenSpec.ofChange quoteSingleSpec)) quoteSingleCard

/-- THE TIED CARD OF 'grommetlaw07.QuoteCut'. -/
def quoteCutCard : Claim7 := { stood := { row := quoteCutRow, standIns := [], harness := (true, "e97b400e09be73ab53d22027cdc82470941ac60e2846d1eca25350111a7367db"), looks := true }, kinds := [], alts := [], laidByText := true, laidKinds := [.data, .data, .data, .data, .sentinel, .sentinel, .pinned], laidTests := true, laidLooks := .later }
def QuoteCutCardSaid : Prop := Claim7.holds Tryd.pinned (.plain (OpenSpec.ofChange quoteCutSpec)) quoteCutCard

/-- THE SECOND FORM's CARD OF 'grommetlaw07.QuoteReads'. -/
def quoteReadsUptoCard : Claim7 := { stood := { row := quoteReadsUptoRow, standIns := [], harness := (true, "e97b400e09be73ab53d22027cdc82470941ac60e2846d1eca25350111a7367db"), looks := true }, kinds := [], alts := [], laidByText := true, laidKinds := [.data, .data, .data, .data, .sentinel, .sentinel, .pinned], laidTests := true, laidLooks := .later }
def QuoteReadsUptoCardSaid : Prop := Claim7.holds Tryd.pinned (.plain (OpenSpec.upto quoteReadsSpec)) quoteReadsUptoCard

/-- THE SECOND FORM's CARD OF 'grommetlaw07.QuoteMeans'. -/
def quoteMeansUptoCard : Claim7 := { stood := { row := quoteMeansUptoRow, standIns := [], harness := (true, "e97b400e09be73ab53d22027cdc82470941ac60e2846d1eca25350111a7367db"), looks := true }, kinds := [], alts := [], laidByText := true, laidKinds := [.data, .data, .data, .data, .sentinel, .sentinel, .pinned], laidTests := true, laidLooks := .later }
def QuoteMeansUptoCardSaid : Prop := Claim7.holds Tryd.pinned (.plain (OpenSpec.upto quoteMeansSpec)) quoteMeansUptoCard

/-- THE SECOND FORM's CARD OF 'grommetlaw07.QuoteDouble'. -/
def quoteDoubleUptoCard : Claim7 := { stood := { row := quoteDoubleUptoRow, standIns := [], harness := (true, "e97b400e09be73ab53d22027cdc82470941ac60e2846d1eca25350111a7367db"), looks := true }, kinds := [], alts := [], laidByText := true, laidKinds := [.data, .data, .data, .data, .sentinel, .sentinel, .pinned], laidTests := true, laidLooks := .later }
def QuoteDoubleUptoCardSaid : Prop := Claim7.holds Tryd.pinned (.plain (OpenSpec.upto quoteDoubleSpec)) quoteDoubleUptoCard

/-- THE SECOND FORM's CARD OF 'grommetlaw07.QuoteSingle'. -/
def quoteSingleUptoCard : Claim7 := { stood := { row := quoteSingleUptoRow, standIns := [], harness := (true, "e97b400e09be73ab53d22027cdc82470941ac60e2846d1eca25350111a7367db"), looks := true }, kinds := [], alts := [], laidByText := true, laidKinds := [.data, .data, .data, .data, .sentinel, .sentinel, .pinned], laidTests := true, laidLooks := .later }
def QuoteSingleUptoCardSaid : Prop := Claim7.holds Tryd.pinned (.plain (OpenSpec.upto quoteSingleSpec)) quoteSingleUptoCard

/-- THE SECOND FORM's CARD OF 'grommetlaw07.QuoteCut'. -/
def quoteCutUptoCard : Claim7 := { stood := { row := quoteCutUptoRow, standIns := [], harness := (true, "e97b400e09be73ab53d22027cdc82470941ac60e2846d1eca25350111a7367db"), looks := true }, kinds := [], alts := [], laidByText := true, laidKinds := [.data, .data, .data, .data, .sentinel, .sentinel, .pinned], laidTests := true, laidLooks := .later }
def QuoteCutUptoCardSaid : Prop := Claim7.holds Tryd.pinned (.plain (OpenSpec.upto quoteCutSpec)) quoteCutUptoCard
end Rows
end Go.Proofs.YtidbneljichnhaaDoor
