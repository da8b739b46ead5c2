/-
  DERIVED. GIVEN WITH THE SEED: THE CARDS: each row of YtmkdjgmdfhagfaaGreatDoorRows.lean that lists a variable, with what it lists TIED to the program's text (the seventh form; the later family's looks); each row that meets fmt, with fmt's text TOLD by the authors' own Lean function (tested against real Go, not proved from fmt's source: count such statements apart). THE CARD IS WHAT COUNTS. Prove the row's statement (the work); the ties are given (YtmkdjgmdfhagfaaGreatDoorTie.lean); close each card by the builder's one call (the guide's Derived/Test/ToyasCard.lean, 'card_holds'). Laid BY PROGRAM, IN A SANDBOX (cutbox-door.mjs). By AI agents, Wed Nov 11 2026. No macro, syntax, notation, axiom, sorry.
-/
import Derived.Test.YtmkdjgmdfhagfaaGreatDoorRows
import GoSem.ClaimSeven
namespace Go.Proofs.YtmkdjgmdfhagfaaGreatDoor
namespace Rows

/-- THE TIED CARD OF 'grommetlaw07.QuoteWrites'. -/
def quoteWritesCard : Claim7 := { stood := { row := quoteWritesRow, standIns := [], harness := (true, "844fe30a3bed5da94a7e9afc1bab8dbb6ad0849cdfa2a145370cce52b227cc55"), looks := true }, kinds := [], alts := [], laidByText := true, laidKinds := [.data, .data, .data, .data, .sentinel, .sentinel, .pinned], laidTests := true, laidLooks := .later }
def QuoteWritesCardSaid : Prop := Claim7.holds Tryz.pinned (.plain (OpenSpec.ofChange quoteWritesSpec)) quoteWritesCard

/-- THE TIED CARD OF 'grommetlaw16.PathFormats'. -/
def pathFormatsCard : Claim7 := { stood := { row := pathFormatsRow, standIns := [], harness := (true, "844fe30a3bed5da94a7e9afc1bab8dbb6ad0849cdfa2a145370cce52b227cc55"), looks := true }, kinds := [], alts := [], laidByText := true, laidKinds := [.data, .data, .data, .data, .sentinel, .sentinel, .pinned], laidTests := true, laidLooks := .later }
def PathFormatsCardSaid : Prop := Claim7.holds Tryz.pinned (.plain (OpenSpec.ofChange pathFormatsSpec)) pathFormatsCard

/-- THE TIED CARD OF 'grommetlaw16.PathBack'. -/
def pathBackCard : Claim7 := { stood := { row := pathBackRow, standIns := [], harness := (true, "844fe30a3bed5da94a7e9afc1bab8dbb6ad0849cdfa2a145370cce52b227cc55"), looks := true }, kinds := [], alts := [], laidByText := true, laidKinds := [.data, .data, .data, .data, .sentinel, .sentinel, .pinned], laidTests := true, laidLooks := .later }
def PathBackCardSaid : Prop := Claim7.holds Tryz.pinned (.plain (OpenSpec.ofChange pathBackSpec)) pathBackCard

/-- THE TIED CARD OF 'grommetlaw16.PathAgain'. -/
def pathAgainCard : Claim7 := { stood := { row := pathAgainRow, standIns := [], harness := (true, "844fe30a3bed5da94a7e9afc1bab8dbb6ad0849cdfa2a145370cce52b227cc55"), looks := true }, kinds := [], alts := [], laidByText := true, laidKinds := [.data, .data, .data, .data, .sentinel, .sentinel, .pinned], laidTests := true, laidLooks := .later }
def PathAgainCardSaid : Prop := Claim7.holds Tryz.pinned (.plain (OpenSpec.ofChange pathAgainSpec)) pathAgainCard

/-- THE TIED CARD OF 'grommetlaw16.PathGets'. -/
def pathGetsCard : Claim7 := { stood := { row := pathGetsRow, standIns := [], harness := (true, "844fe30a3bed5da94a7e9afc1bab8dbb6ad0849cdfa2a145370cce52b227cc55"), looks := true }, kinds := [], alts := [], laidByText := true, laidKinds := [.data, .data, .data, .data, .sentinel, .sentinel, .pinned], laidTests := true, laidLooks := .later }
def PathGetsCardSaid : Prop := Claim7.holds Tryz.pinned (.plain (OpenSpec.ofChange pathGetsSpec)) pathGetsCard

/-- THE TIED CARD OF 'grommetlaw16.PathOn'. -/
def pathOnCard : Claim7 := { stood := { row := pathOnRow, standIns := [], harness := (true, "844fe30a3bed5da94a7e9afc1bab8dbb6ad0849cdfa2a145370cce52b227cc55"), looks := true }, kinds := [], alts := [], laidByText := true, laidKinds := [.data, .data, .data, .data, .sentinel, .sentinel, .pinned], laidTests := true, laidLooks := .later }
def PathOnCardSaid : Prop := Claim7.holds Tryz.pinned (.plain (OpenSpec.ofChange pathOnSpec)) pathOnCard

/-- THE TIED CARD OF 'grommetlaw16.PathOne'. -/
def pathOneCard : Claim7 := { stood := { row := pathOneRow, standIns := [], harness := (true, "844fe30a3bed5da94a7e9afc1bab8dbb6ad0849cdfa2a145370cce52b227cc55"), looks := true }, kinds := [], alts := [], laidByText := true, laidKinds := [.data, .data, .data, .data, .sentinel, .sentinel, .pinned], laidTests := true, laidLooks := .later }
def PathOneCardSaid : Prop := Claim7.holds Tryz.pinned (.plain (OpenSpec.ofChange pathOneSpec)) pathOneCard

/-- THE SECOND FORM's CARD OF 'grommetlaw07.QuoteWrites'. -/
def quoteWritesUptoCard : Claim7 := { stood := { row := quoteWritesUptoRow, standIns := [], harness := (true, "844fe30a3bed5da94a7e9afc1bab8dbb6ad0849cdfa2a145370cce52b227cc55"), looks := true }, kinds := [], alts := [], laidByText := true, laidKinds := [.data, .data, .data, .data, .sentinel, .sentinel, .pinned], laidTests := true, laidLooks := .later }
def QuoteWritesUptoCardSaid : Prop := Claim7.holds Tryz.pinned (.plain (OpenSpec.upto quoteWritesSpec)) quoteWritesUptoCard

/-- THE SECOND FORM's CARD OF 'grommetlaw16.PathFormats'. -/
def pathFormatsUptoCard : Claim7 := { stood := { row := pathFormatsUptoRow, standIns := [], harness := (true, "844fe30a3bed5da94a7e9afc1bab8dbb6ad0849cdfa2a145370cce52b227cc55"), looks := true }, kinds := [], alts := [], laidByText := true, laidKinds := [.data, .data, .data, .data, .sentinel, .sentinel, .pinned], laidTests := true, laidLooks := .later }
def PathFormatsUptoCardSaid : Prop := Claim7.holds Tryz.pinned (.plain (OpenSpec.upto pathFormatsSpec)) pathFormatsUptoCard

/-- THE SECOND FORM's CARD OF 'grommetlaw16.PathBack'. -/
def pathBackUptoCard : Claim7 := { stood := { row := pathBackUptoRow, standIns := [], harness := (true, "844fe30a3bed5da94a7e9afc1bab8dbb6ad0849cdfa2a145370cce52b227cc55"), looks := true }, kinds := [], alts := [], laidByText := true, laidKinds := [.data, .data, .data, .data, .sentinel, .sentinel, .pinned], laidTests := true, laidLooks := .later }
def PathBackUptoCardSaid : Prop := Claim7.holds Tryz.pinned (.plain (OpenSpec.upto pathBackSpec)) pathBackUptoCard

/-- THE SECOND FORM's CARD OF 'grommetlaw16.PathAgain'. -/
def pathAgainUptoCard : Claim7 := { stood := { row := pathAgainUptoRow, standIns := [], harness := (true, "844fe30a3bed5da94a7e9afc1bab8dbb6ad0849cdfa2a145370cce52b227cc55"), looks := true }, kinds := [], alts := [], laidByText := true, laidKinds := [.data, .data, .data, .data, .sentinel, .sentinel, .pinned], laidTests := true, laidLooks := .later }
def PathAgainUptoCardSaid : Prop := Claim7.holds Tryz.pinned (.plain (OpenSpec.upto pathAgainSpec)) pathAgainUptoCard

/-- THE SECOND FORM's CARD OF 'grommetlaw16.PathGets'. -/
def pathGetsUptoCard : Claim7 := { stood := { row := pathGetsUptoRow, standIns := [], harness := (true, "844fe30a3bed5da94a7e9afc1bab8dbb6ad0849cdfa2a145370cce52b227cc55"), looks := true }, kinds := [], alts := [], laidByText := true, laidKinds := [.data, .data, .data, .data, .sentinel, .sentinel, .pinned], laidTests := true, laidLooks := .later }
def PathGetsUptoCardSaid : Prop := Claim7.holds Tryz.pinned (.plain (OpenSpec.upto pathGetsSpec)) pathGetsUptoCard

/-- THE SECOND FORM's CARD OF 'grommetlaw16.PathOn'. -/
def pathOnUptoCard : Claim7 := { stood := { row := pathOnUptoRow, standIns := [], harness := (true, "844fe30a3bed5da94a7e9afc1bab8dbb6ad0849cdfa2a145370cce52b227cc55"), looks := true }, kinds := [], alts := [], laidByText := true, laidKinds := [.data, .data, .data, .data, .sentinel, .sentinel, .pinned], laidTests := true, laidLooks := .later }
def PathOnUptoCardSaid : Prop := Claim7.holds Tryz.pinned (.plain (OpenSpec.upto pathOnSpec)) pathOnUptoCard

/-- THE SECOND FORM's CARD OF 'grommetlaw16.PathOne'. -/
def pathOneUptoCard : Claim7 := { stood := { row := pathOneUptoRow, standIns := [], harness := (true, "844fe30a3bed5da94a7e9afc1bab8dbb6ad0849cdfa2a145370cce52b227cc55"), looks := true }, kinds := [], alts := [], laidByText := true, laidKinds := [.data, .data, .data, .data, .sentinel, .sentinel, .pinned], laidTests := true, laidLooks := .later }
def PathOneUptoCardSaid : Prop := Claim7.holds Tryz.pinned (.plain (OpenSpec.upto pathOneSpec)) pathOneUptoCard
end Rows
end Go.Proofs.YtmkdjgmdfhagfaaGreatDoor
