/-
  DERIVED. GIVEN WITH THE SEED: THE CARDS: each row of YtephdpgkildeoaaDoorRows.lean that lists a variable, with what it lists TIED to the program's text (the seventh form; the later family's looks); each row that meets fmt, with fmt's text TOLD by the authors' own Lean function (tested against real Go, not proved from fmt's source: count such statements apart). THE CARD IS WHAT COUNTS. Prove the row's statement (the work); the ties are given (YtephdpgkildeoaaDoorTie.lean); close each card by the builder's one call (the guide's Derived/Test/ToyasCard.lean, 'card_holds'). Laid BY PROGRAM, IN A SANDBOX (cutbox-door.mjs). By AI agents, Wed Nov 11 2026. No macro, syntax, notation, axiom, sorry.
-/
import Derived.Test.YtephdpgkildeoaaDoorRows
import GoSem.ClaimSeven
namespace Go.Proofs.YtephdpgkildeoaaDoor
namespace Rows

/-- THE TIED CARD OF 'grommetlaw06.PlainTells'. -/
def plainTellsCard : Claim7 := { stood := { row := plainTellsRow, standIns := [], harness := (true, "6372a130ead6cf0619a0019c54b288527ed1a9232b6fa32af45518e9863e8dc9"), looks := true }, kinds := [], alts := [], laidByText := true, laidKinds := [.data, .data, .data, .data, .sentinel, .sentinel, .pinned], laidTests := true, laidLooks := .later }
def PlainTellsCardSaid : Prop := Claim7.holds Tryd.pinned (.plain (OpenSpec.ofChange plainTellsSpec)) plainTellsCard

/-- THE TIED CARD OF 'grommetlaw06.PlainCuts'. -/
def plainCutsCard : Claim7 := { stood := { row := plainCutsRow, standIns := [], harness := (true, "6372a130ead6cf0619a0019c54b288527ed1a9232b6fa32af45518e9863e8dc9"), looks := true }, kinds := [], alts := [], laidByText := true, laidKinds := [.data, .data, .data, .data, .sentinel, .sentinel, .pinned], laidTests := true, laidLooks := .later }
def PlainCutsCardSaid : Prop := Claim7.holds Tryd.pinned (.plain (OpenSpec.ofChange plainCutsSpec)) plainCutsCard

/-- THE TIED CARD OF 'grommetlaw06.PlainResolves'. -/
def plainResolvesCard : Claim7 := { stood := { row := plainResolvesRow, standIns := [], harness := (true, "6372a130ead6cf0619a0019c54b288527ed1a9232b6fa32af45518e9863e8dc9"), looks := true }, kinds := [], alts := [], laidByText := true, laidKinds := [.data, .data, .data, .data, .sentinel, .sentinel, .pinned], laidTests := true, laidLooks := .later }
def PlainResolvesCardSaid : Prop := Claim7.holds Tryd.pinned (.plain (OpenSpec.ofChange plainResolvesSpec)) plainResolvesCard

/-- THE TIED CARD OF 'grommetlaw06.PlainWhole'. -/
def plainWholeCard : Claim7 := { stood := { row := plainWholeRow, standIns := [], harness := (true, "6372a130ead6cf0619a0019c54b288527ed1a9232b6fa32af45518e9863e8dc9"), looks := true }, kinds := [], alts := [], laidByText := true, laidKinds := [.data, .data, .data, .data, .sentinel, .sentinel, .pinned], laidTests := true, laidLooks := .later }
def PlainWholeCardSaid : Prop := Claim7.holds Tryd.pinned (.plain (OpenSpec.ofChange plainWholeSpec)) plainWholeCard

/-- THE TIED CARD OF 'grommetlaw06.PlainAhead'. -/
def plainAheadCard : Claim7 := { stood := { row := plainAheadRow, standIns := [], harness := (true, "6372a130ead6cf0619a0019c54b288527ed1a9232b6fa32af45518e9863e8dc9"), looks := true }, kinds := [], alts := [], laidByText := true, laidKinds := [.data, .data, .data, .data, .sentinel, .sentinel, .pinned], laidTests := true, laidLooks := .later }
def PlainAheadCardSaid : Prop := Claim7.holds Tryd.pinned (.plain (OpenSpec.ofChange plainAheadSpec)) plainAheadCard

/-- THE TIED CARD OF 'grommetlaw06.PlainNumbers'. -/
def plainNumbersCard : Claim7 := { stood := { row := plainNumbersRow, standIns := [], harness := (true, "6372a130ead6cf0619a0019c54b288527ed1a9232b6fa32af45518e9863e8dc9"), looks := true }, kinds := [], alts := [], laidByText := true, laidKinds := [.data, .data, .data, .data, .sentinel, .sentinel, .pinned], laidTests := true, laidLooks := .later }
def PlainNumbersCardSaid : Prop := Claim7.holds Tryd.pinned (.plain (OpenSpec.ofChange plainNumbersSpec)) plainNumbersCard

/-- THE TIED CARD OF 'grommetlaw06.PlainFlow'. -/
def plainFlowCard : Claim7 := { stood := { row := plainFlowRow, standIns := [], harness := (true, "6372a130ead6cf0619a0019c54b288527ed1a9232b6fa32af45518e9863e8dc9"), looks := true }, kinds := [], alts := [], laidByText := true, laidKinds := [.data, .data, .data, .data, .sentinel, .sentinel, .pinned], laidTests := true, laidLooks := .later }
def PlainFlowCardSaid : Prop := Claim7.holds Tryd.pinned (.plain (OpenSpec.ofChange plainFlowSpec)) plainFlowCard

/-- THE SECOND FORM's CARD OF 'grommetlaw06.PlainTells'. -/
def plainTellsUptoCard : Claim7 := { stood := { row := plainTellsUptoRow, standIns := [], harness := (true, "6372a130ead6cf0619a0019c54b288527ed1a9232b6fa32af45518e9863e8dc9"), looks := true }, kinds := [], alts := [], laidByText := true, laidKinds := [.data, .data, .data, .data, .sentinel, .sentinel, .pinned], laidTests := true, laidLooks := .later }
def PlainTellsUptoCardSaid : Prop := Claim7.holds Tryd.pinned (.plain (OpenSpec.upto plainTellsSpec)) plainTellsUptoCard

/-- THE SECOND FORM's CARD OF 'grommetlaw06.PlainCuts'. -/
def plainCutsUptoCard : Claim7 := { stood := { row := plainCutsUptoRow, standIns := [], harness := (true, "6372a130ead6cf0619a0019c54b288527ed1a9232b6fa32af45518e9863e8dc9"), looks := true }, kinds := [], alts := [], laidByText := true, laidKinds := [.data, .data, .data, .data, .sentinel, .sentinel, .pinned], laidTests := true, laidLooks := .later }
def PlainCutsUptoCardSaid : Prop := Claim7.holds Tryd.pinned (.plain (OpenSpec.upto plainCutsSpec)) plainCutsUptoCard

/-- THE SECOND FORM's CARD OF 'grommetlaw06.PlainResolves'. -/
def plainResolvesUptoCard : Claim7 := { stood := { row := plainResolvesUptoRow, standIns := [], harness := (true, "6372a130ead6cf0619a0019c54b288527ed1a9232b6fa32af45518e9863e8dc9"), looks := true }, kinds := [], alts := [], laidByText := true, laidKinds := [.data, .data, .data, .data, .sentinel, .sentinel, .pinned], laidTests := true, laidLooks := .later }
def PlainResolvesUptoCardSaid : Prop := Claim7.holds Tryd.pinned (.plain (OpenSpec.upto plainResolvesSpec)) plainResolvesUptoCard

/-- THE SECOND FORM's CARD OF 'grommetlaw06.PlainWhole'. -/
def plainWholeUptoCard : Claim7 := { stood := { row := plainWholeUptoRow, standIns := [], harness := (true, "6372a130ead6cf0619a0019c54b288527ed1a9232b6fa32af45518e9863e8dc9"), looks := true }, kinds := [], alts := [], laidByText := true, laidKinds := [.data, .data, .data, .data, .sentinel, .sentinel, .pinned], laidTests := true, laidLooks := .later }
def PlainWholeUptoCardSaid : Prop := Claim7.holds Tryd.pinned (.plain (OpenSpec.upto plainWholeSpec)) plainWholeUptoCard

/-- THE SECOND FORM's CARD OF 'grommetlaw06.PlainAhead'. -/
def plainAheadUptoCard : Claim7 := { stood := { row := plainAheadUptoRow, standIns := [], harness := (true, "6372a130ead6cf0619a0019c54b288527ed1a9232b6fa32af45518e9863e8dc9"), looks := true }, kinds := [], alts := [], laidByText := true, laidKinds := [.data, .data, .data, .data, .sentinel, .sentinel, .pinned], laidTests := true, laidLooks := .later }
def PlainAheadUptoCardSaid : Prop := Claim7.holds Tryd.pinned (.plain (OpenSpec.upto plainAheadSpec)) plainAheadUptoCard

/-- THE SECOND FORM's CARD OF 'grommetlaw06.PlainNumbers'. -/
def plainNumbersUptoCard : Claim7 := { stood := { row := plainNumbersUptoRow, standIns := [], harness := (true, "6372a130ead6cf0619a0019c54b288527ed1a9232b6fa32af45518e9863e8dc9"), looks := true }, kinds := [], alts := [], laidByText := true, laidKinds := [.data, .data, .data, .data, .sentinel, .sentinel, .pinned], laidTests := true, laidLooks := .later }
def PlainNumbersUptoCardSaid : Prop := Claim7.holds Tryd.pinned (.plain (OpenSpec.upto plainNumbersSpec)) plainNumbersUptoCard

/-- THE SECOND FORM's CARD OF 'grommetlaw06.PlainFlow'. -/
def plainFlowUptoCard : Claim7 := { stood := { row := plainFlowUptoRow, standIns := [], harness := (true, "6372a130ead6cf0619a0019c54b288527ed1a9232b6fa32af45518e9863e8dc9"), looks := true }, kinds := [], alts := [], laidByText := true, laidKinds := [.data, .data, .data, .data, .sentinel, .sentinel, .pinned], laidTests := true, laidLooks := .later }
def PlainFlowUptoCardSaid : Prop := Claim7.holds Tryd.pinned (.plain (OpenSpec.upto plainFlowSpec)) plainFlowUptoCard
end Rows
end Go.Proofs.YtephdpgkildeoaaDoor
