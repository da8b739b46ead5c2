/-
  DERIVED. GIVEN WITH THE SEED: THE CARDS: each row of YtnjcpoojgmpmeaaGreatDoorRows.lean that lists a variable, with what it lists TIED to the program's text (the seventh form; the later family's looks); each row that meets fmt, with fmt's text TOLD by the authors' own Lean function (tested against real Go, not proved from fmt's source: count such statements apart). THE CARD IS WHAT COUNTS. Prove the row's statement (the work); the ties are given (YtnjcpoojgmpmeaaGreatDoorTie.lean); close each card by the builder's one call (the guide's Derived/Test/ToyasCard.lean, 'card_holds'). Laid BY PROGRAM, IN A SANDBOX (cutbox-door.mjs). By AI agents, Wed Nov 11 2026. No macro, syntax, notation, axiom, sorry.
-/
import Derived.Test.YtnjcpoojgmpmeaaGreatDoorRows
import GoSem.ClaimSeven
namespace Go.Proofs.YtnjcpoojgmpmeaaGreatDoor
namespace Rows

/-- THE TIED CARD OF 'grommetlaw14.LayTrees'. -/
def layTreesCard : Claim7 := { stood := { row := layTreesRow, standIns := [], harness := (true, "ab0e61e0291211c75c28147663895752507cc83b5de62b05eb8e8c7cca4bb8d4"), looks := true }, kinds := [], alts := [], laidByText := true, laidKinds := [.data, .data, .data, .data, .sentinel, .sentinel, .pinned], laidTests := true, laidLooks := .later }
def LayTreesCardSaid : Prop := Claim7.holds Tryz.pinned (.plain (OpenSpec.ofChange layTreesSpec)) layTreesCard

/-- THE TIED CARD OF 'grommetlaw14.LayShared'. -/
def laySharedCard : Claim7 := { stood := { row := laySharedRow, standIns := [], harness := (true, "ab0e61e0291211c75c28147663895752507cc83b5de62b05eb8e8c7cca4bb8d4"), looks := true }, kinds := [], alts := [], laidByText := true, laidKinds := [.data, .data, .data, .data, .sentinel, .sentinel, .pinned], laidTests := true, laidLooks := .later }
def LaySharedCardSaid : Prop := Claim7.holds Tryz.pinned (.plain (OpenSpec.ofChange laySharedSpec)) laySharedCard

/-- THE TIED CARD OF 'grommetlaw14.LayDeep'. -/
def layDeepCard : Claim7 := { stood := { row := layDeepRow, standIns := [], harness := (true, "ab0e61e0291211c75c28147663895752507cc83b5de62b05eb8e8c7cca4bb8d4"), looks := true }, kinds := [], alts := [], laidByText := true, laidKinds := [.data, .data, .data, .data, .sentinel, .sentinel, .pinned], laidTests := true, laidLooks := .later }
def LayDeepCardSaid : Prop := Claim7.holds Tryz.pinned (.plain (OpenSpec.ofChange layDeepSpec)) layDeepCard

/-- THE TIED CARD OF 'grommetlaw14.LayTrims'. -/
def layTrimsCard : Claim7 := { stood := { row := layTrimsRow, standIns := [], harness := (true, "ab0e61e0291211c75c28147663895752507cc83b5de62b05eb8e8c7cca4bb8d4"), looks := true }, kinds := [], alts := [], laidByText := true, laidKinds := [.data, .data, .data, .data, .sentinel, .sentinel, .pinned], laidTests := true, laidLooks := .later }
def LayTrimsCardSaid : Prop := Claim7.holds Tryz.pinned (.plain (OpenSpec.ofChange layTrimsSpec)) layTrimsCard

/-- THE TIED CARD OF 'grommetlaw14.LayBack'. -/
def layBackCard : Claim7 := { stood := { row := layBackRow, standIns := [], harness := (true, "ab0e61e0291211c75c28147663895752507cc83b5de62b05eb8e8c7cca4bb8d4"), looks := true }, kinds := [], alts := [], laidByText := true, laidKinds := [.data, .data, .data, .data, .sentinel, .sentinel, .pinned], laidTests := true, laidLooks := .later }
def LayBackCardSaid : Prop := Claim7.holds Tryz.pinned (.plain (OpenSpec.ofChange layBackSpec)) layBackCard

/-- THE TIED CARD OF 'grommetlaw14.LayAgain'. -/
def layAgainCard : Claim7 := { stood := { row := layAgainRow, standIns := [], harness := (true, "ab0e61e0291211c75c28147663895752507cc83b5de62b05eb8e8c7cca4bb8d4"), looks := true }, kinds := [], alts := [], laidByText := true, laidKinds := [.data, .data, .data, .data, .sentinel, .sentinel, .pinned], laidTests := true, laidLooks := .later }
def LayAgainCardSaid : Prop := Claim7.holds Tryz.pinned (.plain (OpenSpec.ofChange layAgainSpec)) layAgainCard

/-- THE SECOND FORM's CARD OF 'grommetlaw14.LayTrees'. -/
def layTreesUptoCard : Claim7 := { stood := { row := layTreesUptoRow, standIns := [], harness := (true, "ab0e61e0291211c75c28147663895752507cc83b5de62b05eb8e8c7cca4bb8d4"), looks := true }, kinds := [], alts := [], laidByText := true, laidKinds := [.data, .data, .data, .data, .sentinel, .sentinel, .pinned], laidTests := true, laidLooks := .later }
def LayTreesUptoCardSaid : Prop := Claim7.holds Tryz.pinned (.plain (OpenSpec.upto layTreesSpec)) layTreesUptoCard

/-- THE SECOND FORM's CARD OF 'grommetlaw14.LayShared'. -/
def laySharedUptoCard : Claim7 := { stood := { row := laySharedUptoRow, standIns := [], harness := (true, "ab0e61e0291211c75c28147663895752507cc83b5de62b05eb8e8c7cca4bb8d4"), looks := true }, kinds := [], alts := [], laidByText := true, laidKinds := [.data, .data, .data, .data, .sentinel, .sentinel, .pinned], laidTests := true, laidLooks := .later }
def LaySharedUptoCardSaid : Prop := Claim7.holds Tryz.pinned (.plain (OpenSpec.upto laySharedSpec)) laySharedUptoCard

/-- THE SECOND FORM's CARD OF 'grommetlaw14.LayDeep'. -/
def layDeepUptoCard : Claim7 := { stood := { row := layDeepUptoRow, standIns := [], harness := (true, "ab0e61e0291211c75c28147663895752507cc83b5de62b05eb8e8c7cca4bb8d4"), looks := true }, kinds := [], alts := [], laidByText := true, laidKinds := [.data, .data, .data, .data, .sentinel, .sentinel, .pinned], laidTests := true, laidLooks := .later }
def LayDeepUptoCardSaid : Prop := Claim7.holds Tryz.pinned (.plain (OpenSpec.upto layDeepSpec)) layDeepUptoCard

/-- THE SECOND FORM's CARD OF 'grommetlaw14.LayTrims'. -/
def layTrimsUptoCard : Claim7 := { stood := { row := layTrimsUptoRow, standIns := [], harness := (true, "ab0e61e0291211c75c28147663895752507cc83b5de62b05eb8e8c7cca4bb8d4"), looks := true }, kinds := [], alts := [], laidByText := true, laidKinds := [.data, .data, .data, .data, .sentinel, .sentinel, .pinned], laidTests := true, laidLooks := .later }
def LayTrimsUptoCardSaid : Prop := Claim7.holds Tryz.pinned (.plain (OpenSpec.upto layTrimsSpec)) layTrimsUptoCard

/-- THE SECOND FORM's CARD OF 'grommetlaw14.LayBack'. -/
def layBackUptoCard : Claim7 := { stood := { row := layBackUptoRow, standIns := [], harness := (true, "ab0e61e0291211c75c28147663895752507cc83b5de62b05eb8e8c7cca4bb8d4"), looks := true }, kinds := [], alts := [], laidByText := true, laidKinds := [.data, .data, .data, .data, .sentinel, .sentinel, .pinned], laidTests := true, laidLooks := .later }
def LayBackUptoCardSaid : Prop := Claim7.holds Tryz.pinned (.plain (OpenSpec.upto layBackSpec)) layBackUptoCard

/-- THE SECOND FORM's CARD OF 'grommetlaw14.LayAgain'. -/
def layAgainUptoCard : Claim7 := { stood := { row := layAgainUptoRow, standIns := [], harness := (true, "ab0e61e0291211c75c28147663895752507cc83b5de62b05eb8e8c7cca4bb8d4"), looks := true }, kinds := [], alts := [], laidByText := true, laidKinds := [.data, .data, .data, .data, .sentinel, .sentinel, .pinned], laidTests := true, laidLooks := .later }
def LayAgainUptoCardSaid : Prop := Claim7.holds Tryz.pinned (.plain (OpenSpec.upto layAgainSpec)) layAgainUptoCard
end Rows
end Go.Proofs.YtnjcpoojgmpmeaaGreatDoor
