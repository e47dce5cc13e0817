/-
  DERIVED. GIVEN WITH THE SEED: THE CARDS: each row of YtfmkodmmbgibgaaGreatDoorRows.lean that lists a variable, with what it lists TIED to the program's text (the seventh form; the later family's looks); each row that meets fmt, with fmt's text TOLD by the authors' own Lean function (tested against real Go, not proved from fmt's source: count such statements apart). THE CARD IS WHAT COUNTS. Prove the row's statement (the work); the ties are given (YtfmkodmmbgibgaaGreatDoorTie.lean); close each card by the builder's one call (the guide's Derived/Test/ToyasCard.lean, 'card_holds'). Laid BY PROGRAM, IN A SANDBOX (cutbox-door.mjs). By AI agents, Wed Nov 11 2026. No macro, syntax, notation, axiom, sorry.
-/
import Derived.Test.YtfmkodmmbgibgaaGreatDoorRows
import GoSem.ClaimSeven
namespace Go.Proofs.YtfmkodmmbgibgaaGreatDoor
namespace Rows

/-- THE TIED CARD OF 'rehearsallaw05.JournalLists'. -/
def journalListsCard : Claim7 := { stood := { row := journalListsRow, standIns := [], harness := (true, "b1a13e246feaa1753351aa49943d13d0e22b57d107565411f2f32de9572654f3"), looks := true }, kinds := [], alts := [], laidByText := true, laidKinds := [.data, .data, .data, .data, .sentinel, .sentinel], laidTests := true, laidLooks := .later }
def JournalListsCardSaid : Prop := Claim7.holds Tryz.pinned (.plain (OpenSpec.ofChange journalListsSpec)) journalListsCard

/-- THE TIED CARD OF 'rehearsallaw05.JournalAtomic'. -/
def journalAtomicCard : Claim7 := { stood := { row := journalAtomicRow, standIns := [], harness := (true, "b1a13e246feaa1753351aa49943d13d0e22b57d107565411f2f32de9572654f3"), looks := true }, kinds := [], alts := [], laidByText := true, laidKinds := [.data, .data, .data, .data, .sentinel, .sentinel], laidTests := true, laidLooks := .later }
def JournalAtomicCardSaid : Prop := Claim7.holds Tryz.pinned (.plain (OpenSpec.ofChange journalAtomicSpec)) journalAtomicCard

/-- THE TIED CARD OF 'rehearsallaw05.JournalTells'. -/
def journalTellsCard : Claim7 := { stood := { row := journalTellsRow, standIns := [], harness := (true, "b1a13e246feaa1753351aa49943d13d0e22b57d107565411f2f32de9572654f3"), looks := true }, kinds := [], alts := [], laidByText := true, laidKinds := [.data, .data, .data, .data, .sentinel, .sentinel], laidTests := true, laidLooks := .later }
def JournalTellsCardSaid : Prop := Claim7.holds Tryz.pinned (.plain (OpenSpec.ofChange journalTellsSpec)) journalTellsCard

/-- THE SECOND FORM's CARD OF 'rehearsallaw05.JournalLists'. -/
def journalListsUptoCard : Claim7 := { stood := { row := journalListsUptoRow, standIns := [], harness := (true, "b1a13e246feaa1753351aa49943d13d0e22b57d107565411f2f32de9572654f3"), looks := true }, kinds := [], alts := [], laidByText := true, laidKinds := [.data, .data, .data, .data, .sentinel, .sentinel], laidTests := true, laidLooks := .later }
def JournalListsUptoCardSaid : Prop := Claim7.holds Tryz.pinned (.plain (OpenSpec.upto journalListsSpec)) journalListsUptoCard

/-- THE SECOND FORM's CARD OF 'rehearsallaw05.JournalAtomic'. -/
def journalAtomicUptoCard : Claim7 := { stood := { row := journalAtomicUptoRow, standIns := [], harness := (true, "b1a13e246feaa1753351aa49943d13d0e22b57d107565411f2f32de9572654f3"), looks := true }, kinds := [], alts := [], laidByText := true, laidKinds := [.data, .data, .data, .data, .sentinel, .sentinel], laidTests := true, laidLooks := .later }
def JournalAtomicUptoCardSaid : Prop := Claim7.holds Tryz.pinned (.plain (OpenSpec.upto journalAtomicSpec)) journalAtomicUptoCard

/-- THE SECOND FORM's CARD OF 'rehearsallaw05.JournalTells'. -/
def journalTellsUptoCard : Claim7 := { stood := { row := journalTellsUptoRow, standIns := [], harness := (true, "b1a13e246feaa1753351aa49943d13d0e22b57d107565411f2f32de9572654f3"), looks := true }, kinds := [], alts := [], laidByText := true, laidKinds := [.data, .data, .data, .data, .sentinel, .sentinel], laidTests := true, laidLooks := .later }
def JournalTellsUptoCardSaid : Prop := Claim7.holds Tryz.pinned (.plain (OpenSpec.upto journalTellsSpec)) journalTellsUptoCard
end Rows
end Go.Proofs.YtfmkodmmbgibgaaGreatDoor
