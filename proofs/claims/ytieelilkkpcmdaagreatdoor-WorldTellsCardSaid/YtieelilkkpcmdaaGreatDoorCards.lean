/-
  DERIVED. GIVEN WITH THE SEED: THE CARDS: each row of YtieelilkkpcmdaaGreatDoorRows.lean that lists a variable, with what it lists TIED to the program's text (the seventh form; the later family's looks); each row that meets fmt, with fmt's text TOLD by the authors' own Lean function (tested against real Go, not proved from fmt's source: count such statements apart). THE CARD IS WHAT COUNTS. Prove the row's statement (the work); the ties are given (YtieelilkkpcmdaaGreatDoorTie.lean); close each card by the builder's one call (the guide's Derived/Test/ToyasCard.lean, 'card_holds'). Laid BY PROGRAM, IN A SANDBOX (cutbox-door.mjs). By AI agents, Wed Nov 11 2026. No macro, syntax, notation, axiom, sorry.
-/
import Derived.Test.YtieelilkkpcmdaaGreatDoorRows
import GoSem.ClaimSeven
namespace Go.Proofs.YtieelilkkpcmdaaGreatDoor
namespace Rows

/-- THE TIED CARD OF 'rehearsallaw15.WorldTells'. -/
def worldTellsCard : Claim7 := { stood := { row := worldTellsRow, standIns := [], harness := (true, "fa5202566a721d552d6d7d840aeadd09bdf3626fca0d61b536a49621dadc5f8e"), looks := true }, kinds := [], alts := [], laidByText := true, laidKinds := [.data, .pinned], laidTests := true, laidLooks := .later }
def WorldTellsCardSaid : Prop := Claim7.holds Tryz.pinned (.plain (OpenSpec.ofChange worldTellsSpec)) worldTellsCard

/-- THE TIED CARD OF 'rehearsallaw30.AccountTells'. -/
def accountTellsCard : Claim7 := { stood := { row := accountTellsRow, standIns := [], harness := (true, "fa5202566a721d552d6d7d840aeadd09bdf3626fca0d61b536a49621dadc5f8e"), looks := true }, kinds := [], alts := [], laidByText := true, laidKinds := [.data, .data, .data, .sentinel, .sentinel], laidTests := true, laidLooks := .later }
def AccountTellsCardSaid : Prop := Claim7.holds Tryz.pinned (.plain (OpenSpec.ofChange accountTellsSpec)) accountTellsCard

/-- THE SECOND FORM's CARD OF 'rehearsallaw15.WorldTells'. -/
def worldTellsUptoCard : Claim7 := { stood := { row := worldTellsUptoRow, standIns := [], harness := (true, "fa5202566a721d552d6d7d840aeadd09bdf3626fca0d61b536a49621dadc5f8e"), looks := true }, kinds := [], alts := [], laidByText := true, laidKinds := [.data, .pinned], laidTests := true, laidLooks := .later }
def WorldTellsUptoCardSaid : Prop := Claim7.holds Tryz.pinned (.plain (OpenSpec.upto worldTellsSpec)) worldTellsUptoCard

/-- THE SECOND FORM's CARD OF 'rehearsallaw30.AccountTells'. -/
def accountTellsUptoCard : Claim7 := { stood := { row := accountTellsUptoRow, standIns := [], harness := (true, "fa5202566a721d552d6d7d840aeadd09bdf3626fca0d61b536a49621dadc5f8e"), looks := true }, kinds := [], alts := [], laidByText := true, laidKinds := [.data, .data, .data, .sentinel, .sentinel], laidTests := true, laidLooks := .later }
def AccountTellsUptoCardSaid : Prop := Claim7.holds Tryz.pinned (.plain (OpenSpec.upto accountTellsSpec)) accountTellsUptoCard
end Rows
end Go.Proofs.YtieelilkkpcmdaaGreatDoor
