/-
  DERIVED. GIVEN WITH THE SEED: THE CARDS: each row of YtdkfppcafpjomaaGreatDoorRows.lean that lists a variable, with what it lists TIED to the program's text (the seventh form; the later family's looks); each row that meets fmt, with fmt's text TOLD by the authors' own Lean function (tested against real Go, not proved from fmt's source: count such statements apart). THE CARD IS WHAT COUNTS. Prove the row's statement (the work); the ties are given (YtdkfppcafpjomaaGreatDoorTie.lean); close each card by the builder's one call (the guide's Derived/Test/ToyasCard.lean, 'card_holds'). Laid BY PROGRAM, IN A SANDBOX (cutbox-door.mjs). By AI agents, Wed Nov 11 2026. No macro, syntax, notation, axiom, sorry.
-/
import Derived.Test.YtdkfppcafpjomaaGreatDoorRows
import GoSem.ClaimSeven
namespace Go.Proofs.YtdkfppcafpjomaaGreatDoor
namespace Rows

/-- THE TIED CARD OF 'rehearsallaw26.TtyTells'. -/
def ttyTellsCard : Claim7 := { stood := { row := ttyTellsRow, standIns := [], harness := (true, "d09671f66d5dbf19873bb67f550c48133b4221b4930b7236523c2f743f91eb9b"), looks := true }, kinds := [], alts := [], laidByText := true, laidKinds := [.data, .data, .data, .sentinel, .sentinel], laidTests := true, laidLooks := .later }
def TtyTellsCardSaid : Prop := Claim7.holds Tryz.pinned (.plain (OpenSpec.ofChange ttyTellsSpec)) ttyTellsCard

/-- THE SECOND FORM's CARD OF 'rehearsallaw26.TtyTells'. -/
def ttyTellsUptoCard : Claim7 := { stood := { row := ttyTellsUptoRow, standIns := [], harness := (true, "d09671f66d5dbf19873bb67f550c48133b4221b4930b7236523c2f743f91eb9b"), looks := true }, kinds := [], alts := [], laidByText := true, laidKinds := [.data, .data, .data, .sentinel, .sentinel], laidTests := true, laidLooks := .later }
def TtyTellsUptoCardSaid : Prop := Claim7.holds Tryz.pinned (.plain (OpenSpec.upto ttyTellsSpec)) ttyTellsUptoCard
end Rows
end Go.Proofs.YtdkfppcafpjomaaGreatDoor
