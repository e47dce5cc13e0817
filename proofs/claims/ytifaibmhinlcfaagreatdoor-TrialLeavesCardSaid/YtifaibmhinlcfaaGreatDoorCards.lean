/-
  DERIVED. GIVEN WITH THE SEED: THE CARDS: each row of YtifaibmhinlcfaaGreatDoorRows.lean that lists a variable, with what it lists TIED to the program's text (the seventh form; the later family's looks); each row that meets fmt, with fmt's text TOLD by the authors' own Lean function (tested against real Go, not proved from fmt's source: count such statements apart). THE CARD IS WHAT COUNTS. Prove the row's statement (the work); the ties are given (YtifaibmhinlcfaaGreatDoorTie.lean); close each card by the builder's one call (the guide's Derived/Test/ToyasCard.lean, 'card_holds'). Laid BY PROGRAM, IN A SANDBOX (cutbox-door.mjs). By AI agents, Wed Nov 11 2026. No macro, syntax, notation, axiom, sorry.
-/
import Derived.Test.YtifaibmhinlcfaaGreatDoorRows
import GoSem.ClaimSeven
namespace Go.Proofs.YtifaibmhinlcfaaGreatDoor
namespace Rows

/-- THE TIED CARD OF 'rehearsallaw18.TrialLeaves'. -/
def trialLeavesCard : Claim7 := { stood := { row := trialLeavesRow, standIns := [], harness := (true, "582b80db200077d6d014dfb0bbd5157d4251e4a16076ea2fcd27c0fe9d2ae777"), looks := true }, kinds := [], alts := [], laidByText := true, laidKinds := [.data], laidTests := true, laidLooks := .later }
def TrialLeavesCardSaid : Prop := Claim7.holds Tryz.pinned (.plain (OpenSpec.ofChange trialLeavesSpec)) trialLeavesCard

/-- THE SECOND FORM's CARD OF 'rehearsallaw18.TrialLeaves'. -/
def trialLeavesUptoCard : Claim7 := { stood := { row := trialLeavesUptoRow, standIns := [], harness := (true, "582b80db200077d6d014dfb0bbd5157d4251e4a16076ea2fcd27c0fe9d2ae777"), looks := true }, kinds := [], alts := [], laidByText := true, laidKinds := [.data], laidTests := true, laidLooks := .later }
def TrialLeavesUptoCardSaid : Prop := Claim7.holds Tryz.pinned (.plain (OpenSpec.upto trialLeavesSpec)) trialLeavesUptoCard
end Rows
end Go.Proofs.YtifaibmhinlcfaaGreatDoor
