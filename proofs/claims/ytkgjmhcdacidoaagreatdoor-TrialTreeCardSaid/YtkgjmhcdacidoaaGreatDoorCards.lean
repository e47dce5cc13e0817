/-
  DERIVED. GIVEN WITH THE SEED: THE CARDS: each row of YtkgjmhcdacidoaaGreatDoorRows.lean that lists a variable, with what it lists TIED to the program's text (the seventh form; the later family's looks); each row that meets fmt, with fmt's text TOLD by the authors' own Lean function (tested against real Go, not proved from fmt's source: count such statements apart). THE CARD IS WHAT COUNTS. Prove the row's statement (the work); the ties are given (YtkgjmhcdacidoaaGreatDoorTie.lean); close each card by the builder's one call (the guide's Derived/Test/ToyasCard.lean, 'card_holds'). Laid BY PROGRAM, IN A SANDBOX (cutbox-door.mjs). By AI agents, Wed Nov 11 2026. No macro, syntax, notation, axiom, sorry.
-/
import Derived.Test.YtkgjmhcdacidoaaGreatDoorRows
import GoSem.ClaimSeven
namespace Go.Proofs.YtkgjmhcdacidoaaGreatDoor
namespace Rows

/-- THE TIED CARD OF 'rehearsallaw18.TrialTime'. -/
def trialTimeCard : Claim7 := { stood := { row := trialTimeRow, standIns := [], harness := (true, "ae6f6c85c47331d3b6b6ad261afd244b7a5d5d098a77ef277e3eee270c424b99"), looks := false }, kinds := [], alts := [], laidByText := true, laidKinds := [.data], laidTests := true, laidLooks := .later }
def TrialTimeCardSaid : Prop := Claim7.holds Tryz.pinned (.plain (OpenSpec.ofChange trialTimeSpec)) trialTimeCard

/-- THE TIED CARD OF 'rehearsallaw18.TrialTree'. -/
def trialTreeCard : Claim7 := { stood := { row := trialTreeRow, standIns := [], harness := (true, "ae6f6c85c47331d3b6b6ad261afd244b7a5d5d098a77ef277e3eee270c424b99"), looks := false }, kinds := [], alts := [], laidByText := true, laidKinds := [.data], laidTests := true, laidLooks := .later }
def TrialTreeCardSaid : Prop := Claim7.holds Tryz.pinned (.plain (OpenSpec.ofChange trialTreeSpec)) trialTreeCard

/-- THE SECOND FORM's CARD OF 'rehearsallaw18.TrialTime'. -/
def trialTimeUptoCard : Claim7 := { stood := { row := trialTimeUptoRow, standIns := [], harness := (true, "ae6f6c85c47331d3b6b6ad261afd244b7a5d5d098a77ef277e3eee270c424b99"), looks := false }, kinds := [], alts := [], laidByText := true, laidKinds := [.data], laidTests := true, laidLooks := .later }
def TrialTimeUptoCardSaid : Prop := Claim7.holds Tryz.pinned (.plain (OpenSpec.upto trialTimeSpec)) trialTimeUptoCard

/-- THE SECOND FORM's CARD OF 'rehearsallaw18.TrialTree'. -/
def trialTreeUptoCard : Claim7 := { stood := { row := trialTreeUptoRow, standIns := [], harness := (true, "ae6f6c85c47331d3b6b6ad261afd244b7a5d5d098a77ef277e3eee270c424b99"), looks := false }, kinds := [], alts := [], laidByText := true, laidKinds := [.data], laidTests := true, laidLooks := .later }
def TrialTreeUptoCardSaid : Prop := Claim7.holds Tryz.pinned (.plain (OpenSpec.upto trialTreeSpec)) trialTreeUptoCard
end Rows
end Go.Proofs.YtkgjmhcdacidoaaGreatDoor
