/-
  DERIVED. GIVEN WITH THE SEED: THE CARDS: each row of YtgnhfhhmipcgcaaGreatDoorRows.lean that lists a variable, with what it lists TIED to the program's text (the seventh form; the later family's looks); each row that meets fmt, with fmt's text TOLD by the authors' own Lean function (tested against real Go, not proved from fmt's source: count such statements apart). THE CARD IS WHAT COUNTS. Prove the row's statement (the work); the ties are given (YtgnhfhhmipcgcaaGreatDoorTie.lean); close each card by the builder's one call (the guide's Derived/Test/ToyasCard.lean, 'card_holds'). Laid BY PROGRAM, IN A SANDBOX (cutbox-door.mjs). By AI agents, Wed Nov 11 2026. No macro, syntax, notation, axiom, sorry.
-/
import Derived.Test.YtgnhfhhmipcgcaaGreatDoorRows
import GoSem.ClaimSeven
namespace Go.Proofs.YtgnhfhhmipcgcaaGreatDoor
namespace Rows

/-- THE TIED CARD OF 'rehearsallaw25.PipesTell'. -/
def pipesTellCard : Claim7 := { stood := { row := pipesTellRow, standIns := [], harness := (true, "937b5acba54c18e7bf14dd3997998960c9efe74123048c997e6d6527b82ebd0a"), looks := true }, kinds := [], alts := [], laidByText := true, laidKinds := [.data, .data, .data, .sentinel, .sentinel], laidTests := true, laidLooks := .later }
def PipesTellCardSaid : Prop := Claim7.holds Tryz.pinned (.plain (OpenSpec.ofChange pipesTellSpec)) pipesTellCard

/-- THE TIED CARD OF 'rehearsallaw25.PipesApart'. -/
def pipesApartCard : Claim7 := { stood := { row := pipesApartRow, standIns := [], harness := (true, "937b5acba54c18e7bf14dd3997998960c9efe74123048c997e6d6527b82ebd0a"), looks := true }, kinds := [], alts := [], laidByText := true, laidKinds := [.data, .data, .data, .sentinel, .sentinel], laidTests := true, laidLooks := .later }
def PipesApartCardSaid : Prop := Claim7.holds Tryz.pinned (.plain (OpenSpec.ofChange pipesApartSpec)) pipesApartCard

/-- THE SECOND FORM's CARD OF 'rehearsallaw25.PipesTell'. -/
def pipesTellUptoCard : Claim7 := { stood := { row := pipesTellUptoRow, standIns := [], harness := (true, "937b5acba54c18e7bf14dd3997998960c9efe74123048c997e6d6527b82ebd0a"), looks := true }, kinds := [], alts := [], laidByText := true, laidKinds := [.data, .data, .data, .sentinel, .sentinel], laidTests := true, laidLooks := .later }
def PipesTellUptoCardSaid : Prop := Claim7.holds Tryz.pinned (.plain (OpenSpec.upto pipesTellSpec)) pipesTellUptoCard

/-- THE SECOND FORM's CARD OF 'rehearsallaw25.PipesApart'. -/
def pipesApartUptoCard : Claim7 := { stood := { row := pipesApartUptoRow, standIns := [], harness := (true, "937b5acba54c18e7bf14dd3997998960c9efe74123048c997e6d6527b82ebd0a"), looks := true }, kinds := [], alts := [], laidByText := true, laidKinds := [.data, .data, .data, .sentinel, .sentinel], laidTests := true, laidLooks := .later }
def PipesApartUptoCardSaid : Prop := Claim7.holds Tryz.pinned (.plain (OpenSpec.upto pipesApartSpec)) pipesApartUptoCard
end Rows
end Go.Proofs.YtgnhfhhmipcgcaaGreatDoor
