/-
  DERIVED. GIVEN WITH THE SEED: THE CARDS: each row of YtgnhfhhmipcgcaaDoorRows.lean that lists a variable, with what it lists TIED to the program's text (the seventh form; the later family's looks); each row that meets fmt, with fmt's text TOLD by the authors' own Lean function (tested against real Go, not proved from fmt's source: count such statements apart). THE CARD IS WHAT COUNTS. Prove the row's statement (the work); the ties are given (YtgnhfhhmipcgcaaDoorTie.lean); close each card by the builder's one call (the guide's Derived/Test/ToyasCard.lean, 'card_holds'). Laid BY PROGRAM, IN A SANDBOX (cutbox-door.mjs). By AI agents, Wed Nov 11 2026. No macro, syntax, notation, axiom, sorry.
-/
import Derived.Test.YtgnhfhhmipcgcaaDoorRows
import GoSem.ClaimSeven
namespace Go.Proofs.YtgnhfhhmipcgcaaDoor
namespace Rows

/-- THE TIED CARD OF 'rehearsallaw25.PipesFlow'. -/
def pipesFlowCard : Claim7 := { stood := { row := pipesFlowRow, standIns := [], harness := (true, "24c8b8b156d33594cdecd38a6aa86d5fef78239b130e3c5df9ab8ff685209d93"), looks := true }, kinds := [], alts := [], laidByText := true, laidKinds := [.data, .data, .data, .sentinel, .sentinel], laidTests := true, laidLooks := .later }
def PipesFlowCardSaid : Prop := Claim7.holds Tryd.pinned (.plain (OpenSpec.ofChange pipesFlowSpec)) pipesFlowCard

/-- THE TIED CARD OF 'rehearsallaw25.PipesEnds'. -/
def pipesEndsCard : Claim7 := { stood := { row := pipesEndsRow, standIns := [], harness := (true, "24c8b8b156d33594cdecd38a6aa86d5fef78239b130e3c5df9ab8ff685209d93"), looks := true }, kinds := [], alts := [], laidByText := true, laidKinds := [.data, .data, .data, .sentinel, .sentinel], laidTests := true, laidLooks := .later }
def PipesEndsCardSaid : Prop := Claim7.holds Tryd.pinned (.plain (OpenSpec.ofChange pipesEndsSpec)) pipesEndsCard

/-- THE SECOND FORM's CARD OF 'rehearsallaw25.PipesFlow'. -/
def pipesFlowUptoCard : Claim7 := { stood := { row := pipesFlowUptoRow, standIns := [], harness := (true, "24c8b8b156d33594cdecd38a6aa86d5fef78239b130e3c5df9ab8ff685209d93"), looks := true }, kinds := [], alts := [], laidByText := true, laidKinds := [.data, .data, .data, .sentinel, .sentinel], laidTests := true, laidLooks := .later }
def PipesFlowUptoCardSaid : Prop := Claim7.holds Tryd.pinned (.plain (OpenSpec.upto pipesFlowSpec)) pipesFlowUptoCard

/-- THE SECOND FORM's CARD OF 'rehearsallaw25.PipesEnds'. -/
def pipesEndsUptoCard : Claim7 := { stood := { row := pipesEndsUptoRow, standIns := [], harness := (true, "24c8b8b156d33594cdecd38a6aa86d5fef78239b130e3c5df9ab8ff685209d93"), looks := true }, kinds := [], alts := [], laidByText := true, laidKinds := [.data, .data, .data, .sentinel, .sentinel], laidTests := true, laidLooks := .later }
def PipesEndsUptoCardSaid : Prop := Claim7.holds Tryd.pinned (.plain (OpenSpec.upto pipesEndsSpec)) pipesEndsUptoCard
end Rows
end Go.Proofs.YtgnhfhhmipcgcaaDoor
