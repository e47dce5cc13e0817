/-
  DERIVED. GIVEN WITH THE SEED: THE CARDS: each row of YtiibgheijbbmaaaGreatDoorRows.lean that lists a variable, with what it lists TIED to the program's text (the seventh form; the later family's looks); each row that meets fmt, with fmt's text TOLD by the authors' own Lean function (tested against real Go, not proved from fmt's source: count such statements apart). THE CARD IS WHAT COUNTS. Prove the row's statement (the work); the ties are given (YtiibgheijbbmaaaGreatDoorTie.lean); close each card by the builder's one call (the guide's Derived/Test/ToyasCard.lean, 'card_holds'). Laid BY PROGRAM, IN A SANDBOX (cutbox-door.mjs). By AI agents, Wed Nov 11 2026. No macro, syntax, notation, axiom, sorry.
-/
import Derived.Test.YtiibgheijbbmaaaGreatDoorRows
import GoSem.ClaimSeven
namespace Go.Proofs.YtiibgheijbbmaaaGreatDoor
namespace Rows

/-- THE TIED CARD OF 'rehearsallaw47.MoveOne'. -/
def moveOneCard : Claim7 := { stood := { row := moveOneRow, standIns := [], harness := (true, "2789a164fa4da8ad83bb7d4dbc08bd1251bb090603369dc755b42a4bb2b213cb"), looks := true }, kinds := [], alts := [], laidByText := true, laidKinds := [.data, .data, .data, .data, .sentinel, .sentinel], laidTests := true, laidLooks := .later }
def MoveOneCardSaid : Prop := Claim7.holds Tryz.pinned (.plain (OpenSpec.ofChange moveOneSpec)) moveOneCard

/-- THE TIED CARD OF 'rehearsallaw47.MoveFails'. -/
def moveFailsCard : Claim7 := { stood := { row := moveFailsRow, standIns := [], harness := (true, "2789a164fa4da8ad83bb7d4dbc08bd1251bb090603369dc755b42a4bb2b213cb"), looks := true }, kinds := [], alts := [], laidByText := true, laidKinds := [.data, .data, .data, .data, .sentinel, .sentinel], laidTests := true, laidLooks := .later }
def MoveFailsCardSaid : Prop := Claim7.holds Tryz.pinned (.plain (OpenSpec.ofChange moveFailsSpec)) moveFailsCard

/-- THE TIED CARD OF 'rehearsallaw47.MoveKeeps'. -/
def moveKeepsCard : Claim7 := { stood := { row := moveKeepsRow, standIns := [], harness := (true, "2789a164fa4da8ad83bb7d4dbc08bd1251bb090603369dc755b42a4bb2b213cb"), looks := true }, kinds := [], alts := [], laidByText := true, laidKinds := [.data, .data, .data, .data, .sentinel, .sentinel], laidTests := true, laidLooks := .later }
def MoveKeepsCardSaid : Prop := Claim7.holds Tryz.pinned (.plain (OpenSpec.ofChange moveKeepsSpec)) moveKeepsCard

/-- THE TIED CARD OF 'rehearsallaw47.MoveEnds'. -/
def moveEndsCard : Claim7 := { stood := { row := moveEndsRow, standIns := [], harness := (true, "2789a164fa4da8ad83bb7d4dbc08bd1251bb090603369dc755b42a4bb2b213cb"), looks := true }, kinds := [], alts := [], laidByText := true, laidKinds := [.data, .data, .data, .data, .sentinel, .sentinel], laidTests := true, laidLooks := .later }
def MoveEndsCardSaid : Prop := Claim7.holds Tryz.pinned (.plain (OpenSpec.ofChange moveEndsSpec)) moveEndsCard

/-- THE SECOND FORM's CARD OF 'rehearsallaw47.MoveOne'. -/
def moveOneUptoCard : Claim7 := { stood := { row := moveOneUptoRow, standIns := [], harness := (true, "2789a164fa4da8ad83bb7d4dbc08bd1251bb090603369dc755b42a4bb2b213cb"), looks := true }, kinds := [], alts := [], laidByText := true, laidKinds := [.data, .data, .data, .data, .sentinel, .sentinel], laidTests := true, laidLooks := .later }
def MoveOneUptoCardSaid : Prop := Claim7.holds Tryz.pinned (.plain (OpenSpec.upto moveOneSpec)) moveOneUptoCard

/-- THE SECOND FORM's CARD OF 'rehearsallaw47.MoveFails'. -/
def moveFailsUptoCard : Claim7 := { stood := { row := moveFailsUptoRow, standIns := [], harness := (true, "2789a164fa4da8ad83bb7d4dbc08bd1251bb090603369dc755b42a4bb2b213cb"), looks := true }, kinds := [], alts := [], laidByText := true, laidKinds := [.data, .data, .data, .data, .sentinel, .sentinel], laidTests := true, laidLooks := .later }
def MoveFailsUptoCardSaid : Prop := Claim7.holds Tryz.pinned (.plain (OpenSpec.upto moveFailsSpec)) moveFailsUptoCard

/-- THE SECOND FORM's CARD OF 'rehearsallaw47.MoveKeeps'. -/
def moveKeepsUptoCard : Claim7 := { stood := { row := moveKeepsUptoRow, standIns := [], harness := (true, "2789a164fa4da8ad83bb7d4dbc08bd1251bb090603369dc755b42a4bb2b213cb"), looks := true }, kinds := [], alts := [], laidByText := true, laidKinds := [.data, .data, .data, .data, .sentinel, .sentinel], laidTests := true, laidLooks := .later }
def MoveKeepsUptoCardSaid : Prop := Claim7.holds Tryz.pinned (.plain (OpenSpec.upto moveKeepsSpec)) moveKeepsUptoCard

/-- THE SECOND FORM's CARD OF 'rehearsallaw47.MoveEnds'. -/
def moveEndsUptoCard : Claim7 := { stood := { row := moveEndsUptoRow, standIns := [], harness := (true, "2789a164fa4da8ad83bb7d4dbc08bd1251bb090603369dc755b42a4bb2b213cb"), looks := true }, kinds := [], alts := [], laidByText := true, laidKinds := [.data, .data, .data, .data, .sentinel, .sentinel], laidTests := true, laidLooks := .later }
def MoveEndsUptoCardSaid : Prop := Claim7.holds Tryz.pinned (.plain (OpenSpec.upto moveEndsSpec)) moveEndsUptoCard
end Rows
end Go.Proofs.YtiibgheijbbmaaaGreatDoor
