/-
  DERIVED. GIVEN WITH THE SEED: THE CARDS: each row of YtkcjfoaejijdoaaGreatDoorRows.lean that lists a variable, with what it lists TIED to the program's text (the seventh form; the later family's looks); each row that meets fmt, with fmt's text TOLD by the authors' own Lean function (tested against real Go, not proved from fmt's source: count such statements apart). THE CARD IS WHAT COUNTS. Prove the row's statement (the work); the ties are given (YtkcjfoaejijdoaaGreatDoorTie.lean); close each card by the builder's one call (the guide's Derived/Test/ToyasCard.lean, 'card_holds'). Laid BY PROGRAM, IN A SANDBOX (cutbox-door.mjs). By AI agents, Wed Nov 11 2026. No macro, syntax, notation, axiom, sorry.
-/
import Derived.Test.YtkcjfoaejijdoaaGreatDoorRows
import GoSem.ClaimSeven
namespace Go.Proofs.YtkcjfoaejijdoaaGreatDoor
namespace Rows

/-- THE TIED CARD OF 'rehearsallaw17.LeavesBytes'. -/
def leavesBytesCard : Claim7 := { stood := { row := leavesBytesRow, standIns := [], harness := (true, "d14c5f50e90ba6f5beaa139253c7448448272def800e7b5f5de09f3d238bab44"), looks := true }, kinds := [], alts := [], laidByText := true, laidKinds := [.data], laidTests := true, laidLooks := .later }
def LeavesBytesCardSaid : Prop := Claim7.holds Tryz.pinned (.plain (OpenSpec.ofChange leavesBytesSpec)) leavesBytesCard

/-- THE TIED CARD OF 'rehearsallaw17.LeavesRefs'. -/
def leavesRefsCard : Claim7 := { stood := { row := leavesRefsRow, standIns := [], harness := (true, "d14c5f50e90ba6f5beaa139253c7448448272def800e7b5f5de09f3d238bab44"), looks := true }, kinds := [], alts := [], laidByText := true, laidKinds := [.data], laidTests := true, laidLooks := .later }
def LeavesRefsCardSaid : Prop := Claim7.holds Tryz.pinned (.plain (OpenSpec.ofChange leavesRefsSpec)) leavesRefsCard

/-- THE TIED CARD OF 'rehearsallaw17.LeavesMerge'. -/
def leavesMergeCard : Claim7 := { stood := { row := leavesMergeRow, standIns := [], harness := (true, "d14c5f50e90ba6f5beaa139253c7448448272def800e7b5f5de09f3d238bab44"), looks := true }, kinds := [], alts := [], laidByText := true, laidKinds := [.data], laidTests := true, laidLooks := .later }
def LeavesMergeCardSaid : Prop := Claim7.holds Tryz.pinned (.plain (OpenSpec.ofChange leavesMergeSpec)) leavesMergeCard

/-- THE TIED CARD OF 'rehearsallaw17.LeavesFlat'. -/
def leavesFlatCard : Claim7 := { stood := { row := leavesFlatRow, standIns := [], harness := (true, "d14c5f50e90ba6f5beaa139253c7448448272def800e7b5f5de09f3d238bab44"), looks := true }, kinds := [], alts := [], laidByText := true, laidKinds := [.data, .data, .pinned], laidTests := true, laidLooks := .later }
def LeavesFlatCardSaid : Prop := Claim7.holds Tryz.pinned (.plain (OpenSpec.ofChange leavesFlatSpec)) leavesFlatCard

/-- THE TIED CARD OF 'rehearsallaw17.LeavesNested'. -/
def leavesNestedCard : Claim7 := { stood := { row := leavesNestedRow, standIns := [], harness := (true, "d14c5f50e90ba6f5beaa139253c7448448272def800e7b5f5de09f3d238bab44"), looks := true }, kinds := [], alts := [], laidByText := true, laidKinds := [.data, .data, .pinned], laidTests := true, laidLooks := .later }
def LeavesNestedCardSaid : Prop := Claim7.holds Tryz.pinned (.plain (OpenSpec.ofChange leavesNestedSpec)) leavesNestedCard

/-- THE SECOND FORM's CARD OF 'rehearsallaw17.LeavesBytes'. -/
def leavesBytesUptoCard : Claim7 := { stood := { row := leavesBytesUptoRow, standIns := [], harness := (true, "d14c5f50e90ba6f5beaa139253c7448448272def800e7b5f5de09f3d238bab44"), looks := true }, kinds := [], alts := [], laidByText := true, laidKinds := [.data], laidTests := true, laidLooks := .later }
def LeavesBytesUptoCardSaid : Prop := Claim7.holds Tryz.pinned (.plain (OpenSpec.upto leavesBytesSpec)) leavesBytesUptoCard

/-- THE SECOND FORM's CARD OF 'rehearsallaw17.LeavesRefs'. -/
def leavesRefsUptoCard : Claim7 := { stood := { row := leavesRefsUptoRow, standIns := [], harness := (true, "d14c5f50e90ba6f5beaa139253c7448448272def800e7b5f5de09f3d238bab44"), looks := true }, kinds := [], alts := [], laidByText := true, laidKinds := [.data], laidTests := true, laidLooks := .later }
def LeavesRefsUptoCardSaid : Prop := Claim7.holds Tryz.pinned (.plain (OpenSpec.upto leavesRefsSpec)) leavesRefsUptoCard

/-- THE SECOND FORM's CARD OF 'rehearsallaw17.LeavesMerge'. -/
def leavesMergeUptoCard : Claim7 := { stood := { row := leavesMergeUptoRow, standIns := [], harness := (true, "d14c5f50e90ba6f5beaa139253c7448448272def800e7b5f5de09f3d238bab44"), looks := true }, kinds := [], alts := [], laidByText := true, laidKinds := [.data], laidTests := true, laidLooks := .later }
def LeavesMergeUptoCardSaid : Prop := Claim7.holds Tryz.pinned (.plain (OpenSpec.upto leavesMergeSpec)) leavesMergeUptoCard

/-- THE SECOND FORM's CARD OF 'rehearsallaw17.LeavesFlat'. -/
def leavesFlatUptoCard : Claim7 := { stood := { row := leavesFlatUptoRow, standIns := [], harness := (true, "d14c5f50e90ba6f5beaa139253c7448448272def800e7b5f5de09f3d238bab44"), looks := true }, kinds := [], alts := [], laidByText := true, laidKinds := [.data, .data, .pinned], laidTests := true, laidLooks := .later }
def LeavesFlatUptoCardSaid : Prop := Claim7.holds Tryz.pinned (.plain (OpenSpec.upto leavesFlatSpec)) leavesFlatUptoCard

/-- THE SECOND FORM's CARD OF 'rehearsallaw17.LeavesNested'. -/
def leavesNestedUptoCard : Claim7 := { stood := { row := leavesNestedUptoRow, standIns := [], harness := (true, "d14c5f50e90ba6f5beaa139253c7448448272def800e7b5f5de09f3d238bab44"), looks := true }, kinds := [], alts := [], laidByText := true, laidKinds := [.data, .data, .pinned], laidTests := true, laidLooks := .later }
def LeavesNestedUptoCardSaid : Prop := Claim7.holds Tryz.pinned (.plain (OpenSpec.upto leavesNestedSpec)) leavesNestedUptoCard
end Rows
end Go.Proofs.YtkcjfoaejijdoaaGreatDoor
