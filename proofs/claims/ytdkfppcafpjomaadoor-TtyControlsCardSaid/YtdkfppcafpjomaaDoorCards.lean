/-
  DERIVED. GIVEN WITH THE SEED: THE CARDS: each row of YtdkfppcafpjomaaDoorRows.lean that lists a variable, with what it lists TIED to the program's text (the seventh form; the later family's looks); each row that meets fmt, with fmt's text TOLD by the authors' own Lean function (tested against real Go, not proved from fmt's source: count such statements apart). THE CARD IS WHAT COUNTS. Prove the row's statement (the work); the ties are given (YtdkfppcafpjomaaDoorTie.lean); close each card by the builder's one call (the guide's Derived/Test/ToyasCard.lean, 'card_holds'). Laid BY PROGRAM, IN A SANDBOX (cutbox-door.mjs). By AI agents, Wed Nov 11 2026. No macro, syntax, notation, axiom, sorry.
-/
import Derived.Test.YtdkfppcafpjomaaDoorRows
import GoSem.ClaimSeven
namespace Go.Proofs.YtdkfppcafpjomaaDoor
namespace Rows

/-- THE TIED CARD OF 'rehearsallaw26.TtyTimes'. -/
def ttyTimesCard : Claim7 := { stood := { row := ttyTimesRow, standIns := [], harness := (true, "c55ba993f2b1a47e5bc1f2ff7d3efbd4f74ab52b21ba97a1c610c3df25cd3db4"), looks := true }, kinds := [], alts := [], laidByText := true, laidKinds := [.data, .data, .data, .sentinel, .sentinel], laidTests := true, laidLooks := .later }
def TtyTimesCardSaid : Prop := Claim7.holds Tryd.pinned (.plain (OpenSpec.ofChange ttyTimesSpec)) ttyTimesCard

/-- THE TIED CARD OF 'rehearsallaw26.TtyWaits'. -/
def ttyWaitsCard : Claim7 := { stood := { row := ttyWaitsRow, standIns := [], harness := (true, "c55ba993f2b1a47e5bc1f2ff7d3efbd4f74ab52b21ba97a1c610c3df25cd3db4"), looks := true }, kinds := [], alts := [], laidByText := true, laidKinds := [.data, .data, .data, .sentinel, .sentinel], laidTests := true, laidLooks := .later }
def TtyWaitsCardSaid : Prop := Claim7.holds Tryd.pinned (.plain (OpenSpec.ofChange ttyWaitsSpec)) ttyWaitsCard

/-- THE TIED CARD OF 'rehearsallaw26.TtyReads'. -/
def ttyReadsCard : Claim7 := { stood := { row := ttyReadsRow, standIns := [], harness := (true, "c55ba993f2b1a47e5bc1f2ff7d3efbd4f74ab52b21ba97a1c610c3df25cd3db4"), looks := true }, kinds := [], alts := [], laidByText := true, laidKinds := [.data, .data, .data, .sentinel, .sentinel], laidTests := true, laidLooks := .later }
def TtyReadsCardSaid : Prop := Claim7.holds Tryd.pinned (.plain (OpenSpec.ofChange ttyReadsSpec)) ttyReadsCard

/-- THE TIED CARD OF 'rehearsallaw26.TtyControls'. -/
def ttyControlsCard : Claim7 := { stood := { row := ttyControlsRow, standIns := [], harness := (true, "c55ba993f2b1a47e5bc1f2ff7d3efbd4f74ab52b21ba97a1c610c3df25cd3db4"), looks := true }, kinds := [], alts := [], laidByText := true, laidKinds := [.data, .data, .data, .sentinel, .sentinel], laidTests := true, laidLooks := .later }
def TtyControlsCardSaid : Prop := Claim7.holds Tryd.pinned (.plain (OpenSpec.ofChange ttyControlsSpec)) ttyControlsCard

/-- THE SECOND FORM's CARD OF 'rehearsallaw26.TtyTimes'. -/
def ttyTimesUptoCard : Claim7 := { stood := { row := ttyTimesUptoRow, standIns := [], harness := (true, "c55ba993f2b1a47e5bc1f2ff7d3efbd4f74ab52b21ba97a1c610c3df25cd3db4"), looks := true }, kinds := [], alts := [], laidByText := true, laidKinds := [.data, .data, .data, .sentinel, .sentinel], laidTests := true, laidLooks := .later }
def TtyTimesUptoCardSaid : Prop := Claim7.holds Tryd.pinned (.plain (OpenSpec.upto ttyTimesSpec)) ttyTimesUptoCard

/-- THE SECOND FORM's CARD OF 'rehearsallaw26.TtyWaits'. -/
def ttyWaitsUptoCard : Claim7 := { stood := { row := ttyWaitsUptoRow, standIns := [], harness := (true, "c55ba993f2b1a47e5bc1f2ff7d3efbd4f74ab52b21ba97a1c610c3df25cd3db4"), looks := true }, kinds := [], alts := [], laidByText := true, laidKinds := [.data, .data, .data, .sentinel, .sentinel], laidTests := true, laidLooks := .later }
def TtyWaitsUptoCardSaid : Prop := Claim7.holds Tryd.pinned (.plain (OpenSpec.upto ttyWaitsSpec)) ttyWaitsUptoCard

/-- THE SECOND FORM's CARD OF 'rehearsallaw26.TtyReads'. -/
def ttyReadsUptoCard : Claim7 := { stood := { row := ttyReadsUptoRow, standIns := [], harness := (true, "c55ba993f2b1a47e5bc1f2ff7d3efbd4f74ab52b21ba97a1c610c3df25cd3db4"), looks := true }, kinds := [], alts := [], laidByText := true, laidKinds := [.data, .data, .data, .sentinel, .sentinel], laidTests := true, laidLooks := .later }
def TtyReadsUptoCardSaid : Prop := Claim7.holds Tryd.pinned (.plain (OpenSpec.upto ttyReadsSpec)) ttyReadsUptoCard

/-- THE SECOND FORM's CARD OF 'rehearsallaw26.TtyControls'. -/
def ttyControlsUptoCard : Claim7 := { stood := { row := ttyControlsUptoRow, standIns := [], harness := (true, "c55ba993f2b1a47e5bc1f2ff7d3efbd4f74ab52b21ba97a1c610c3df25cd3db4"), looks := true }, kinds := [], alts := [], laidByText := true, laidKinds := [.data, .data, .data, .sentinel, .sentinel], laidTests := true, laidLooks := .later }
def TtyControlsUptoCardSaid : Prop := Claim7.holds Tryd.pinned (.plain (OpenSpec.upto ttyControlsSpec)) ttyControlsUptoCard
end Rows
end Go.Proofs.YtdkfppcafpjomaaDoor
