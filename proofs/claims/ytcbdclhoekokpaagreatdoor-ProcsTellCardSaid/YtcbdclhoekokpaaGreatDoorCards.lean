/-
  DERIVED. GIVEN WITH THE SEED: THE CARDS: each row of YtcbdclhoekokpaaGreatDoorRows.lean that lists a variable, with what it lists TIED to the program's text (the seventh form; the later family's looks); each row that meets fmt, with fmt's text TOLD by the authors' own Lean function (tested against real Go, not proved from fmt's source: count such statements apart). THE CARD IS WHAT COUNTS. Prove the row's statement (the work); the ties are given (YtcbdclhoekokpaaGreatDoorTie.lean); close each card by the builder's one call (the guide's Derived/Test/ToyasCard.lean, 'card_holds'). Laid BY PROGRAM, IN A SANDBOX (cutbox-door.mjs). By AI agents, Wed Nov 11 2026. No macro, syntax, notation, axiom, sorry.
-/
import Derived.Test.YtcbdclhoekokpaaGreatDoorRows
import GoSem.ClaimSeven
namespace Go.Proofs.YtcbdclhoekokpaaGreatDoor
namespace Rows

/-- THE TIED CARD OF 'rehearsallaw28.ProcsKeep'. -/
def procsKeepCard : Claim7 := { stood := { row := procsKeepRow, standIns := [], harness := (true, "ba9f5373afb90ec7b4ae366344c0f21971b2aedf21a37897f62f62f9f51f1e70"), looks := true }, kinds := [], alts := [], laidByText := true, laidKinds := [.data, .data, .data, .sentinel, .sentinel], laidTests := true, laidLooks := .later }
def ProcsKeepCardSaid : Prop := Claim7.holds Tryz.pinned (.plain (OpenSpec.ofChange procsKeepSpec)) procsKeepCard

/-- THE TIED CARD OF 'rehearsallaw28.ProcsNew'. -/
def procsNewCard : Claim7 := { stood := { row := procsNewRow, standIns := [], harness := (true, "ba9f5373afb90ec7b4ae366344c0f21971b2aedf21a37897f62f62f9f51f1e70"), looks := true }, kinds := [], alts := [], laidByText := true, laidKinds := [.data, .data, .data, .sentinel, .sentinel], laidTests := true, laidLooks := .later }
def ProcsNewCardSaid : Prop := Claim7.holds Tryz.pinned (.plain (OpenSpec.ofChange procsNewSpec)) procsNewCard

/-- THE TIED CARD OF 'rehearsallaw28.ProcsOrphans'. -/
def procsOrphansCard : Claim7 := { stood := { row := procsOrphansRow, standIns := [], harness := (true, "ba9f5373afb90ec7b4ae366344c0f21971b2aedf21a37897f62f62f9f51f1e70"), looks := true }, kinds := [], alts := [], laidByText := true, laidKinds := [.data, .data, .data, .sentinel, .sentinel], laidTests := true, laidLooks := .later }
def ProcsOrphansCardSaid : Prop := Claim7.holds Tryz.pinned (.plain (OpenSpec.ofChange procsOrphansSpec)) procsOrphansCard

/-- THE TIED CARD OF 'rehearsallaw28.ProcsBack'. -/
def procsBackCard : Claim7 := { stood := { row := procsBackRow, standIns := [], harness := (true, "ba9f5373afb90ec7b4ae366344c0f21971b2aedf21a37897f62f62f9f51f1e70"), looks := true }, kinds := [], alts := [], laidByText := true, laidKinds := [.data, .data, .data, .sentinel, .sentinel], laidTests := true, laidLooks := .later }
def ProcsBackCardSaid : Prop := Claim7.holds Tryz.pinned (.plain (OpenSpec.ofChange procsBackSpec)) procsBackCard

/-- THE TIED CARD OF 'rehearsallaw28.ProcsTell'. -/
def procsTellCard : Claim7 := { stood := { row := procsTellRow, standIns := [], harness := (true, "ba9f5373afb90ec7b4ae366344c0f21971b2aedf21a37897f62f62f9f51f1e70"), looks := true }, kinds := [], alts := [], laidByText := true, laidKinds := [.data, .data, .data, .sentinel, .sentinel], laidTests := true, laidLooks := .later }
def ProcsTellCardSaid : Prop := Claim7.holds Tryz.pinned (.plain (OpenSpec.ofChange procsTellSpec)) procsTellCard

/-- THE SECOND FORM's CARD OF 'rehearsallaw28.ProcsKeep'. -/
def procsKeepUptoCard : Claim7 := { stood := { row := procsKeepUptoRow, standIns := [], harness := (true, "ba9f5373afb90ec7b4ae366344c0f21971b2aedf21a37897f62f62f9f51f1e70"), looks := true }, kinds := [], alts := [], laidByText := true, laidKinds := [.data, .data, .data, .sentinel, .sentinel], laidTests := true, laidLooks := .later }
def ProcsKeepUptoCardSaid : Prop := Claim7.holds Tryz.pinned (.plain (OpenSpec.upto procsKeepSpec)) procsKeepUptoCard

/-- THE SECOND FORM's CARD OF 'rehearsallaw28.ProcsNew'. -/
def procsNewUptoCard : Claim7 := { stood := { row := procsNewUptoRow, standIns := [], harness := (true, "ba9f5373afb90ec7b4ae366344c0f21971b2aedf21a37897f62f62f9f51f1e70"), looks := true }, kinds := [], alts := [], laidByText := true, laidKinds := [.data, .data, .data, .sentinel, .sentinel], laidTests := true, laidLooks := .later }
def ProcsNewUptoCardSaid : Prop := Claim7.holds Tryz.pinned (.plain (OpenSpec.upto procsNewSpec)) procsNewUptoCard

/-- THE SECOND FORM's CARD OF 'rehearsallaw28.ProcsOrphans'. -/
def procsOrphansUptoCard : Claim7 := { stood := { row := procsOrphansUptoRow, standIns := [], harness := (true, "ba9f5373afb90ec7b4ae366344c0f21971b2aedf21a37897f62f62f9f51f1e70"), looks := true }, kinds := [], alts := [], laidByText := true, laidKinds := [.data, .data, .data, .sentinel, .sentinel], laidTests := true, laidLooks := .later }
def ProcsOrphansUptoCardSaid : Prop := Claim7.holds Tryz.pinned (.plain (OpenSpec.upto procsOrphansSpec)) procsOrphansUptoCard

/-- THE SECOND FORM's CARD OF 'rehearsallaw28.ProcsBack'. -/
def procsBackUptoCard : Claim7 := { stood := { row := procsBackUptoRow, standIns := [], harness := (true, "ba9f5373afb90ec7b4ae366344c0f21971b2aedf21a37897f62f62f9f51f1e70"), looks := true }, kinds := [], alts := [], laidByText := true, laidKinds := [.data, .data, .data, .sentinel, .sentinel], laidTests := true, laidLooks := .later }
def ProcsBackUptoCardSaid : Prop := Claim7.holds Tryz.pinned (.plain (OpenSpec.upto procsBackSpec)) procsBackUptoCard

/-- THE SECOND FORM's CARD OF 'rehearsallaw28.ProcsTell'. -/
def procsTellUptoCard : Claim7 := { stood := { row := procsTellUptoRow, standIns := [], harness := (true, "ba9f5373afb90ec7b4ae366344c0f21971b2aedf21a37897f62f62f9f51f1e70"), looks := true }, kinds := [], alts := [], laidByText := true, laidKinds := [.data, .data, .data, .sentinel, .sentinel], laidTests := true, laidLooks := .later }
def ProcsTellUptoCardSaid : Prop := Claim7.holds Tryz.pinned (.plain (OpenSpec.upto procsTellSpec)) procsTellUptoCard
end Rows
end Go.Proofs.YtcbdclhoekokpaaGreatDoor
