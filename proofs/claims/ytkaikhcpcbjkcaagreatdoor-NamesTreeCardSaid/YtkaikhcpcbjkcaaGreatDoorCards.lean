/-
  DERIVED. GIVEN WITH THE SEED: THE CARDS: each row of YtkaikhcpcbjkcaaGreatDoorRows.lean that lists a variable, with what it lists TIED to the program's text (the seventh form; the later family's looks); each row that meets fmt, with fmt's text TOLD by the authors' own Lean function (tested against real Go, not proved from fmt's source: count such statements apart). THE CARD IS WHAT COUNTS. Prove the row's statement (the work); the ties are given (YtkaikhcpcbjkcaaGreatDoorTie.lean); close each card by the builder's one call (the guide's Derived/Test/ToyasCard.lean, 'card_holds'). Laid BY PROGRAM, IN A SANDBOX (cutbox-door.mjs). By AI agents, Wed Nov 11 2026. No macro, syntax, notation, axiom, sorry.
-/
import Derived.Test.YtkaikhcpcbjkcaaGreatDoorRows
import GoSem.ClaimSeven
namespace Go.Proofs.YtkaikhcpcbjkcaaGreatDoor
namespace Rows

/-- THE TIED CARD OF 'rehearsallaw23.NamesPaths'. -/
def namesPathsCard : Claim7 := { stood := { row := namesPathsRow, standIns := [], harness := (true, "6bda78f863f2b6c38c6cd4bfea3614ae448476d695ba334ee2c1fa21ff9ddf21"), looks := true }, kinds := [], alts := [], laidByText := true, laidKinds := [.data, .data, .data, .data, .sentinel, .sentinel, .pinned], laidTests := true, laidLooks := .later }
def NamesPathsCardSaid : Prop := Claim7.holds Tryz.pinned (.plain (OpenSpec.ofChange namesPathsSpec)) namesPathsCard

/-- THE TIED CARD OF 'rehearsallaw23.NamesApart'. -/
def namesApartCard : Claim7 := { stood := { row := namesApartRow, standIns := [], harness := (true, "6bda78f863f2b6c38c6cd4bfea3614ae448476d695ba334ee2c1fa21ff9ddf21"), looks := true }, kinds := [], alts := [], laidByText := true, laidKinds := [.data, .data, .data, .data, .sentinel, .sentinel, .pinned], laidTests := true, laidLooks := .later }
def NamesApartCardSaid : Prop := Claim7.holds Tryz.pinned (.plain (OpenSpec.ofChange namesApartSpec)) namesApartCard

/-- THE TIED CARD OF 'rehearsallaw23.NamesTells'. -/
def namesTellsCard : Claim7 := { stood := { row := namesTellsRow, standIns := [], harness := (true, "6bda78f863f2b6c38c6cd4bfea3614ae448476d695ba334ee2c1fa21ff9ddf21"), looks := true }, kinds := [], alts := [], laidByText := true, laidKinds := [.data, .data, .data, .data, .sentinel, .sentinel, .pinned], laidTests := true, laidLooks := .later }
def NamesTellsCardSaid : Prop := Claim7.holds Tryz.pinned (.plain (OpenSpec.ofChange namesTellsSpec)) namesTellsCard

/-- THE TIED CARD OF 'rehearsallaw23.NamesTree'. -/
def namesTreeCard : Claim7 := { stood := { row := namesTreeRow, standIns := [], harness := (true, "6bda78f863f2b6c38c6cd4bfea3614ae448476d695ba334ee2c1fa21ff9ddf21"), looks := true }, kinds := [], alts := [], laidByText := true, laidKinds := [.data, .data, .data, .data, .sentinel, .sentinel, .pinned], laidTests := true, laidLooks := .later }
def NamesTreeCardSaid : Prop := Claim7.holds Tryz.pinned (.plain (OpenSpec.ofChange namesTreeSpec)) namesTreeCard

/-- THE TIED CARD OF 'rehearsallaw23.NamesRename'. -/
def namesRenameCard : Claim7 := { stood := { row := namesRenameRow, standIns := [], harness := (true, "6bda78f863f2b6c38c6cd4bfea3614ae448476d695ba334ee2c1fa21ff9ddf21"), looks := true }, kinds := [], alts := [], laidByText := true, laidKinds := [.data, .data, .data, .data, .sentinel, .sentinel, .pinned], laidTests := true, laidLooks := .later }
def NamesRenameCardSaid : Prop := Claim7.holds Tryz.pinned (.plain (OpenSpec.ofChange namesRenameSpec)) namesRenameCard

/-- THE SECOND FORM's CARD OF 'rehearsallaw23.NamesPaths'. -/
def namesPathsUptoCard : Claim7 := { stood := { row := namesPathsUptoRow, standIns := [], harness := (true, "6bda78f863f2b6c38c6cd4bfea3614ae448476d695ba334ee2c1fa21ff9ddf21"), looks := true }, kinds := [], alts := [], laidByText := true, laidKinds := [.data, .data, .data, .data, .sentinel, .sentinel, .pinned], laidTests := true, laidLooks := .later }
def NamesPathsUptoCardSaid : Prop := Claim7.holds Tryz.pinned (.plain (OpenSpec.upto namesPathsSpec)) namesPathsUptoCard

/-- THE SECOND FORM's CARD OF 'rehearsallaw23.NamesApart'. -/
def namesApartUptoCard : Claim7 := { stood := { row := namesApartUptoRow, standIns := [], harness := (true, "6bda78f863f2b6c38c6cd4bfea3614ae448476d695ba334ee2c1fa21ff9ddf21"), looks := true }, kinds := [], alts := [], laidByText := true, laidKinds := [.data, .data, .data, .data, .sentinel, .sentinel, .pinned], laidTests := true, laidLooks := .later }
def NamesApartUptoCardSaid : Prop := Claim7.holds Tryz.pinned (.plain (OpenSpec.upto namesApartSpec)) namesApartUptoCard

/-- THE SECOND FORM's CARD OF 'rehearsallaw23.NamesTells'. -/
def namesTellsUptoCard : Claim7 := { stood := { row := namesTellsUptoRow, standIns := [], harness := (true, "6bda78f863f2b6c38c6cd4bfea3614ae448476d695ba334ee2c1fa21ff9ddf21"), looks := true }, kinds := [], alts := [], laidByText := true, laidKinds := [.data, .data, .data, .data, .sentinel, .sentinel, .pinned], laidTests := true, laidLooks := .later }
def NamesTellsUptoCardSaid : Prop := Claim7.holds Tryz.pinned (.plain (OpenSpec.upto namesTellsSpec)) namesTellsUptoCard

/-- THE SECOND FORM's CARD OF 'rehearsallaw23.NamesTree'. -/
def namesTreeUptoCard : Claim7 := { stood := { row := namesTreeUptoRow, standIns := [], harness := (true, "6bda78f863f2b6c38c6cd4bfea3614ae448476d695ba334ee2c1fa21ff9ddf21"), looks := true }, kinds := [], alts := [], laidByText := true, laidKinds := [.data, .data, .data, .data, .sentinel, .sentinel, .pinned], laidTests := true, laidLooks := .later }
def NamesTreeUptoCardSaid : Prop := Claim7.holds Tryz.pinned (.plain (OpenSpec.upto namesTreeSpec)) namesTreeUptoCard

/-- THE SECOND FORM's CARD OF 'rehearsallaw23.NamesRename'. -/
def namesRenameUptoCard : Claim7 := { stood := { row := namesRenameUptoRow, standIns := [], harness := (true, "6bda78f863f2b6c38c6cd4bfea3614ae448476d695ba334ee2c1fa21ff9ddf21"), looks := true }, kinds := [], alts := [], laidByText := true, laidKinds := [.data, .data, .data, .data, .sentinel, .sentinel, .pinned], laidTests := true, laidLooks := .later }
def NamesRenameUptoCardSaid : Prop := Claim7.holds Tryz.pinned (.plain (OpenSpec.upto namesRenameSpec)) namesRenameUptoCard
end Rows
end Go.Proofs.YtkaikhcpcbjkcaaGreatDoor
