/-
  DERIVED. GIVEN WITH THE SEED: THE CARDS: each row of YtieelilkkpcmdaaDoorRows.lean that lists a variable, with what it lists TIED to the program's text (the seventh form; the later family's looks); each row that meets fmt, with fmt's text TOLD by the authors' own Lean function (tested against real Go, not proved from fmt's source: count such statements apart). THE CARD IS WHAT COUNTS. Prove the row's statement (the work); the ties are given (YtieelilkkpcmdaaDoorTie.lean); close each card by the builder's one call (the guide's Derived/Test/ToyasCard.lean, 'card_holds'). Laid BY PROGRAM, IN A SANDBOX (cutbox-door.mjs). By AI agents, Wed Nov 11 2026. No macro, syntax, notation, axiom, sorry.
-/
import Derived.Test.YtieelilkkpcmdaaDoorRows
import GoSem.ClaimSeven
namespace Go.Proofs.YtieelilkkpcmdaaDoor
namespace Rows

/-- THE TIED CARD OF 'rehearsallaw15.WorldApart'. -/
def worldApartCard : Claim7 := { stood := { row := worldApartRow, standIns := [], harness := (true, "a6699930eaa6bacec6650c945addc00c50057c125e443b17c433006b04c96c03"), looks := true }, kinds := [], alts := [], laidByText := true, laidKinds := [.data, .pinned], laidTests := true, laidLooks := .later }
def WorldApartCardSaid : Prop := Claim7.holds Tryd.pinned (.plain (OpenSpec.ofChange worldApartSpec)) worldApartCard

/-- THE TIED CARD OF 'rehearsallaw15.WorldPages'. -/
def worldPagesCard : Claim7 := { stood := { row := worldPagesRow, standIns := [], harness := (true, "a6699930eaa6bacec6650c945addc00c50057c125e443b17c433006b04c96c03"), looks := true }, kinds := [], alts := [], laidByText := true, laidKinds := [.data, .pinned], laidTests := true, laidLooks := .later }
def WorldPagesCardSaid : Prop := Claim7.holds Tryd.pinned (.plain (OpenSpec.ofChange worldPagesSpec)) worldPagesCard

/-- THE TIED CARD OF 'rehearsallaw15.WorldClones'. -/
def worldClonesCard : Claim7 := { stood := { row := worldClonesRow, standIns := [], harness := (true, "a6699930eaa6bacec6650c945addc00c50057c125e443b17c433006b04c96c03"), looks := true }, kinds := [], alts := [], laidByText := true, laidKinds := [.data, .pinned], laidTests := true, laidLooks := .later }
def WorldClonesCardSaid : Prop := Claim7.holds Tryd.pinned (.plain (OpenSpec.ofChange worldClonesSpec)) worldClonesCard

/-- THE TIED CARD OF 'rehearsallaw30.AccountAdds'. -/
def accountAddsCard : Claim7 := { stood := { row := accountAddsRow, standIns := [], harness := (true, "a6699930eaa6bacec6650c945addc00c50057c125e443b17c433006b04c96c03"), looks := true }, kinds := [], alts := [], laidByText := true, laidKinds := [.data, .data, .data, .sentinel, .sentinel], laidTests := true, laidLooks := .later }
def AccountAddsCardSaid : Prop := Claim7.holds Tryd.pinned (.plain (OpenSpec.ofChange accountAddsSpec)) accountAddsCard

/-- THE TIED CARD OF 'rehearsallaw30.AccountCosts'. -/
def accountCostsCard : Claim7 := { stood := { row := accountCostsRow, standIns := [], harness := (true, "a6699930eaa6bacec6650c945addc00c50057c125e443b17c433006b04c96c03"), looks := true }, kinds := [], alts := [], laidByText := true, laidKinds := [.data, .data, .data, .sentinel, .sentinel], laidTests := true, laidLooks := .later }
def AccountCostsCardSaid : Prop := Claim7.holds Tryd.pinned (.plain (OpenSpec.ofChange accountCostsSpec)) accountCostsCard

/-- THE TIED CARD OF 'rehearsallaw30.AccountApart'. -/
def accountApartCard : Claim7 := { stood := { row := accountApartRow, standIns := [], harness := (true, "a6699930eaa6bacec6650c945addc00c50057c125e443b17c433006b04c96c03"), looks := true }, kinds := [], alts := [], laidByText := true, laidKinds := [.data, .data, .data, .sentinel, .sentinel], laidTests := true, laidLooks := .later }
def AccountApartCardSaid : Prop := Claim7.holds Tryd.pinned (.plain (OpenSpec.ofChange accountApartSpec)) accountApartCard

/-- THE SECOND FORM's CARD OF 'rehearsallaw15.WorldApart'. -/
def worldApartUptoCard : Claim7 := { stood := { row := worldApartUptoRow, standIns := [], harness := (true, "a6699930eaa6bacec6650c945addc00c50057c125e443b17c433006b04c96c03"), looks := true }, kinds := [], alts := [], laidByText := true, laidKinds := [.data, .pinned], laidTests := true, laidLooks := .later }
def WorldApartUptoCardSaid : Prop := Claim7.holds Tryd.pinned (.plain (OpenSpec.upto worldApartSpec)) worldApartUptoCard

/-- THE SECOND FORM's CARD OF 'rehearsallaw15.WorldPages'. -/
def worldPagesUptoCard : Claim7 := { stood := { row := worldPagesUptoRow, standIns := [], harness := (true, "a6699930eaa6bacec6650c945addc00c50057c125e443b17c433006b04c96c03"), looks := true }, kinds := [], alts := [], laidByText := true, laidKinds := [.data, .pinned], laidTests := true, laidLooks := .later }
def WorldPagesUptoCardSaid : Prop := Claim7.holds Tryd.pinned (.plain (OpenSpec.upto worldPagesSpec)) worldPagesUptoCard

/-- THE SECOND FORM's CARD OF 'rehearsallaw15.WorldClones'. -/
def worldClonesUptoCard : Claim7 := { stood := { row := worldClonesUptoRow, standIns := [], harness := (true, "a6699930eaa6bacec6650c945addc00c50057c125e443b17c433006b04c96c03"), looks := true }, kinds := [], alts := [], laidByText := true, laidKinds := [.data, .pinned], laidTests := true, laidLooks := .later }
def WorldClonesUptoCardSaid : Prop := Claim7.holds Tryd.pinned (.plain (OpenSpec.upto worldClonesSpec)) worldClonesUptoCard

/-- THE SECOND FORM's CARD OF 'rehearsallaw30.AccountAdds'. -/
def accountAddsUptoCard : Claim7 := { stood := { row := accountAddsUptoRow, standIns := [], harness := (true, "a6699930eaa6bacec6650c945addc00c50057c125e443b17c433006b04c96c03"), looks := true }, kinds := [], alts := [], laidByText := true, laidKinds := [.data, .data, .data, .sentinel, .sentinel], laidTests := true, laidLooks := .later }
def AccountAddsUptoCardSaid : Prop := Claim7.holds Tryd.pinned (.plain (OpenSpec.upto accountAddsSpec)) accountAddsUptoCard

/-- THE SECOND FORM's CARD OF 'rehearsallaw30.AccountCosts'. -/
def accountCostsUptoCard : Claim7 := { stood := { row := accountCostsUptoRow, standIns := [], harness := (true, "a6699930eaa6bacec6650c945addc00c50057c125e443b17c433006b04c96c03"), looks := true }, kinds := [], alts := [], laidByText := true, laidKinds := [.data, .data, .data, .sentinel, .sentinel], laidTests := true, laidLooks := .later }
def AccountCostsUptoCardSaid : Prop := Claim7.holds Tryd.pinned (.plain (OpenSpec.upto accountCostsSpec)) accountCostsUptoCard

/-- THE SECOND FORM's CARD OF 'rehearsallaw30.AccountApart'. -/
def accountApartUptoCard : Claim7 := { stood := { row := accountApartUptoRow, standIns := [], harness := (true, "a6699930eaa6bacec6650c945addc00c50057c125e443b17c433006b04c96c03"), looks := true }, kinds := [], alts := [], laidByText := true, laidKinds := [.data, .data, .data, .sentinel, .sentinel], laidTests := true, laidLooks := .later }
def AccountApartUptoCardSaid : Prop := Claim7.holds Tryd.pinned (.plain (OpenSpec.upto accountApartSpec)) accountApartUptoCard
end Rows
end Go.Proofs.YtieelilkkpcmdaaDoor
