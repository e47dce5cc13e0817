/-
  No cell of these rows narrows 'for every input' (looked for: loops, veiled, ifaces, maps, wideKeys, modest, calm, conditions, laid).
  DERIVED. THE GIVEN ROWS OF THIS SEAT. 5 by the template 'for every input the law returns true; each argument reads behind the call as it read before'; 0 by the template 'total and deterministic' (their statements: YtnicmcdeoimhlaaGreatTotals.lean).
  GIVEN WITH THE SEED: the statements are not yours to turn. If you find one false, say at which input.
  Laid BY PROGRAM, IN A SANDBOX (cutbox-rows.mjs): the forced cells as the released guide's own fill.sh prints them over the translation f3b8c45ee7e88e0c… (all of the seat's roots in one cut). By AI agents, Wed Nov 11 2026. No macro, syntax, notation, axiom, sorry.
-/
import Derived.Test.YtnicmcdeoimhlaaGreatChecked
import GoSem.Claim
import GoSem.ClaimJoined
import GoSem.ClaimMapViews
import Derived.JoinedTies
import Derived.KernelRfl
namespace Go.Proofs.YtnicmcdeoimhlaaGreat
/- THE CELL 'sum', in the pinned program and in every row, IS THE sha256 OF THE DUMP (.gsa) THAT YtnicmcdeoimhlaaGreatProg.lean LOADS. Nothing in Lean hashes anything: it is a label: what it is worth is what the hold of that sum in a sandbox is worth. -/
noncomputable def Tryz.pinned : Pinned := { name := "ytnicmcdeoimhlaagreat", sum := "f3b8c45ee7e88e0cd37587ebf63aa17a45fefccb5309a7a1aa041dfc50e91ac7", checked := Tryz.checked }
namespace Rows
def none {H : Type} : Left H := { results := [], args := [] }

/-- 'rehearsallaw11.SheetsKeep': WHATEVER THE INPUT: true; the input reads as it did. -/
def sheetsKeepSpec : ChangeSpec := { name := "sheetsKeep", fn := fun _ => fun
  | [d1, d2, d3, d4] => { results := [.lit (.bool true)], args := [d1, d2, d3, d4] }
  | _ => none }
def sheetsKeepRow : OpenClaim := { program := "ytnicmcdeoimhlaagreat", sum := "f3b8c45ee7e88e0cd37587ebf63aa17a45fefccb5309a7a1aa041dfc50e91ac7", func := "rehearsal/rehearsallaw11.SheetsKeep", spec := "sheetsKeep", inPlace := ["internal/abi.NoEscape"], unfollowed := true, recurses := true, apart := false }
def SheetsKeepSaid : Prop := sheetsKeepRow.holds Tryz.pinned (OpenSpec.ofChange sheetsKeepSpec)

/-- ITS FALSE NEIGHBOUR: 'it returns false'. Refute it at one input. -/
def sheetsKeepWrong : ChangeSpec := { name := "sheetsKeep", fn := fun _ => fun
  | [d1, d2, d3, d4] => { results := [.lit (.bool false)], args := [d1, d2, d3, d4] }
  | _ => none }
def SheetsKeepWrongFalsely : Prop := sheetsKeepRow.holds Tryz.pinned (OpenSpec.ofChange sheetsKeepWrong)

/-- 'rehearsallaw11.SheetsPlaces': WHATEVER THE INPUT: true; the input reads as it did. -/
def sheetsPlacesSpec : ChangeSpec := { name := "sheetsPlaces", fn := fun _ => fun
  | [d1, d2, d3, d4] => { results := [.lit (.bool true)], args := [d1, d2, d3, d4] }
  | _ => none }
def sheetsPlacesRow : OpenClaim := { program := "ytnicmcdeoimhlaagreat", sum := "f3b8c45ee7e88e0cd37587ebf63aa17a45fefccb5309a7a1aa041dfc50e91ac7", func := "rehearsal/rehearsallaw11.SheetsPlaces", spec := "sheetsPlaces", inPlace := ["internal/abi.NoEscape"], unfollowed := true, recurses := true, apart := false }
def SheetsPlacesSaid : Prop := sheetsPlacesRow.holds Tryz.pinned (OpenSpec.ofChange sheetsPlacesSpec)

/-- ITS FALSE NEIGHBOUR: 'it returns false'. Refute it at one input. -/
def sheetsPlacesWrong : ChangeSpec := { name := "sheetsPlaces", fn := fun _ => fun
  | [d1, d2, d3, d4] => { results := [.lit (.bool false)], args := [d1, d2, d3, d4] }
  | _ => none }
def SheetsPlacesWrongFalsely : Prop := sheetsPlacesRow.holds Tryz.pinned (OpenSpec.ofChange sheetsPlacesWrong)

/-- 'rehearsallaw11.SheetsTaken': WHATEVER THE INPUT: true; the input reads as it did. -/
def sheetsTakenSpec : ChangeSpec := { name := "sheetsTaken", fn := fun _ => fun
  | [d1, d2, d3, d4] => { results := [.lit (.bool true)], args := [d1, d2, d3, d4] }
  | _ => none }
def sheetsTakenRow : OpenClaim := { program := "ytnicmcdeoimhlaagreat", sum := "f3b8c45ee7e88e0cd37587ebf63aa17a45fefccb5309a7a1aa041dfc50e91ac7", func := "rehearsal/rehearsallaw11.SheetsTaken", spec := "sheetsTaken", inPlace := ["internal/abi.NoEscape"], unfollowed := true, recurses := true, apart := false }
def SheetsTakenSaid : Prop := sheetsTakenRow.holds Tryz.pinned (OpenSpec.ofChange sheetsTakenSpec)

/-- ITS FALSE NEIGHBOUR: 'it returns false'. Refute it at one input. -/
def sheetsTakenWrong : ChangeSpec := { name := "sheetsTaken", fn := fun _ => fun
  | [d1, d2, d3, d4] => { results := [.lit (.bool false)], args := [d1, d2, d3, d4] }
  | _ => none }
def SheetsTakenWrongFalsely : Prop := sheetsTakenRow.holds Tryz.pinned (OpenSpec.ofChange sheetsTakenWrong)

/-- 'rehearsallaw11.SheetsBring': WHATEVER THE INPUT: true; the input reads as it did. -/
def sheetsBringSpec : ChangeSpec := { name := "sheetsBring", fn := fun _ => fun
  | [d1, d2, d3, d4, d5] => { results := [.lit (.bool true)], args := [d1, d2, d3, d4, d5] }
  | _ => none }
def sheetsBringRow : OpenClaim := { program := "ytnicmcdeoimhlaagreat", sum := "f3b8c45ee7e88e0cd37587ebf63aa17a45fefccb5309a7a1aa041dfc50e91ac7", func := "rehearsal/rehearsallaw11.SheetsBring", spec := "sheetsBring", inPlace := ["internal/abi.NoEscape", "maps.clone"], unfollowed := true, recurses := true, apart := false }
def SheetsBringSaid : Prop := sheetsBringRow.holds Tryz.pinned (OpenSpec.ofChange sheetsBringSpec)

/-- ITS FALSE NEIGHBOUR: 'it returns false'. Refute it at one input. -/
def sheetsBringWrong : ChangeSpec := { name := "sheetsBring", fn := fun _ => fun
  | [d1, d2, d3, d4, d5] => { results := [.lit (.bool false)], args := [d1, d2, d3, d4, d5] }
  | _ => none }
def SheetsBringWrongFalsely : Prop := sheetsBringRow.holds Tryz.pinned (OpenSpec.ofChange sheetsBringWrong)

/-- 'rehearsallaw11.SheetsGone': WHATEVER THE INPUT: true; the input reads as it did. -/
def sheetsGoneSpec : ChangeSpec := { name := "sheetsGone", fn := fun _ => fun
  | [d1, d2, d3, d4] => { results := [.lit (.bool true)], args := [d1, d2, d3, d4] }
  | _ => none }
def sheetsGoneRow : OpenClaim := { program := "ytnicmcdeoimhlaagreat", sum := "f3b8c45ee7e88e0cd37587ebf63aa17a45fefccb5309a7a1aa041dfc50e91ac7", func := "rehearsal/rehearsallaw11.SheetsGone", spec := "sheetsGone", inPlace := ["internal/abi.NoEscape", "maps.clone"], unfollowed := true, recurses := true, apart := false }
def SheetsGoneSaid : Prop := sheetsGoneRow.holds Tryz.pinned (OpenSpec.ofChange sheetsGoneSpec)

/-- ITS FALSE NEIGHBOUR: 'it returns false'. Refute it at one input. -/
def sheetsGoneWrong : ChangeSpec := { name := "sheetsGone", fn := fun _ => fun
  | [d1, d2, d3, d4] => { results := [.lit (.bool false)], args := [d1, d2, d3, d4] }
  | _ => none }
def SheetsGoneWrongFalsely : Prop := sheetsGoneRow.holds Tryz.pinned (OpenSpec.ofChange sheetsGoneWrong)

/- THE SECOND FORM. 'bulk': how many values and letters a reading holds, each counted each time it is reached (what is shared counts as often as it is met; a slice's spare places count too). A statement '..UptoSaid' is the law's where the arguments, and the package variables that the reading takes, are together of bulk at most 1048576: NARROWER than '..Said'. Prove '..Said' where nothing that the law and all that it calls make is longer than what came in: it says more and counts as full. Else prove '..UptoSaid'. A law counts once. -/
mutual
def uptoBulk {H : Type} : DataW H → Nat
  | .lit (.string bytes) => bytes.length + 1
  | .lit _ => 1
  | .nil => 1
  | .ptr d => uptoBulk d + 1
  | .slice elems spare => uptoBulkAll elems + uptoBulkAll spare + 1
  | .agg parts => uptoBulkAll parts + 1
  | .iface _ d => uptoBulk d + 1
  | .map entries => uptoBulkEntries entries + 1
  | .held _ => 1
def uptoBulkAll {H : Type} : List (DataW H) → Nat
  | [] => 0
  | d :: r => uptoBulk d + uptoBulkAll r
def uptoBulkEntries {H : Type} : List (Lit × DataW H) → Nat
  | [] => 0
  | x :: r => uptoBulkEntry x + uptoBulkEntries r
def uptoBulkEntry {H : Type} : Lit × DataW H → Nat
  | (.string bytes, d) => bytes.length + uptoBulk d + 1
  | (_, d) => uptoBulk d + 1
 end
def uptoSmall : (H : Type) → List (DataW H) → Bool := fun _ ds => decide (uptoBulkAll ds ≤ 1048576)
def OpenSpec.upto (s : _root_.Go.ChangeSpec) : _root_.Go.OpenSpec := { _root_.Go.OpenSpec.ofChange s with cond := some uptoSmall }

/-- 'rehearsallaw11.SheetsKeep', WHERE WHAT IT READS IS OF BULK AT MOST 1048576: true; the input reads as it did. -/
def sheetsKeepUptoRow : OpenClaim := { program := "ytnicmcdeoimhlaagreat", sum := "f3b8c45ee7e88e0cd37587ebf63aa17a45fefccb5309a7a1aa041dfc50e91ac7", func := "rehearsal/rehearsallaw11.SheetsKeep", spec := "sheetsKeep", inPlace := ["internal/abi.NoEscape"], unfollowed := true, recurses := true, apart := false, narrowed := true }
def SheetsKeepUptoSaid : Prop := sheetsKeepUptoRow.holds Tryz.pinned (OpenSpec.upto sheetsKeepSpec)

/-- 'rehearsallaw11.SheetsPlaces', WHERE WHAT IT READS IS OF BULK AT MOST 1048576: true; the input reads as it did. -/
def sheetsPlacesUptoRow : OpenClaim := { program := "ytnicmcdeoimhlaagreat", sum := "f3b8c45ee7e88e0cd37587ebf63aa17a45fefccb5309a7a1aa041dfc50e91ac7", func := "rehearsal/rehearsallaw11.SheetsPlaces", spec := "sheetsPlaces", inPlace := ["internal/abi.NoEscape"], unfollowed := true, recurses := true, apart := false, narrowed := true }
def SheetsPlacesUptoSaid : Prop := sheetsPlacesUptoRow.holds Tryz.pinned (OpenSpec.upto sheetsPlacesSpec)

/-- 'rehearsallaw11.SheetsTaken', WHERE WHAT IT READS IS OF BULK AT MOST 1048576: true; the input reads as it did. -/
def sheetsTakenUptoRow : OpenClaim := { program := "ytnicmcdeoimhlaagreat", sum := "f3b8c45ee7e88e0cd37587ebf63aa17a45fefccb5309a7a1aa041dfc50e91ac7", func := "rehearsal/rehearsallaw11.SheetsTaken", spec := "sheetsTaken", inPlace := ["internal/abi.NoEscape"], unfollowed := true, recurses := true, apart := false, narrowed := true }
def SheetsTakenUptoSaid : Prop := sheetsTakenUptoRow.holds Tryz.pinned (OpenSpec.upto sheetsTakenSpec)

/-- 'rehearsallaw11.SheetsBring', WHERE WHAT IT READS IS OF BULK AT MOST 1048576: true; the input reads as it did. -/
def sheetsBringUptoRow : OpenClaim := { program := "ytnicmcdeoimhlaagreat", sum := "f3b8c45ee7e88e0cd37587ebf63aa17a45fefccb5309a7a1aa041dfc50e91ac7", func := "rehearsal/rehearsallaw11.SheetsBring", spec := "sheetsBring", inPlace := ["internal/abi.NoEscape", "maps.clone"], unfollowed := true, recurses := true, apart := false, narrowed := true }
def SheetsBringUptoSaid : Prop := sheetsBringUptoRow.holds Tryz.pinned (OpenSpec.upto sheetsBringSpec)

/-- 'rehearsallaw11.SheetsGone', WHERE WHAT IT READS IS OF BULK AT MOST 1048576: true; the input reads as it did. -/
def sheetsGoneUptoRow : OpenClaim := { program := "ytnicmcdeoimhlaagreat", sum := "f3b8c45ee7e88e0cd37587ebf63aa17a45fefccb5309a7a1aa041dfc50e91ac7", func := "rehearsal/rehearsallaw11.SheetsGone", spec := "sheetsGone", inPlace := ["internal/abi.NoEscape", "maps.clone"], unfollowed := true, recurses := true, apart := false, narrowed := true }
def SheetsGoneUptoSaid : Prop := sheetsGoneUptoRow.holds Tryz.pinned (OpenSpec.upto sheetsGoneSpec)

end Rows
end Go.Proofs.YtnicmcdeoimhlaaGreat
