/- world: Objects -/
import Derived.Test.YtgnhfhhmipcgcaaGreatDoorWk2
namespace Go.Proofs.YtgnhfhhmipcgcaaGreatDoor
open Go.RowKit M
set_option linter.unusedVariables false
theorem names_len {W : WS} {Lo : List (Bs × Nat)} {N : Nat} (hO : ObjL Lo W.objs) (hN : Lo.length ≤ N) : ∀ ks, Came (namesG Lo) ks → ks.length ≤ N := fun ks h => by
  have : ks.length ≤ (Lo.map (·.1)).length := List.Nodup.length_le_of_subset h.nodup fun k hk => by
    have h1 := h.has k hk
    refine Decidable.not_not.1 fun q => h1 ?_
    simp [namesG, assoc_none.2 q]
  simpa using Nat.le_trans this (by simpa using hN)
def ObjsIn (O : Bs → Int → Option Bs) (n : Nat) : Prop := ∃ ks : List Bs, ks.length ≤ n ∧ ∀ k, (∃ q, O k q ≠ none) → k ∈ ks
theorem objl_len {W : WS} {Lo : List (Bs × Nat)} {n : Nat} (hO : ObjL Lo W.objs) (h : ObjsIn W.objs n) : Lo.length ≤ n := by
  obtain ⟨ks, h1, h2⟩ := h
  have : (Lo.map (·.1)).length ≤ ks.length := List.Nodup.length_le_of_subset hO.nodup fun k hk => h2 k ((hO.has k).1 hk)
  simp at this; omega
def NamesOf (O : Bs → Int → Option Bs) (l : List Bs) : Prop := ∃ l0, l = sortS l0 ∧ l0.Nodup ∧ ∀ k, k ∈ l0 ↔ ∃ q, O k q ≠ none
theorem namesOf_all {W : WS} {Lo : List (Bs × Nat)} {ks : List Bs} (hO : ObjL Lo W.objs) (h : AllC (namesG Lo) ks) : NamesOf W.objs (sortS ks) := by
  refine ⟨ks, rfl, h.nodup, fun k => ?_⟩
  rw [h.mem k, ← hO.has k]
  constructor
  · intro h1
    refine Decidable.not_not.1 fun q => h1 ?_
    simp [namesG, assoc_none.2 q]
  · intro h1 h2
    simp [namesG] at h2
    exact assoc_none.1 h2 h1
theorem objs_end {w : World} {p : Nat} {W : WS} {LL : WL} {Lo : List (Bs × Nat)} {F X : Th} (hI : PagesOk W.objs) (hO : ObjL Lo W.objs) (h : Sat w [mapT strK LL.bo (namesG Lo), starL (Lo.map (thOf W.objs)), blkT p (cellsW LL W.time), mapT strK LL.bc (cellsG W.cells), mapT strK LL.bl (cellsG W.logs), F, X]) : Sat w [X, worldT p W, F] := by
  have h1 := h.split [0, 1, 2, 3, 4] [true, true, true, true, true, false, false] rfl
  dsimp only [selF, pickA, nthA, List.cons_append, List.nil_append] at h1
  have h2 := (world_same hI hO h1).join rfl
  dsimp only [List.dropLast, List.cons_append, List.nil_append] at h2
  exact h2.reorder [2, 0, 1] rfl
theorem objects_sp {w : World} {p : Nat} {W : WS} {F : Th} (hS : Sat w [worldT p W, F]) (hOb : ObjsIn W.objs 1000000) :
    Calls Tryz.prog 22 #[ptrV p 0] w (Ret fun v w' => ∃ l, NamesOf W.objs l ∧ Sat w' [rowT stC v l, worldT p W, F]) := by
  obtain ⟨LL, hI, hS⟩ := worldT_open hS
  obtain ⟨Lo, hO, hS⟩ := objsT_open (hS.pull 2 rfl); dsimp only [List.eraseIdx] at hS
  refine calls_enter Tryz.func22 rfl Tryz.ntmps22 rfl ?_
  refine wc_seq ?_
  refine wc_region ?_
  refine wl_assign rfl rfl ?_
  refine wl_nil ?_
  refine qs_seq ?_
  refine wc_seq ?_
  refine wc_region ?_
  refine wl_move rfl rfl ?_
  refine wl_nilCheck rfl rfl ?_
  refine wl_fieldAddr rfl fo_59_1 rfl ?_
  refine wl_load rfl ag_57 (by first | assumption | exact hS.cell 1 rfl rfl | exact hS.cell 2 rfl rfl) rfl ?_
  have hC1 := hS.split [] [false, false, false, false, false, false] rfl; dsimp only [selF, pickA, nthA, List.cons_append, List.nil_append] at hC1
  refine wl_call cal_52 rfl (keysS_sp (v0 := .map (some LL.bo)) hC1 rfl) rfl ?_
  rintro e w1 ⟨_, rfl, c1, rfl, hS1⟩; refine ⟨_, rfl, ?_⟩
  replace hS1 := hS1.join rfl; dsimp only [List.dropLast, List.cons_append, List.nil_append] at hS1; clear hC1
  have hS2 := Sat.fold (As := [blkT _ [.map (some LL.bo)], mapT strK LL.bo (namesG Lo)]) (hS1.reorder [0, 1, 2, 3, 4, 5, 6] rfl)
  clear hS1
  have hC3 := hS2.split [0] [true, false, false, false, false, false] rfl; dsimp only [selF, pickA, nthA, List.cons_append, List.nil_append] at hC3
  refine wl_call cal_51 rfl (sorted_sp (caps := [ptrV _ 0]) hC3 cal_69 (itS _ _ _) (names_len hO (objl_len hO hOb))) rfl ?_
  rintro e w3 ⟨_, rfl, ks, hks, hS3⟩; refine ⟨_, rfl, ?_⟩
  replace hS3 := hS3.join rfl; dsimp only [List.dropLast, List.cons_append, List.nil_append] at hS3; clear hC3
  clear hS2
  refine wl_assign rfl rfl ?_
  refine wl_nil ?_
  refine qs_seq ?_
  refine wc_ret ?_
  refine fin1 (.inr rfl) rfl rfl ?_
  have hSz := (hS3.reorder [1, 2, 3, 4, 5, 6, 0] rfl).flat; dsimp only [List.cons_append, List.nil_append] at hSz
  exact ⟨_, rfl, _, namesOf_all hO hks, objs_end hI hO (hSz.pick [1, 2, 3, 4, 5, 6, 7] rfl)⟩

end Go.Proofs.YtgnhfhhmipcgcaaGreatDoor
