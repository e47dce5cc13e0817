/- the reference: cells and logs -/
import Derived.Test.YtdkfppcafpjomaaGreatDoorRx3
namespace Go.Proofs.YtdkfppcafpjomaaGreatDoor
open Go.RowKit M
set_option linter.unusedVariables false
theorem addC_log (W : WS) (k s : Bs) : addC W.logs k s = (logS W k s).logs := by
  funext m
  unfold addC logS
  by_cases hs : s = []
  · rw [if_pos hs, hs, List.append_nil]; split
    · rename_i e; rw [e]
    · rfl
  · rw [if_neg hs]; rfl
theorem logS_rest (W : WS) (k s : Bs) : (logS W k s).cells = W.cells ∧ (logS W k s).objs = W.objs ∧ (logS W k s).time = W.time := by
  unfold logS; split <;> exact ⟨rfl, rfl, rfl⟩
theorem mid5 {a b1 b2 b3 b4 b5 : Th} {l : List Th} : (a :: b1 :: b2 :: b3 :: b4 :: b5 :: l).Perm (b1 :: b2 :: b3 :: b4 :: b5 :: a :: l) :=
  (List.Perm.swap _ _ _).trans (.cons _ ((List.Perm.swap _ _ _).trans (.cons _ ((List.Perm.swap _ _ _).trans (.cons _ ((List.Perm.swap _ _ _).trans (.cons _ (List.Perm.swap _ _ _))))))))
theorem full_ref {w : World} {As : List Th} {p : Nat} {Z : List (Bs × Bs)} {O : List ObD} {G : List (Bs × Bs)} {t : Int} (h : Sat w (fullT p Z O G t :: As)) : ∃ (R : List Value) (T : Th), Sat w (refT p Z R :: T :: As) ∧ ∀ Z' w' As', Sat w' (refT p Z' R :: T :: As') → Sat w' (fullT p Z' O G t :: As') := by
  obtain ⟨kv, vv, nv, sv, lv, tv, h⟩ := full_open h
  refine ⟨[nv, sv, lv, tv, intV t], starL [rowT stC nv (O.map (·.name)), rowT slC sv O, starL (O.map obT), rowT stC lv (G.map (·.1)), rowT stC tv (G.map (·.2))], ?_, fun Z' w' As' h => ?_⟩
  · have h1 := refT_shut h
    have h2 : Sat w (rowT stC nv (O.map (·.name)) :: rowT slC sv O :: starL (O.map obT) :: rowT stC lv (G.map (·.1)) :: rowT stC tv (G.map (·.2)) :: refT p Z [nv, sv, lv, tv, intV t] :: As) := by
      exact h1.perm mid5
    exact (Sat.fold (As := [rowT stC nv (O.map (·.name)), rowT slC sv O, starL (O.map obT), rowT stC lv (G.map (·.1)), rowT stC tv (G.map (·.2))]) h2).perm (List.Perm.swap _ _ _)
  · have h2 := (h.perm (List.Perm.swap _ _ _)).flat
    have h3 : Sat w' (refT p Z' [nv, sv, lv, tv, intV t] :: rowT stC nv (O.map (·.name)) :: rowT slC sv O :: starL (O.map obT) :: rowT stC lv (G.map (·.1)) :: rowT stC tv (G.map (·.2)) :: As') := h2.perm mid5.symm
    obtain ⟨kv', vv', h4⟩ := refT_open h3
    exact full_shut h4
structure RefL (Z : List (Bs × Bs)) (G : List (Bs × Bs)) (W : WS) (n : Nat) : Prop where
  cells : CellsR Z W.cells
  logs : LogR G W.logs
  zl : Z.length ≤ n
  gl : G.length ≤ n
def refL (p : Nat) (W : WS) (n : Nat) : Th := exT fun q : List (Bs × Bs) × List (Bs × Bs) => starL [pureT (RefL q.1 q.2 W n), fullT p q.1 [] q.2 0]
section
variable {w : World} {As : List Th} {p n : Nat} {W : WS}
theorem refL_open (h : Sat w (refL p W n :: As)) : ∃ Z G, RefL Z G W n ∧ Sat w (fullT p Z [] G 0 :: As) := by
  obtain ⟨⟨Z, G⟩, h⟩ := h.ex
  exact ⟨Z, G, h.flat.pure_elim⟩
theorem refL_shut {Z G} (hR : RefL Z G W n) (h : Sat w (fullT p Z [] G 0 :: As)) : Sat w (refL p W n :: As) :=
  Sat.ex_intro (f := fun q : List (Bs × Bs) × List (Bs × Bs) => starL [pureT (RefL q.1 q.2 W n), fullT p q.1 [] q.2 0]) (Z, G) (Sat.fold (As := [pureT (RefL Z G W n), fullT p Z [] G 0]) (Sat.pure_intro hR h))
theorem refL_up {m : Nat} (hm : n ≤ m) (h : Sat w (refL p W n :: As)) : Sat w (refL p W m :: As) := by
  obtain ⟨Z, G, hR, h⟩ := refL_open h
  exact refL_shut ⟨hR.cells, hR.logs, by have := hR.zl; omega, by have := hR.gl; omega⟩ h
end
theorem RefL.empty : RefL [] [] emptyW 0 := ⟨CellsR.empty, ⟨by simp, by simp, fun _ _ => rfl⟩, by simp, by simp⟩
theorem lGet {w : World} {F : Th} {p n : Nat} {W : WS} (hS : Sat w [refL p W n, F]) (hn : n ≤ 1000) (k : Bs) :
    Calls Tryz.prog 16 #[ptrV p 0, strV k] w (Ret fun v w' => v = strV (W.cells k) ∧ Sat w' [refL p W n, F]) := by
  obtain ⟨Z, G, hR, hS⟩ := refL_open hS
  have hzl := hR.zl
  have hgl := hR.gl
  obtain ⟨R, T, hT, back⟩ := full_ref hS
  have hC := hT.split [0] [true, false, false] rfl; dsimp only [selF, pickA, nthA, List.cons_append, List.nil_append] at hC
  refine (fGet_sp hC (by omega) hR.cells k).mono fun e w' h => h.mono fun v w' ⟨h2, h3⟩ => ⟨h2, ?_⟩
  have h4 := h3.join rfl; dsimp only [List.dropLast, List.cons_append, List.nil_append] at h4
  exact refL_shut hR (back _ _ _ h4)
theorem lPut {w : World} {F : Th} {p n : Nat} {W : WS} (hS : Sat w [refL p W n, F]) (hn : n ≤ 1000) (k x : Bs) :
    Calls Tryz.prog 38 #[ptrV p 0, strV k, strV x] w (Ret fun v w' => v = .tuple #[] ∧ Sat w' [refL p (putS W k x) (n + 1), F]) := by
  obtain ⟨Z, G, hR, hS⟩ := refL_open hS
  have hzl := hR.zl
  have hgl := hR.gl
  obtain ⟨R, T, hT, back⟩ := full_ref hS
  have hC := hT.split [0] [true, false, false] rfl; dsimp only [selF, pickA, nthA, List.cons_append, List.nil_append] at hC
  refine (fPut_sp hC (by omega) k x).mono fun e w' h => h.mono fun r w' ⟨h2, h3⟩ => ⟨h2, ?_⟩
  have h4 := h3.join rfl; dsimp only [List.dropLast, List.cons_append, List.nil_append] at h4
  exact refL_shut (W := putS W k x) ⟨hR.cells.put k x, hR.logs, Nat.le_trans (putZ_len _ _ _) (by omega), by omega⟩ (back _ _ _ h4)
theorem lWith {w : World} {F : Th} {p n : Nat} {W : WS} (hS : Sat w [refL p W n, F]) (hn : n ≤ 1000) (q : Bs) :
    Calls Tryz.prog 20 #[ptrV p 0, strV q] w (Ret fun v w' => ∃ Z, CellsR Z W.cells ∧ Z.length ≤ n ∧ Sat w' [rowT stC v (withZ Z q), refL p W n, F]) := by
  obtain ⟨Z, G, hR, hS⟩ := refL_open hS
  have hzl := hR.zl
  have hgl := hR.gl
  obtain ⟨R, T, hT, back⟩ := full_ref hS
  have hC := hT.split [0] [true, false, false] rfl; dsimp only [selF, pickA, nthA, List.cons_append, List.nil_append] at hC
  refine (fWith_sp hC (by omega) q).mono fun e w' h => h.mono fun v w' h3 => ⟨Z, hR.cells, hR.zl, ?_⟩
  have h4 := h3.join rfl; dsimp only [List.dropLast, List.cons_append, List.nil_append] at h4
  exact (refL_shut hR (back _ _ _ (h4.reorder [1, 2, 0, 3] rfl))).reorder [1, 0, 2] rfl
theorem lText {w : World} {F : Th} {p n : Nat} {W : WS} (hS : Sat w [refL p W n, F]) (hn : n ≤ 1000) (nm : Bs) :
    Calls Tryz.prog 18 #[ptrV p 0, strV nm] w (Ret fun v w' => v = strV (W.logs nm) ∧ Sat w' [refL p W n, F]) := by
  obtain ⟨Z, G, hR, hS⟩ := refL_open hS
  have hzl := hR.zl
  have hgl := hR.gl
  refine (fText_sp hS hR.logs (by omega) nm).mono fun e w' h => h.mono fun v w' ⟨h2, h3⟩ => ⟨h2, refL_shut hR h3⟩
theorem lLog {w : World} {F : Th} {p n : Nat} {W : WS} (hS : Sat w [refL p W n, F]) (hn : n ≤ 1000) (nm s : Bs) (hsl : (W.logs nm).length ≤ 1000000) (hs : s.length ≤ 1000000) :
    Calls Tryz.prog 37 #[ptrV p 0, strV nm, strV s] w (Ret fun v w' => v = .tuple #[] ∧ Sat w' [refL p (logS W nm s) (n + 1), F]) := by
  obtain ⟨Z, G, hR, hS⟩ := refL_open hS
  have hzl := hR.zl
  have hgl := hR.gl
  refine (fLog_sp hS hR.logs (by omega) nm s hsl hs).mono fun e w' h => h.mono fun v w' ⟨h2, G2, hG2, hl2, h3⟩ => ⟨h2, refL_shut (W := logS W nm s) ⟨by rw [(logS_rest W nm s).1]; exact hR.cells, by rw [← addC_log]; exact hG2, by omega, by omega⟩ h3⟩
end Go.Proofs.YtdkfppcafpjomaaGreatDoor
