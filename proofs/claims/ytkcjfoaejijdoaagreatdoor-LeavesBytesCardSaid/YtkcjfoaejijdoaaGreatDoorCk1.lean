/- reclaim: the clock -/
import Derived.Test.YtkcjfoaejijdoaaGreatDoorCm3
namespace Go.Proofs.YtkcjfoaejijdoaaGreatDoor
open Go.RowKit M
set_option linter.unusedVariables false
structure CkD where
  u : Bool
  m : Bool
  t : Bool
  o : Int
def ckC : RowC CkD := ⟨fun x => [.bool x.u, .bool x.m, .bool x.t, intV x.o], 4, by decide, fun _ => rfl, fun _ => rfl⟩
def gI (g : Int → Option Int) : Int → Option Value := fun k => (g k).map intV
theorem HD (g : Int → Option Int) (k : Int) : (gI g k).getD (intV 0) = intV ((g k).getD 0) := by unfold gI; cases g k <;> rfl
theorem Vu (g : Int → Option Int) (k x : Int) : upd (gI g) k (some (intV x)) = gI (up g k (some x)) := by
  funext j
  by_cases h : j = k
  · subst h; rw [ZD]; unfold gI; rw [XF]; rfl
  · rw [W5 h]; unfold gI; rw [XN h]
theorem Vv : (fun _ => none : Int → Option Value) = gI (fun _ => none) := rfl
structure CkX where
  v : Value
  l : List CkD
  b1 : Nat
  b2 : Nat
  b3 : Nat
  g1 : Int → Option Int
  g2 : Int → Option Int
  g3 : Int → Option Int
def KV (p : Nat) (ul : List Bool) (h : Int) : Th := Tt fun q : CkX => starL [Jh (ul = q.l.map CkD.u ∧ ul.length ≤ 4096 ∧ 0 ≤ h ∧ h < ul.length), QO p [q.v, intV h, .map (some q.b1), .map (some q.b2), .map (some q.b3)], rowT ckC q.v q.l, QH Xd q.b1 (gI q.g1), QH Xd q.b2 (gI q.g2), QH Xd q.b3 (gI q.g3)]
def B0 (p : Nat) (ul : List Bool) : Th := Tt fun h : Int => KV p ul h
theorem W9 {w : World} {p : Nat} {ul : List Bool} {h : Int} {As : List Th} (hS : Sat w (KV p ul h :: As)) : ∃ ob cap l b1 b2 b3 g1 g2 g3, ul = l.map CkD.u ∧ l.length ≤ 4096 ∧ 0 ≤ h ∧ h < l.length ∧ Sat w (QO p [.slice (some ⟨ob, 0, none⟩) l.length cap, intV h, .map (some b1), .map (some b2), .map (some b3)] :: rowT ckC (.slice (some ⟨ob, 0, none⟩) l.length cap) l :: QH Xd b1 (gI g1) :: QH Xd b2 (gI g2) :: QH Xd b3 (gI g3) :: As) := by
  obtain ⟨⟨v, l, b1, b2, b3, g1, g2, g3⟩, hS⟩ := hS.ex
  obtain ⟨⟨h1, h2, h3, h4⟩, hS2⟩ := hS.flat.pure_elim
  dsimp only at h1 h2 h3 h4
  rw [h1, List.length_map] at h2 h4
  obtain ⟨ob, cap, hv, _⟩ := Sat.own_at (As := QO p _ :: rowT ckC v l :: QH Xd b1 (gI g1) :: QH Xd b2 (gI g2) :: QH Xd b3 (gI g3) :: As) hS2 1 rfl (by omega)
  obtain rfl := hv
  exact ⟨ob, cap, l, b1, b2, b3, g1, g2, g3, h1, h2, h3, h4, hS2⟩
theorem XT {w : World} {p : Nat} {ul : List Bool} {h : Int} {As : List Th} {v : Value} {l : List CkD} {b1 b2 b3 : Nat} {g1 g2 g3 : Int → Option Int} (h1 : ul = l.map CkD.u) (h2 : l.length ≤ 4096) (h3 : 0 ≤ h) (h4 : h < l.length)
    (hS : Sat w (QO p [v, intV h, .map (some b1), .map (some b2), .map (some b3)] :: rowT ckC v l :: QH Xd b1 (gI g1) :: QH Xd b2 (gI g2) :: QH Xd b3 (gI g3) :: As)) : Sat w (KV p ul h :: As) :=
  Sat.ex_intro (f := fun q : CkX => starL [Jh (ul = q.l.map CkD.u ∧ ul.length ≤ 4096 ∧ 0 ≤ h ∧ h < ul.length), QO p [q.v, intV h, .map (some q.b1), .map (some q.b2), .map (some q.b3)], rowT ckC q.v q.l, QH Xd q.b1 (gI q.g1), QH Xd q.b2 (gI q.g2), QH Xd q.b3 (gI q.g3)]) ⟨v, l, b1, b2, b3, g1, g2, g3⟩
    (Sat.fold (As := [Jh _, QO p _, rowT ckC v l, QH Xd b1 (gI g1), QH Xd b2 (gI g2), QH Xd b3 (gI g3)]) (Sat.pure_intro ⟨h1, by rw [h1, List.length_map]; exact h2, h3, by rw [h1, List.length_map]; exact h4⟩ hS))
theorem ck_u {l : List CkD} {k : Nat} {x : CkD} (h : l[k]? = some x) : (l.map CkD.u)[k]? = some x.u := by rw [List.getElem?_map, h]; rfl
theorem Dd {l : List CkD} {k : Nat} {x : CkD} : (l.set k x).map CkD.u = (l.map CkD.u).set k x.u := List.map_set
theorem Us {l : List CkD} {k : Nat} {x y : CkD} (h : l[k]? = some x) (hu : y.u = x.u) : (l.set k y).map CkD.u = l.map CkD.u := by
  rw [Dd, hu]; exact Vh (ck_u h)
theorem Gq {w : World} {p : Nat} {ul : List Bool} {hd : Int} {F : Th} (hS : Sat w [KV p ul hd, F]) (f : Int) :
    Calls Tryz.prog 220 #[ptrV p 0, intV f] w (Ret fun v w' => v = .bool (decide (0 ≤ f ∧ f < (ul.length : Int))) ∧ Sat w' [KV p ul hd, F]) := by
 obtain ⟨ob, cap, l, b1, b2, b3, g1, g2, g3, hul, hl4, hh0, hh1, hS⟩ := W9 hS
 refine Qt Tryz.func220 rfl Tryz.ntmps220 rfl ?_
 refine Qd (Qa (Qe rfl rfl (Qf (Qc (Qd (Qa (Qb rfl rfl ?_)))))))
 refine JE rfl rfl rfl ?_
 refine Qb rfl rfl ?_
 refine Xk 7 rfl (fun h1 => ?_) (fun h1 => ?_)
 ·refine Qn rfl rfl (decide_eq_true h1) ?_
  refine Qb rfl rfl ?_
  refine Qn rfl rfl (decide_eq_true h1) ?_
  refine Qb rfl rfl ?_
  refine Qn rfl rfl (decide_eq_true h1) ?_
  refine Qj rfl rfl ?_
  refine Qn rfl rfl (decide_eq_true h1) ?_
  refine Qg rfl Zx rfl ?_
  refine Qn rfl rfl (decide_eq_true h1) ?_
  refine Qu rfl Wv (by exact hS.cell 0 rfl rfl) rfl ?_
  refine Qn rfl rfl (decide_eq_true h1) ?_
  refine XU Tryz.underlying186 rfl rfl ?_
  refine Qn rfl rfl (decide_eq_true h1) ?_
  refine Xt rfl rfl rfl ?_
  refine Xg rfl (decide_eq_true h1) rfl rfl ?_
  refine Qe rfl rfl (Qf (Qc ?_))
  refine Qh (L' := [(4, _)]) (Hd rfl) ?_
  refine Q0 ?_
  refine QV (.inr rfl) rfl rfl ?_
  exact ⟨_, rfl, by congr 1; rw [hul, List.length_map]; (simp; omega), XT (hul) (hl4) (hh0) (hh1) (hS.pick [0, 1, 2, 3, 4, 5] rfl)⟩
 refine Ql rfl rfl (decide_eq_false h1) rfl ?_
 refine Ql rfl rfl (decide_eq_false h1) rfl ?_
 refine Ql rfl rfl (decide_eq_false h1) rfl ?_
 refine Ql rfl rfl (decide_eq_false h1) rfl ?_
 refine Ql rfl rfl (decide_eq_false h1) rfl ?_
 refine Ql rfl rfl (decide_eq_false h1) rfl ?_
 refine Ql rfl rfl (decide_eq_false h1) rfl ?_
 refine QX rfl (decide_eq_false h1) rfl rfl ?_
 refine Qe rfl rfl (Qf (Qc ?_))
 refine Qh (L' := [(4, _)]) (Hd rfl) ?_
 refine Q0 ?_
 refine QV (.inr rfl) rfl rfl ?_
 exact ⟨_, rfl, by congr 1; rw [hul, List.length_map]; (simp; omega), XT (hul) (hl4) (hh0) (hh1) (hS.pick [0, 1, 2, 3, 4, 5] rfl)⟩
set_option maxRecDepth 100000 in
theorem K1 {w : World} {p : Nat} {ul : List Bool} {hd : Int} {F : Th} (hS : Sat w [KV p ul hd, F]) (f : Int) (hf : 0 ≤ f ∧ f < (ul.length : Int)) :
    Calls Tryz.prog 186 #[ptrV p 0, intV f] w (Ret fun v w' => v = .tuple #[] ∧ Sat w' [KV p (ul.set f.toNat false) hd, F]) := by
 refine Qt Tryz.func186 rfl Tryz.ntmps186 rfl ?_
 refine Qd (Qd (Qa (Qb rfl rfl (Qb rfl rfl ?_))))
 have hC1 := hS.split [0] [true, false] rfl; dsimp only [QC, Qz, Q9, Q8, Q7] at hC1
 refine Qo Dk rfl (Gq hC1 f) rfl ?_
 rintro e w1 ⟨_, rfl, rfl, hS1⟩; refine ⟨_, rfl, ?_⟩
 replace hS1 := hS1.join rfl; dsimp only [QU, QT, Q8, Q7] at hS1; clear hC1
 rw [decide_eq_true (show 0 ≤ f ∧ f < (ul.length : Int) from hf)]
 refine QS rfl rfl ?_
 refine Qb rfl rfl ?_
 refine Qn rfl rfl rfl ?_
 obtain ⟨ob, cap, l, b1, b2, b3, g1, g2, g3, hul, hl4, hh0, hh1, hSo⟩ := W9 (hS1.pick [0, 1] rfl)
 have hull : ul.length = l.length := by rw [hul, List.length_map]
 obtain ⟨x, hx⟩ : ∃ x, l[f.toNat]? = some x := ⟨_, List.getElem?_eq_getElem (by omega)⟩
 refine Qb rfl rfl ?_
 refine Qn rfl rfl rfl ?_
 refine Qj rfl rfl ?_
 refine Qn rfl rfl rfl ?_
 refine Qg rfl Zx rfl ?_
 refine Qn rfl rfl rfl ?_
 refine Qu rfl Wv (by exact hSo.cell 0 rfl rfl) rfl ?_
 refine Qn rfl rfl rfl ?_
 refine Qb rfl rfl ?_
 refine Qn rfl rfl rfl ?_
 refine Xp ckC 1 f.toNat hSo rfl rfl rfl (by omega) hx JG rfl ?_
 intro bx2 capx2 hvx2
 refine Qn rfl rfl rfl ?_
 refine Qg rfl V7 rfl ?_
 refine Qn rfl rfl rfl ?_
 refine Z4 1 f.toNat 0 hSo rfl hvx2 rfl rfl hx Gz rfl rfl ?_
 refine Qn rfl rfl rfl ?_
 refine QS rfl rfl ?_
 refine QX rfl rfl rfl rfl ?_
 refine Qf (Qc ?_)
 refine Qh (L' := [(18, _), (0, _), (1, _)]) (Y2 rfl rfl rfl) ?_
 refine QR rfl (fun h3 => ?_) (fun h3 => ?_)
 ·refine Q0 (Qs ?_)
  refine W4 (.inr rfl) rfl ?_
  exact ⟨_, rfl, rfl, by rw [show ul.set f.toNat false = ul by rw [hul]; exact Vh (by rw [ck_u hx]; congr 1; simpa using (by assumption : (!x.u) = true))]; exact XT (hul) (hl4) (hh0) (hh1) (hSo.pick [0, 1, 2, 3, 4, 5] rfl)⟩
 refine Qy (Qc (Qd ?_))
 have hS4 := hSo.drew
 refine QK [0, 1, 2, 3, 4, 5, 6, 7, 8, 9, 10, 11, 12, 13, 14] [14] ZT (by kernel_rfl) ?_
 refine Qk rfl rfl rfl (fun _ => (Qr rfl)) ?_
 refine Qk rfl rfl rfl (fun _ => (Qq rfl)) ?_
 refine Qk rfl rfl rfl (fun _ => (Qi rfl V9)) ?_
 refine QF rfl rfl rfl (Qm rfl Ww (by exact hS4.cell 0 rfl rfl)) ?_
 refine Qk rfl rfl rfl (fun _ => (Qr rfl)) ?_
 refine Qk rfl rfl rfl (fun _ => (Qq rfl)) ?_
 refine Qk rfl rfl rfl (fun _ => (Qi rfl Zx)) ?_
 refine QF rfl rfl rfl (Qm rfl Wv (by exact hS4.cell 0 rfl rfl)) ?_
 refine Qk rfl rfl rfl (fun _ => (Qr rfl)) ?_
 refine Qk rfl rfl rfl (fun _ => (JR f.toNat rfl rfl (by omega) (by omega) JG)) ?_
 refine Qk rfl rfl rfl (fun _ => (Qi rfl V6)) ?_
 refine QF rfl rfl rfl (KH ckC 1 f.toNat 3 hS4 rfl hx QW rfl rfl) ?_
 refine QF rfl rfl rfl (Xz 2 hS4 keysInt Tryz.underlying109 rfl rfl rfl Y1 (HD _ _)) ?_
 refine Qk rfl rfl rfl (fun _ => (Rm rfl rfl rfl)) ?_
 refine Xn rfl rfl rfl rfl rfl rfl ?_
 first | refine X1 2 hS4 keysInt Tryz.underlying109 rfl rfl rfl rfl ?_
 intro w5 hS5; dsimp only [List.set] at hS5
 clear hS4
 refine Zi (.skip (by kernel_rfl) (.skip (by kernel_rfl) (.skip (by kernel_rfl) (.skip (by kernel_rfl) .nil)))) ?_
 refine VC.nil ?_
 have hS6 := hS5; rw [Vu] at hS6
 refine Qc ?_
 refine Qh (L' := [(0, _), (1, _)]) (H0 rfl rfl) ?_
 refine Qa (Qb rfl rfl (Qj rfl rfl ?_))
 refine Qg rfl Zx rfl ?_
 refine Qu rfl Wv (by exact hS6.cell 0 rfl rfl) rfl ?_
 refine Qb rfl rfl ?_
 refine Zy rfl pl_199_ Dv Rx rfl rfl ?_
 refine Xp ckC 1 f.toNat hS6 rfl rfl rfl (by omega) hx JG rfl ?_
 intro bx7 capx7 hvx7
 refine ZJ 1 f.toNat (⟨false, false, false, 0⟩ : CkD) hS6 rfl hvx7 rfl rfl UD (by rfl) (by omega) ?_
 intro w8 hS9; dsimp only [List.set] at hS9
 clear hS6
 refine Qf ?_
 refine W4 (.inl rfl) rfl ?_
 exact ⟨_, rfl, rfl, XT (show _ = (l.set f.toNat ⟨false, false, false, 0⟩).map CkD.u by rw [hul, Dd]) (by rw [List.length_set]; exact hl4) (hh0) (by rw [List.length_set]; exact hh1) (hS9.pick [0, 1, 2, 3, 4, 5] rfl)⟩
set_option maxRecDepth 100000 in
theorem UT {w : World} {p : Nat} {ul : List Bool} {hd : Int} {F : Th} (hS : Sat w [KV p ul hd, F]) (f : Int) (hf : 0 ≤ f ∧ f < (ul.length : Int)) :
    Calls Tryz.prog 223 #[ptrV p 0, intV f] w (Ret fun v w' => v = .tuple #[] ∧ Sat w' [KV p ul hd, F]) := by
 refine Qt Tryz.func223 rfl Tryz.ntmps223 rfl ?_
 refine Qd (Qd (Qa (Qb rfl rfl (Qb rfl rfl ?_))))
 have hC1 := hS.split [0] [true, false] rfl; dsimp only [QC, Qz, Q9, Q8, Q7] at hC1
 refine Qo Dk rfl (Gq hC1 f) rfl ?_
 rintro e w1 ⟨_, rfl, rfl, hS1⟩; refine ⟨_, rfl, ?_⟩
 replace hS1 := hS1.join rfl; dsimp only [QU, QT, Q8, Q7] at hS1; clear hC1
 rw [decide_eq_true (show 0 ≤ f ∧ f < (ul.length : Int) from hf)]
 refine QS rfl rfl ?_
 refine Qb rfl rfl ?_
 refine Qn rfl rfl rfl ?_
 obtain ⟨ob, cap, l, b1, b2, b3, g1, g2, g3, hul, hl4, hh0, hh1, hSo⟩ := W9 (hS1.pick [0, 1] rfl)
 have hull : ul.length = l.length := by rw [hul, List.length_map]
 obtain ⟨x, hx⟩ : ∃ x, l[f.toNat]? = some x := ⟨_, List.getElem?_eq_getElem (by omega)⟩
 refine Qb rfl rfl ?_
 refine Qn rfl rfl rfl ?_
 refine Qj rfl rfl ?_
 refine Qn rfl rfl rfl ?_
 refine Qg rfl Zx rfl ?_
 refine Qn rfl rfl rfl ?_
 refine Qu rfl Wv (by exact hSo.cell 0 rfl rfl) rfl ?_
 refine Qn rfl rfl rfl ?_
 refine Qb rfl rfl ?_
 refine Qn rfl rfl rfl ?_
 refine Xp ckC 1 f.toNat hSo rfl rfl rfl (by omega) hx JG rfl ?_
 intro bx2 capx2 hvx2
 refine Qn rfl rfl rfl ?_
 refine Qg rfl V7 rfl ?_
 refine Qn rfl rfl rfl ?_
 refine Z4 1 f.toNat 0 hSo rfl hvx2 rfl rfl hx Gz rfl rfl ?_
 refine Qn rfl rfl rfl ?_
 refine QS rfl rfl ?_
 refine QX rfl rfl rfl rfl ?_
 refine Qf (Qc ?_)
 refine Qh (L' := [(19, _), (0, _), (1, _)]) (Y2 rfl rfl rfl) ?_
 refine QR rfl (fun h3 => ?_) (fun h3 => ?_)
 ·refine Q0 (Qs ?_)
  refine W4 (.inr rfl) rfl ?_
  exact ⟨_, rfl, rfl, XT (hul) (hl4) (hh0) (hh1) (hSo.pick [0, 1, 2, 3, 4, 5] rfl)⟩
 refine Qy (Qc (Qd (Qa (Qb rfl rfl (Qj rfl rfl ?_)))))
 refine Qg rfl Zx rfl ?_
 refine Qu rfl Wv (by exact hSo.cell 0 rfl rfl) rfl ?_
 refine Qb rfl rfl ?_
 refine Xp ckC 1 f.toNat hSo rfl rfl rfl (by omega) hx JG rfl ?_
 intro bx4 capx4 hvx4
 refine Qe rfl rfl (Qf (Qc (Qd (Qa (Qb rfl rfl (Qj rfl rfl ?_))))))
 refine Qg rfl YU rfl ?_
 refine WB 1 f.toNat 1 { x with m := true } hSo rfl hvx4 rfl rfl rfl Pe hx rfl (by decide) rfl (by rfl) ?_
 intro w5 hS6; dsimp only [List.set] at hS6
 clear hSo
 refine Qf (Qc ?_)
 refine Qh (L' := [(4, _), (0, _)]) (H0 rfl rfl) ?_
 refine Qd ?_
 have hx1 : (l.set f.toNat { x with m := true })[f.toNat]? = some { x with m := true } := List.getElem?_set_self (by omega)
 refine Qa (Qb rfl rfl (Qj rfl rfl ?_))
 refine Qg rfl Ga rfl ?_
 refine Z4 1 f.toNat 2 hS6 rfl hvx4 rfl rfl hx1 Gz rfl rfl ?_
 refine QS rfl rfl ?_
 refine Qf (Qc ?_)
 refine QR rfl (fun h7 => ?_) (fun h7 => ?_)
 ·refine Qd (Qa (Qb rfl rfl (Qj rfl rfl ?_)))
  refine Qg rfl Ga rfl ?_
  refine WB 1 f.toNat 2 { x with m := true, t := true } hS6 rfl hvx4 rfl rfl rfl Pe hx1 rfl (by decide) rfl (by rfl) ?_
  intro w8 hS9; dsimp only [List.set] at hS9
  clear hS6
  refine Qf (Qc ?_)
  have hx2 : ((l.set f.toNat { x with m := true }).set f.toNat { x with m := true, t := true })[f.toNat]? = some { x with m := true, t := true } := List.getElem?_set_self (by rw [List.length_set]; omega)
  have hS10 := hS9.drew
  refine QK [0, 1, 2, 3, 4, 5, 6, 7, 8, 9, 10] [10] ZT (by kernel_rfl) ?_
  refine Qk rfl rfl rfl (fun _ => (Qr rfl)) ?_
  refine Qk rfl rfl rfl (fun _ => (Qq rfl)) ?_
  refine Qk rfl rfl rfl (fun _ => (Qi rfl HF)) ?_
  refine QF rfl rfl rfl (Qm rfl Ww (by exact hS10.cell 0 rfl rfl)) ?_
  refine Qk rfl rfl rfl (fun _ => (Qr rfl)) ?_
  refine Qk rfl rfl rfl (fun _ => (Qq rfl)) ?_
  refine Qk rfl rfl rfl (fun _ => (Qi rfl V6)) ?_
  refine QF rfl rfl rfl (Qm rfl QW (hS10.ocell 1 rfl hvx4 (RowC.cells_get hx2 rfl))) ?_
  refine QF rfl rfl rfl (Xz 3 hS10 keysInt Tryz.underlying109 rfl rfl rfl Y1 (HD _ _)) ?_
  refine Qk rfl rfl rfl (fun _ => (Rp rfl rfl rfl)) ?_
  refine Xn rfl rfl rfl rfl rfl rfl ?_
  first | refine X1 3 hS10 keysInt Tryz.underlying109 rfl rfl rfl rfl ?_
  intro w11 hS11; dsimp only [List.set] at hS11
  clear hS10
  refine Zi (.skip (by kernel_rfl) (.skip (by kernel_rfl) (.skip (by kernel_rfl) .nil))) ?_
  refine VC.nil ?_
  have hS12 := hS11; rw [Vu] at hS12
  refine W4 (.inl rfl) rfl ?_
  exact ⟨_, rfl, rfl, XT (l := ((l.set f.toNat { x with m := true }).set f.toNat { x with m := true, t := true })) (by rw [hul]; exact ((Us (y := { x with m := true, t := true }) hx1 rfl).trans (Us (y := { x with m := true }) hx rfl)).symm) (by simp only [List.length_set]; exact hl4) (hh0) (by simp only [List.length_set]; exact hh1) (hS12.pick [0, 1, 2, 3, 4, 5] rfl)⟩
 refine Qy ?_
 refine W4 (.inl rfl) rfl ?_
 exact ⟨_, rfl, rfl, XT (l := (l.set f.toNat { x with m := true })) (by rw [hul]; exact (Us (y := { x with m := true }) hx rfl).symm) (by simp only [List.length_set]; exact hl4) (hh0) (by simp only [List.length_set]; exact hh1) (hS6.pick [0, 1, 2, 3, 4, 5] rfl)⟩
set_option maxRecDepth 100000 in
theorem SF {w : World} {p : Nat} {ul : List Bool} {hd : Int} {F : Th} (hS : Sat w [KV p ul hd, F]) (f : Int) (hf : 0 ≤ f ∧ f < (ul.length : Int)) (owner : Int) :
    Calls Tryz.prog 188 #[ptrV p 0, intV f, intV owner] w (Ret fun v w' => v = .tuple #[] ∧ Sat w' [KV p (ul.set f.toNat true) hd, F]) := by
 refine Qt Tryz.func188 rfl Tryz.ntmps188 rfl ?_
 refine Qd (Qd (Qa (Qb rfl rfl (Qb rfl rfl ?_))))
 have hC1 := hS.split [0] [true, false] rfl; dsimp only [QC, Qz, Q9, Q8, Q7] at hC1
 refine Qo Dk rfl (Gq hC1 f) rfl ?_
 rintro e w1 ⟨_, rfl, rfl, hS1⟩; refine ⟨_, rfl, ?_⟩
 replace hS1 := hS1.join rfl; dsimp only [QU, QT, Q8, Q7] at hS1; clear hC1
 rw [decide_eq_true (show 0 ≤ f ∧ f < (ul.length : Int) from hf)]
 refine QS rfl rfl ?_
 refine Qf (Qc ?_)
 refine CG rfl rfl ?_
 refine Qy (Qc (Qd (Qd ?_)))
 obtain ⟨ob, cap, l, b1, b2, b3, g1, g2, g3, hul, hl4, hh0, hh1, hSo⟩ := W9 (hS1.pick [0, 1] rfl)
 have hull : ul.length = l.length := by rw [hul, List.length_map]
 obtain ⟨x, hx⟩ : ∃ x, l[f.toNat]? = some x := ⟨_, List.getElem?_eq_getElem (by omega)⟩
 refine Qa (Qb rfl rfl (Qj rfl rfl ?_))
 refine Qg rfl Zx rfl ?_
 refine Qu rfl Wv (by exact hSo.cell 0 rfl rfl) rfl ?_
 refine Qb rfl rfl ?_
 refine Xp ckC 1 f.toNat hSo rfl rfl rfl (by omega) hx JG rfl ?_
 intro bx2 capx2 hvx2
 refine ZA 1 f.toNat hSo rfl hvx2 rfl hx Fb UD rfl rfl ?_
 refine Xl hSo Rx rfl rfl ?_
 intro b3 w3 hS3
 clear hSo
 (refine Xa hS3 rfl rfl UD rfl (by rfl) (i := 0) rfl (by decide) ?_)
 intro w4 hS5; dsimp only [List.set] at hS5
 clear hS3
 refine Qf (Qc ?_)
 refine Qh (L' := [(6, _), (0, _), (1, _), (2, _)]) (Jr rfl rfl rfl rfl) ?_
 refine Qd (Qa ?_)
 refine Qg rfl V7 rfl ?_
 refine Qu rfl Gz (by exact hS5.cell 0 rfl rfl) rfl ?_
 refine QS rfl rfl ?_
 refine Qb rfl rfl ?_
 refine Zd 21 rfl (fun h6 => ?_) (fun h6 => ?_)
 ·refine Ql rfl rfl h6 rfl ?_
  refine Ql rfl rfl h6 rfl ?_
  refine Ql rfl rfl h6 rfl ?_
  refine Ql rfl rfl h6 rfl ?_
  refine Xg rfl h6 rfl rfl ?_
  refine Qf (Qc ?_)
  refine Qh (L' := [(26, _), (0, _), (1, _), (2, _)]) (Jr rfl rfl rfl rfl) ?_
  refine XP rfl ?_
  refine Qd ?_
  have hSz3 := XT (hul) (hl4) (hh0) (hh1) (hS5.pick [1, 2, 3, 4, 5, 6] rfl)
  refine Qa (Qb rfl rfl (Qb rfl rfl ?_))
  have hC7 := hSz3.split [0] [true, false] rfl; dsimp only [QC, Qz, Q9, Q8, Q7] at hC7
  refine Qo Dl rfl (K1 hC7 f hf) rfl ?_
  rintro e w7 ⟨_, rfl, rfl, hS7⟩; refine ⟨_, rfl, ?_⟩
  replace hS7 := hS7.join rfl; dsimp only [QU, QT, Q8, Q7] at hS7; clear hC7
  clear hSz3
  refine Qf (Qc (Qd ?_))
  obtain ⟨ob2, cap2, l2, b12, b22, b32, g12, g22, g32, hul2, hl42, hh02, hh12, hSo2⟩ := W9 (hS7.pick [0, 1] rfl)
  have hl2l : l2.length = ul.length := by have := congrArg List.length hul2; rw [List.length_set, List.length_map] at this; exact this.symm
  obtain ⟨x2, hx2⟩ : ∃ x, l2[f.toNat]? = some x := ⟨_, List.getElem?_eq_getElem (by omega)⟩
  refine Qa (Qb rfl rfl (Qj rfl rfl ?_))
  refine Qg rfl Zx rfl ?_
  refine Qu rfl Wv (by exact hSo2.cell 0 rfl rfl) rfl ?_
  refine Qb rfl rfl (Qb rfl rfl ?_)
  refine Zy rfl RJ Dv Rx rfl rfl ?_
  refine Xp ckC 1 f.toNat hSo2 rfl rfl rfl (by omega) hx2 JG rfl ?_
  intro bx8 capx8 hvx8
  refine ZJ 1 f.toNat (⟨true, false, false, owner⟩ : CkD) hSo2 rfl hvx8 rfl rfl UD (by rfl) (by omega) ?_
  intro w9 hS10; dsimp only [List.set] at hS10
  clear hSo2
  refine Qf (Qc ?_)
  refine Qh (L' := [(0, _), (1, _), (2, _)]) (Y2 rfl rfl rfl) ?_
  refine Qa (Qb rfl rfl (Qj rfl rfl ?_))
  refine Qg rfl V9 rfl ?_
  refine Qu rfl Ww (by exact hS10.cell 0 rfl rfl) rfl ?_
  refine Qb rfl rfl ?_
  refine Ze 2 hS10 keysInt Tryz.underlying109 rfl rfl rfl Y1 (HD _ _) rfl ?_
  refine Y4 rfl rfl rfl rfl ?_
  first | refine X1 2 hS10 keysInt Tryz.underlying109 rfl rfl rfl rfl ?_
  intro w11 hS11; dsimp only [List.set] at hS11
  clear hS10
  refine Qf ?_
  have hS12 := hS11; rw [Vu] at hS12
  have hSz5 := XT (ul := ul.set f.toNat true) (l := l2.set f.toNat ⟨true, false, false, owner⟩) (by rw [Dd, ← hul2, List.set_set]) (by rw [List.length_set]; exact hl42) hh02 (by rw [List.length_set]; exact hh12) (hS12.pick [0, 1, 2, 3, 4, 5] rfl)
  refine Qc (Qa (Qb rfl rfl (Qb rfl rfl ?_)))
  have hC13 := hSz5.split [0] [true, false] rfl; dsimp only [QC, Qz, Q9, Q8, Q7] at hC13
  refine Qo Dj rfl (UT hC13 f (by rw [List.length_set]; exact hf)) rfl ?_
  rintro e w13 ⟨_, rfl, rfl, hS13⟩; refine ⟨_, rfl, ?_⟩
  replace hS13 := hS13.join rfl; dsimp only [QU, QT, Q8, Q7] at hS13; clear hC13
  clear hSz5
  refine Qf ?_
  refine W4 (.inl rfl) rfl ?_
  exact ⟨_, rfl, rfl, hS13.pick [0, 1] rfl⟩
 refine Qn rfl rfl h6 ?_
 refine Qg rfl V6 rfl ?_
 refine Qn rfl rfl h6 ?_
 refine Qu rfl QW (by exact hS5.cell 0 rfl rfl) rfl ?_
 refine Qn rfl rfl h6 ?_
 refine Qb rfl rfl ?_
 refine Qn rfl rfl h6 ?_
 refine Xh rfl rfl rfl ?_
 refine QX rfl h6 rfl rfl ?_
 refine Qf (Qc ?_)
 refine Qh (L' := [(26, _), (0, _), (1, _), (2, _)]) (Jr rfl rfl rfl rfl) ?_
 refine Qx rfl (fun h14 => ?_) (fun h14 => ?_)
 ·refine Qd ?_
  have hSz3 := XT (hul) (hl4) (hh0) (hh1) (hS5.pick [1, 2, 3, 4, 5, 6] rfl)
  refine Qa (Qb rfl rfl (Qb rfl rfl ?_))
  have hC15 := hSz3.split [0] [true, false] rfl; dsimp only [QC, Qz, Q9, Q8, Q7] at hC15
  refine Qo Dl rfl (K1 hC15 f hf) rfl ?_
  rintro e w15 ⟨_, rfl, rfl, hS15⟩; refine ⟨_, rfl, ?_⟩
  replace hS15 := hS15.join rfl; dsimp only [QU, QT, Q8, Q7] at hS15; clear hC15
  clear hSz3
  refine Qf (Qc (Qd ?_))
  obtain ⟨ob2, cap2, l2, b12, b22, b32, g12, g22, g32, hul2, hl42, hh02, hh12, hSo2⟩ := W9 (hS15.pick [0, 1] rfl)
  have hl2l : l2.length = ul.length := by have := congrArg List.length hul2; rw [List.length_set, List.length_map] at this; exact this.symm
  obtain ⟨x2, hx2⟩ : ∃ x, l2[f.toNat]? = some x := ⟨_, List.getElem?_eq_getElem (by omega)⟩
  refine Qa (Qb rfl rfl (Qj rfl rfl ?_))
  refine Qg rfl Zx rfl ?_
  refine Qu rfl Wv (by exact hSo2.cell 0 rfl rfl) rfl ?_
  refine Qb rfl rfl (Qb rfl rfl ?_)
  refine Zy rfl RJ Dv Rx rfl rfl ?_
  refine Xp ckC 1 f.toNat hSo2 rfl rfl rfl (by omega) hx2 JG rfl ?_
  intro bx16 capx16 hvx16
  refine ZJ 1 f.toNat (⟨true, false, false, owner⟩ : CkD) hSo2 rfl hvx16 rfl rfl UD (by rfl) (by omega) ?_
  intro w17 hS18; dsimp only [List.set] at hS18
  clear hSo2
  refine Qf (Qc ?_)
  refine Qh (L' := [(0, _), (1, _), (2, _)]) (Y2 rfl rfl rfl) ?_
  refine Qa (Qb rfl rfl (Qj rfl rfl ?_))
  refine Qg rfl V9 rfl ?_
  refine Qu rfl Ww (by exact hS18.cell 0 rfl rfl) rfl ?_
  refine Qb rfl rfl ?_
  refine Ze 2 hS18 keysInt Tryz.underlying109 rfl rfl rfl Y1 (HD _ _) rfl ?_
  refine Y4 rfl rfl rfl rfl ?_
  first | refine X1 2 hS18 keysInt Tryz.underlying109 rfl rfl rfl rfl ?_
  intro w19 hS19; dsimp only [List.set] at hS19
  clear hS18
  refine Qf ?_
  have hS20 := hS19; rw [Vu] at hS20
  have hSz5 := XT (ul := ul.set f.toNat true) (l := l2.set f.toNat ⟨true, false, false, owner⟩) (by rw [Dd, ← hul2, List.set_set]) (by rw [List.length_set]; exact hl42) hh02 (by rw [List.length_set]; exact hh12) (hS20.pick [0, 1, 2, 3, 4, 5] rfl)
  refine Qc (Qa (Qb rfl rfl (Qb rfl rfl ?_)))
  have hC21 := hSz5.split [0] [true, false] rfl; dsimp only [QC, Qz, Q9, Q8, Q7] at hC21
  refine Qo Dj rfl (UT hC21 f (by rw [List.length_set]; exact hf)) rfl ?_
  rintro e w21 ⟨_, rfl, rfl, hS21⟩; refine ⟨_, rfl, ?_⟩
  replace hS21 := hS21.join rfl; dsimp only [QU, QT, Q8, Q7] at hS21; clear hC21
  clear hSz5
  refine Qf ?_
  refine W4 (.inl rfl) rfl ?_
  exact ⟨_, rfl, rfl, hS21.pick [0, 1] rfl⟩
 refine Qy (Qc ?_)
 have hSz6 := XT (hul) (hl4) (hh0) (hh1) (hS5.pick [1, 2, 3, 4, 5, 6] rfl)
 have hxu : x.u = true := by simpa using (by assumption : (!x.u) = false)
 have hus : ul.set f.toNat true = ul := by rw [hul]; exact Vh (by rw [ck_u hx, hxu])
 rw [← hus] at hSz6
 refine Qa (Qb rfl rfl (Qb rfl rfl ?_))
 have hC22 := hSz6.split [0] [true, false] rfl; dsimp only [QC, Qz, Q9, Q8, Q7] at hC22
 refine Qo Dj rfl (UT hC22 f (by rw [List.length_set]; exact hf)) rfl ?_
 rintro e w22 ⟨_, rfl, rfl, hS22⟩; refine ⟨_, rfl, ?_⟩
 replace hS22 := hS22.join rfl; dsimp only [QU, QT, Q8, Q7] at hS22; clear hC22
 clear hSz6
 refine Qf ?_
 refine W4 (.inl rfl) rfl ?_
 exact ⟨_, rfl, rfl, hS22.pick [0, 1] rfl⟩
theorem NB {w : World} {p : Nat} {v0 : Value} {hd : Int} {l : List CkD} {b1 b2 b3 : Nat} {g1 g2 g3 : Int → Option Int} {F : Th} (hS : Sat w [QO p [v0, intV hd, .map (some b1), .map (some b2), .map (some b3)], rowT ckC v0 l, QH Xd b1 (gI g1), QH Xd b2 (gI g2), QH Xd b3 (gI g3), F]) (owner : Int) :
    Calls Tryz.prog 238 #[ptrV p 0, intV owner] w (Ret fun v w' => ∃ n, v = intV n ∧ Sat w' [QO p [v0, intV hd, .map (some b1), .map (some b2), .map (some b3)], rowT ckC v0 l, QH Xd b1 (gI g1), QH Xd b2 (gI g2), QH Xd b3 (gI g3), F]) := by
 refine Qt Tryz.func238 rfl Tryz.ntmps238 rfl ?_
 refine Qd (Qa (Qe rfl rfl (Qf (Qc (Qd ?_)))))
 have hS1 := hS.drew
 refine QK [0, 1, 2, 3, 4, 5, 6, 7, 8, 9, 10, 11, 12, 13] [] ZT (by kernel_rfl) ?_
 refine Qk rfl rfl rfl (fun _ => (Qr rfl)) ?_
 refine Qk rfl rfl rfl (fun _ => (Qq rfl)) ?_
 refine Qk rfl rfl rfl (fun _ => (Qi rfl HF)) ?_
 refine QF rfl rfl rfl (Qm rfl Ww (by exact hS1.cell 0 rfl rfl)) ?_
 refine Qk rfl rfl rfl (fun _ => (Qr rfl)) ?_
 refine QF rfl rfl rfl (Xz 3 hS1 keysInt Tryz.underlying109 rfl rfl rfl Y1 (HD _ _)) ?_
 refine Qk rfl rfl rfl (fun _ => (Qr rfl)) ?_
 refine Qk rfl rfl rfl (fun _ => (Qq rfl)) ?_
 refine Qk rfl rfl rfl (fun _ => (Qi rfl Gc)) ?_
 refine QF rfl rfl rfl (Qm rfl Ww (by exact hS1.cell 0 rfl rfl)) ?_
 refine Qk rfl rfl rfl (fun _ => (Qr rfl)) ?_
 refine QF rfl rfl rfl (Xz 4 hS1 keysInt Tryz.underlying109 rfl rfl rfl Y1 (HD _ _)) ?_
 refine Qk rfl rfl rfl (fun _ => (Ch rfl rfl)) ?_
 refine Qk rfl rfl rfl (fun _ => (Q6 rfl)) ?_
 refine VC.nil (Qc ?_)
 refine Qh (L' := [(4, _)]) (Hd rfl) ?_
 refine Q0 ?_
 refine QV (.inr rfl) rfl rfl ?_
 exact ⟨_, rfl, _, rfl, hS1⟩
theorem ND {w : World} {p : Nat} {v0 : Value} {hd : Int} {l : List CkD} {b1 b2 b3 : Nat} {g1 g2 g3 : Int → Option Int} {F : Th} (hS : Sat w [QO p [v0, intV hd, .map (some b1), .map (some b2), .map (some b3)], rowT ckC v0 l, QH Xd b1 (gI g1), QH Xd b2 (gI g2), QH Xd b3 (gI g3), F]) (owner : Int) :
    Calls Tryz.prog 203 #[ptrV p 0, intV owner] w (Ret fun v w' => ∃ g, v = .bool g ∧ Sat w' [QO p [v0, intV hd, .map (some b1), .map (some b2), .map (some b3)], rowT ckC v0 l, QH Xd b1 (gI g1), QH Xd b2 (gI g2), QH Xd b3 (gI g3), F]) := by
 refine Qt Tryz.func203 rfl Tryz.ntmps203 rfl ?_
 refine Qd (Qa (Qe rfl rfl (Qf (Qc (Qd ?_)))))
 have hS1 := hS.drew
 refine QK [0, 1, 2, 3, 4, 5, 6, 7, 8, 9, 10] [8] ZT (by kernel_rfl) ?_
 refine Qk rfl rfl rfl (fun _ => (Qr rfl)) ?_
 refine Qk rfl rfl rfl (fun _ => (Qq rfl)) ?_
 refine Qk rfl rfl rfl (fun _ => (Qi rfl V9)) ?_
 refine QF rfl rfl rfl (Qm rfl Ww (by exact hS1.cell 0 rfl rfl)) ?_
 refine Qk rfl rfl rfl (fun _ => (Qr rfl)) ?_
 refine QF rfl rfl rfl (Xz 2 hS1 keysInt Tryz.underlying109 rfl rfl rfl Y1 (HD _ _)) ?_
 refine Qk rfl rfl rfl (fun _ => (Qr rfl)) ?_
 refine Qk rfl rfl rfl (fun _ => (Qr rfl)) ?_
 refine Xn rfl rfl rfl rfl rfl rfl ?_
 have hC2 := hS1.split [0, 1, 2, 3, 4] [true, true, true, true, true, false] rfl; dsimp only [QC, Qz, Q9, Q8, Q7] at hC2
 refine Qo cal_238 rfl (NB hC2 owner) rfl ?_
 rintro e w2 ⟨_, rfl, n, rfl, hS2⟩; refine ⟨_, rfl, ?_⟩
 replace hS2 := hS2.join rfl; dsimp only [QU, QT, Q8, Q7] at hS2; clear hC2
 clear hS1
 refine XJ (.cons (.inl ⟨rfl, (Xz 2 hS2 keysInt Tryz.underlying109 rfl rfl rfl Y1 (HD _ _))⟩) (.cons (.inl ⟨rfl, (Qm rfl Ww (by exact hS2.cell 0 rfl rfl))⟩) .nil)) ?_
 refine Qk rfl rfl rfl (fun _ => (Ss rfl rfl)) ?_
 refine Qk rfl rfl rfl (fun _ => (Q6 rfl)) ?_
 refine VC.nil (Qc ?_)
 refine Qh (L' := [(4, _)]) (Hd rfl) ?_
 refine Q0 ?_
 refine QV (.inr rfl) rfl rfl ?_
 exact ⟨_, rfl, _, rfl, hS2⟩
end Go.Proofs.YtkcjfoaejijdoaaGreatDoor
