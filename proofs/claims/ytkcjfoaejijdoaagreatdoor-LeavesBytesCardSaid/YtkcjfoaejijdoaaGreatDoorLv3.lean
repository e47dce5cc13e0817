/- leaves: owned -/
import Derived.Test.YtkcjfoaejijdoaaGreatDoorLv2
namespace Go.Proofs.YtkcjfoaejijdoaaGreatDoor
open Go.RowKit M
set_option linter.unusedVariables false
theorem Tm {V : VS} {j i : Int} : YO V j i ≠ none ↔ V i ≠ none := by
  unfold YO
  cases h : V j with
  | none => exact Iff.rfl
  | some x =>
    dsimp only
    by_cases e : i = j
    · subst e; rw [Q3, h]; simp
    · rw [QI e]
theorem Yo {V : VS} {j i : Int} : refW V j i ≠ none ↔ V i ≠ none := by
  unfold refW; split
  · exact Iff.rfl
  · exact Tm
def XH (V : VS) (j : Int) : Prop := j = 0 ∨ V j ≠ none
theorem stT_len {w : World} {p n F : Nat} {V : VS} {As : List Th} (h : Sat w (Zv p n F V :: As)) {j : Int} {x : Int × Bs} (hx : V j = some x) : x.2.length = 64 := by
  obtain ⟨S, hI, rfl, _, _⟩ := WN h
  unfold vw at hx
  cases hq : S.all j with
  | none => rw [hq] at hx; cases hx
  | some y =>
    rw [hq] at hx
    have hx2 : (y.refs, y.pg) = x := by simpa using hx
    subst hx2
    exact (hI.ent hq).2.2.2.2.1
theorem BF {w : World} {p n F : Nat} {V : VS} {As : List Th} (h : Sat w (Zv p n F V :: As)) {j : Int} (hj : XH V j) : (XM V j).length = 64 := by
  unfold XM
  cases hq : V j with
  | none =>
    rcases hj with rfl | hj
    · simp [zer]
    · exact absurd hq hj
  | some x => exact stT_len h hq
theorem TouR.alive {L L' : LvD} {V V' : VS} {id : Int} {t t' : TrD} {k : KD} {x' : LfD} (h : TouR L V id t k L' V' t' x') (ht : L.tr id = some t) (h0 : id ≠ 0) (ha : XH V (Xo L id k)) : XH V' x'.own := by
  rcases h with ⟨hx, rfl, rfl, rfl⟩ | ⟨_, a, rfl, _, _, rfl⟩
  · have e : Xo L' id k = x'.own := YN h0 ht hx
    rwa [e] at ha
  · rcases ha with e | ha
    · exact .inl e
    · exact .inr (Yo.2 (Yo.2 ha))
set_option maxRecDepth 100000 in
theorem own0_sp {w : World} {b n Fr : Nat} {L : LvD} {V : VS} {F : Th} (hS : Sat w [ZV b L, Zv L.sp n Fr V, F]) (hn : n ≤ 600000000) (hE : ∀ i, JI L.tr Z9 i) {k : KD} (hal : XH V (L.pres k)) :
    Calls Tryz.prog 44 #[ptrV b 0, intV 0, Xu k] w (Ret fun v w' => ∃ L' V' s e, v = .tuple #[intV s, intV e] ∧ OwnP L V k Fr L' V' s e ∧ Sat w' [ZV b L', Zv L'.sp (n + 4) Fr V', F]) := by
 refine Qt Tryz.func44 rfl Tryz.ntmps44 rfl ?_
 refine Qd (Qa ?_)
 refine Zf hS rfl rfl rfl ?_
 intro kb w1 hS1
 replace hS1 := XR hS1
 refine Qe rfl rfl (Qe rfl rfl (Qf (Qc (Qd (Qa (Qe rfl rfl (Qf (Qc (Qd (Qd (Qa (Qb rfl rfl ?_))))))))))))
 refine Xh rfl rfl rfl ?_
 refine Qf (Qc ?_)
 refine Qx rfl (fun h2 => ?_) (fun h2 => ?_)
 ·exact absurd rfl h2
 refine Qy (Qc (Qd (Qa (Qb rfl rfl (Qb rfl rfl ?_)))))
 refine XX rfl XB Xc (by first | exact hS1.blk 0 rfl) (by exact Nat.le_of_ble_eq_true rfl) rfl rfl ?_
 have hC3 := hS1.split [1] [false, true, false, false] rfl; dsimp only [QC, Qz, Q9, Q8, Q7] at hC3
 refine Qo Ht rfl (Hk hC3 hE 0 k) rfl ?_
 rintro e w3 ⟨_, rfl, rfl, hS3⟩; refine ⟨_, rfl, ?_⟩
 replace hS3 := hS3.join rfl; dsimp only [QU, QT, Q8, Q7] at hS3; clear hC3
 clear hS1
 rw [show Xo L 0 k = L.pres k from Jw rfl]
 refine Qe rfl rfl (Qf (Qc ?_))
 refine Qh (L' := [(9, _), (8, _), (7, _), (6, _), (5, _), (0, _)]) (Wf rfl rfl rfl rfl rfl rfl) ?_
 refine Qd (Qd ?_)
 have hS4 := XQ (hS3.pick [0, 1, 2, 3] rfl)
 refine Qa (Qb rfl rfl ?_)
 refine Xh rfl rfl rfl ?_
 refine Qb rfl rfl ?_
 refine Xk 24 rfl (fun h5 => ?_) (fun h5 => ?_)
 ·have hs0 : L.pres k ≠ 0 := h5
  refine Qn rfl rfl (decide_eq_true h5) ?_
  refine Qb rfl rfl ?_
  refine Qn rfl rfl (decide_eq_true h5) ?_
  refine Qj rfl rfl ?_
  refine Qn rfl rfl (decide_eq_true h5) ?_
  refine Qg rfl XK rfl ?_
  refine Qn rfl rfl (decide_eq_true h5) ?_
  refine Qu rfl Xe (by exact hS4.cell 0 rfl rfl) rfl ?_
  refine Qn rfl rfl (decide_eq_true h5) ?_
  refine Qb rfl rfl ?_
  refine Qn rfl rfl (decide_eq_true h5) ?_
  have hC6 := hS4.split [6] [false, false, false, false, false, false, true, false] rfl; dsimp only [QC, Qz, Q9, Q8, Q7] at hC6
  refine Qo Di rfl (BG hC6 (L.pres k)) rfl ?_
  rintro e w6 ⟨_, rfl, rfl, hS6⟩; refine ⟨_, rfl, ?_⟩
  replace hS6 := hS6.join rfl; dsimp only [QU, QT, Q8, Q7] at hS6; clear hC6
  clear hS4
  refine Qn rfl rfl (decide_eq_true h5) ?_
  refine X2 rfl rfl rfl ?_
  refine Xg rfl (decide_eq_true h5) rfl rfl ?_
  refine Qf (Qc ?_)
  refine Qh (L' := [(32, _), (9, _), (8, _), (7, _), (6, _), (5, _), (0, _)]) (WK rfl rfl rfl rfl rfl rfl rfl) ?_
  refine Qx rfl (fun h7 => ?_) (fun h7 => ?_)
  ·have hs1 : Za V (L.pres k) = 1 := h7
   refine Qd (Qa (Qb rfl rfl (Qe rfl rfl (Qe rfl rfl (Qf (Qc (Q0 (Qs ?_))))))))
   refine Wo (.inr rfl) rfl rfl rfl ?_
   exact ⟨_, rfl, L, V, _, _, rfl, .inl ⟨rfl, rfl, hs0, hs1, rfl, rfl⟩, ((Xx (m := n + 4) (by omega) (hS6.pick [0, 1, 2, 3, 4, 5, 7] rfl)).reorder [1, 2, 3, 4, 5, 0, 6] rfl |> fun q => QY q)⟩
  have hnx : ¬ (L.pres k ≠ 0 ∧ Za V (L.pres k) = 1) := fun q => h7 q.2
  refine Qy (Qc (Qd ?_))
  have hS8 := hS6.drew
  refine QK [0, 1, 2, 3, 4, 5, 6, 7, 8, 9, 10, 11, 12, 13, 14, 15] [9, 10] ZT (by kernel_rfl) ?_
  refine Qk rfl rfl rfl (fun _ => (Qr rfl)) ?_
  refine Qk rfl rfl rfl (fun _ => (Qq rfl)) ?_
  refine Qk rfl rfl rfl (fun _ => (Qi rfl XK)) ?_
  refine QF rfl rfl rfl (Qm rfl Xe (by exact hS8.cell 1 rfl rfl)) ?_
  refine Qk rfl rfl rfl (fun _ => (Qr rfl)) ?_
  refine Qk rfl rfl rfl (fun _ => (Qq rfl)) ?_
  refine Qk rfl rfl rfl (fun _ => (Qi rfl XK)) ?_
  refine QF rfl rfl rfl (Qm rfl Xe (by exact hS8.cell 1 rfl rfl)) ?_
  refine Qk rfl rfl rfl (fun _ => (Qr rfl)) ?_
  refine Xn rfl rfl rfl rfl rfl rfl ?_
  have hC9 := hS8.split [0] [true, false, false, false, false, false, false, false] rfl; dsimp only [QC, Qz, Q9, Q8, Q7] at hC9
  refine Qo Jz rfl (YG hC9 (L.pres k)) rfl ?_
  rintro e w9 ⟨_, rfl, rfl, hS9⟩; refine ⟨_, rfl, ?_⟩
  replace hS9 := hS9.join rfl; dsimp only [QU, QT, Q8, Q7] at hS9; clear hC9
  clear hS8
  refine XJ (.skip (by kernel_rfl) (.cons (.inl ⟨rfl, (Qm rfl Xe (by exact hS9.cell 1 rfl rfl))⟩) .nil)) ?_
  refine Xn rfl rfl rfl rfl rfl rfl ?_
  have hpg0 := BF (hS9.pick [0, 1, 2, 3, 4, 5, 6, 7] rfl) hal
  have hC10 := hS9.split [0] [true, false, false, false, false, false, false, false] rfl; dsimp only [QC, Qz, Q9, Q8, Q7] at hC10
  refine Qo VM rfl (Re hC10 (by omega) hpg0) rfl ?_
  rintro e w10 ⟨_, rfl, (⟨rfl, hag, hS10⟩ | ⟨fr, rfl, hf1, hf0, hS10⟩)⟩
  ·refine ⟨_, rfl, ?_⟩
   replace hS10 := hS10.join rfl; dsimp only [QU, QT, Q8, Q7] at hS10; clear hC10
   clear hS9
   refine XJ (.skip (by kernel_rfl) (.skip (by kernel_rfl) .nil)) ?_
   refine Qk rfl rfl rfl (fun _ => (Qr rfl)) ?_
   refine Qk rfl rfl rfl (fun _ => (QJ rfl rfl)) ?_
   refine Qk rfl rfl rfl (fun _ => (QJ rfl rfl)) ?_
   refine Qk rfl rfl rfl (fun _ => (Q6 rfl)) ?_
   refine Qk rfl rfl rfl (fun _ => (Q6 rfl)) ?_
   refine VC.nil (Qc ?_)
   refine Qh (L' := [(11, _), (10, _), (8, _), (7, _), (6, _), (5, _), (0, _)]) (WK rfl rfl rfl rfl rfl rfl rfl) ?_
   refine Qd (Qd (Qa (Qb rfl rfl ?_)))
   refine Xh rfl rfl rfl ?_
   refine Qf (Qc ?_)
   refine Qx rfl (fun h11 => ?_) (fun h11 => ?_)
   ·refine Qd (Qa (Qb rfl rfl (Qe rfl rfl (Qe rfl rfl (Qf (Qc (Q0 (Qs ?_))))))))
    refine Wo (.inr rfl) rfl rfl rfl ?_
    exact ⟨_, rfl, L, V, _, _, rfl, .inr (.inl ⟨rfl, rfl, hag, rfl, rfl⟩), ((Xx (m := n + 4) (by omega) (hS10.pick [0, 1, 2, 3, 4, 5, 7] rfl)).reorder [1, 2, 3, 4, 5, 0, 6] rfl |> fun q => QY q)⟩
   exact absurd (by decide) h11
  refine ⟨_, rfl, ?_⟩
  replace hS10 := hS10.join rfl; dsimp only [QU, QT, Q8, Q7] at hS10; clear hC10
  clear hS9
  refine XJ (.skip (by kernel_rfl) (.skip (by kernel_rfl) .nil)) ?_
  refine Qk rfl rfl rfl (fun _ => (Qr rfl)) ?_
  refine Qk rfl rfl rfl (fun _ => (QJ rfl rfl)) ?_
  refine Qk rfl rfl rfl (fun _ => (QJ rfl rfl)) ?_
  refine Qk rfl rfl rfl (fun _ => (Q6 rfl)) ?_
  refine Qk rfl rfl rfl (fun _ => (Q6 rfl)) ?_
  refine VC.nil (Qc ?_)
  refine Qh (L' := [(11, _), (10, _), (8, _), (7, _), (6, _), (5, _), (0, _)]) (WK rfl rfl rfl rfl rfl rfl rfl) ?_
  refine Qd (Qd (Qa (Qb rfl rfl ?_)))
  refine Xh rfl rfl rfl ?_
  refine Qf (Qc ?_)
  refine Qx rfl (fun h12 => ?_) (fun h12 => ?_)
  ·exact absurd rfl h12
  refine Qy (Qc (Qd (Qd (Qa (Qb rfl rfl ?_)))))
  refine Je Tryz.underlying89 rfl rfl rfl ?_
  refine Qf (Qc ?_)
  refine Qh (L' := [(52, _), (10, _), (8, _), (7, _), (6, _), (5, _), (0, _)]) (WK rfl rfl rfl rfl rfl rfl rfl) ?_
  refine XP rfl ?_
  refine Qa (Qb rfl rfl ?_)
  refine XX rfl XB Xc (by exact hS10.blk 6 rfl) (by exact Nat.le_of_ble_eq_true rfl) rfl rfl ?_
  refine Qb rfl rfl ?_
  have hC13 := hS10.split [1, 2, 5, 0] [true, true, true, false, false, true, false, false] rfl; dsimp only [QC, Qz, Q9, Q8, Q7] at hC13
  refine Qo Gr rfl (Pw hC13 (by omega) k fr) rfl ?_
  rintro e w13 ⟨_, rfl, rfl, hS13⟩; refine ⟨_, rfl, ?_⟩
  replace hS13 := hS13.join rfl; dsimp only [QU, QT, Q8, Q7] at hS13; clear hC13
  clear hS10
  refine Qf (Qc ?_)
  refine Qh (L' := [(10, _), (7, _), (6, _)]) (Y2 rfl rfl rfl) ?_
  refine Qd (Qa (Qb rfl rfl (Qe rfl rfl (Qe rfl rfl (Qf (Qc (Q0 ?_)))))))
  refine Wo (.inr rfl) rfl rfl rfl ?_
  exact ⟨_, rfl, { L with pres := XZ L.pres k fr, sh := Jt (Xj V fr (some (1, XM V (L.pres k)))) L.sh (L.pres k) }, _, _, _, rfl, .inr (.inr ⟨rfl, hf1, hf0, hnx, rfl, rfl⟩), ((Xx (m := n + 4) (by omega) (hS13.pick [3, 0, 1, 4, 5, 2, 7] rfl)).reorder [1, 2, 3, 4, 5, 0, 6] rfl |> fun q => QY (L := { L with pres := XZ L.pres k fr, sh := Jt (Xj V fr (some (1, XM V (L.pres k)))) L.sh (L.pres k) }) q)⟩
 have hnx : ¬ (L.pres k ≠ 0 ∧ Za V (L.pres k) = 1) := fun q => h5 q.1
 refine Ql rfl rfl (decide_eq_false h5) rfl ?_
 refine Ql rfl rfl (decide_eq_false h5) rfl ?_
 refine Ql rfl rfl (decide_eq_false h5) rfl ?_
 refine Ql rfl rfl (decide_eq_false h5) rfl ?_
 refine Ql rfl rfl (decide_eq_false h5) rfl ?_
 refine Ql rfl rfl (decide_eq_false h5) rfl ?_
 refine Ql rfl rfl (decide_eq_false h5) rfl ?_
 refine QX rfl (decide_eq_false h5) rfl rfl ?_
 refine Qf (Qc ?_)
 refine Qh (L' := [(32, _), (9, _), (8, _), (7, _), (6, _), (5, _), (0, _)]) (WK rfl rfl rfl rfl rfl rfl rfl) ?_
 refine Xm rfl ?_
 refine Qy (Qc (Qd ?_))
 have hS14 := hS4.drew
 refine QK [0, 1, 2, 3, 4, 5, 6, 7, 8, 9, 10, 11, 12, 13, 14, 15] [9, 10] ZT (by kernel_rfl) ?_
 refine Qk rfl rfl rfl (fun _ => (Qr rfl)) ?_
 refine Qk rfl rfl rfl (fun _ => (Qq rfl)) ?_
 refine Qk rfl rfl rfl (fun _ => (Qi rfl XK)) ?_
 refine QF rfl rfl rfl (Qm rfl Xe (by exact hS14.cell 0 rfl rfl)) ?_
 refine Qk rfl rfl rfl (fun _ => (Qr rfl)) ?_
 refine Qk rfl rfl rfl (fun _ => (Qq rfl)) ?_
 refine Qk rfl rfl rfl (fun _ => (Qi rfl XK)) ?_
 refine QF rfl rfl rfl (Qm rfl Xe (by exact hS14.cell 0 rfl rfl)) ?_
 refine Qk rfl rfl rfl (fun _ => (Qr rfl)) ?_
 refine Xn rfl rfl rfl rfl rfl rfl ?_
 have hC15 := hS14.split [6] [false, false, false, false, false, false, true, false] rfl; dsimp only [QC, Qz, Q9, Q8, Q7] at hC15
 refine Qo Jz rfl (YG hC15 (L.pres k)) rfl ?_
 rintro e w15 ⟨_, rfl, rfl, hS15⟩; refine ⟨_, rfl, ?_⟩
 replace hS15 := hS15.join rfl; dsimp only [QU, QT, Q8, Q7] at hS15; clear hC15
 clear hS14
 refine XJ (.skip (by kernel_rfl) (.cons (.inl ⟨rfl, (Qm rfl Xe (by exact hS15.cell 1 rfl rfl))⟩) .nil)) ?_
 refine Xn rfl rfl rfl rfl rfl rfl ?_
 have hpg0 := BF (hS15.pick [0, 1, 2, 3, 4, 5, 6, 7] rfl) hal
 have hC16 := hS15.split [0] [true, false, false, false, false, false, false, false] rfl; dsimp only [QC, Qz, Q9, Q8, Q7] at hC16
 refine Qo VM rfl (Re hC16 (by omega) hpg0) rfl ?_
 rintro e w16 ⟨_, rfl, (⟨rfl, hag, hS16⟩ | ⟨fr, rfl, hf1, hf0, hS16⟩)⟩
 ·refine ⟨_, rfl, ?_⟩
  replace hS16 := hS16.join rfl; dsimp only [QU, QT, Q8, Q7] at hS16; clear hC16
  clear hS15
  refine XJ (.skip (by kernel_rfl) (.skip (by kernel_rfl) .nil)) ?_
  refine Qk rfl rfl rfl (fun _ => (Qr rfl)) ?_
  refine Qk rfl rfl rfl (fun _ => (QJ rfl rfl)) ?_
  refine Qk rfl rfl rfl (fun _ => (QJ rfl rfl)) ?_
  refine Qk rfl rfl rfl (fun _ => (Q6 rfl)) ?_
  refine Qk rfl rfl rfl (fun _ => (Q6 rfl)) ?_
  refine VC.nil (Qc ?_)
  refine Qh (L' := [(11, _), (10, _), (8, _), (7, _), (6, _), (5, _), (0, _)]) (WK rfl rfl rfl rfl rfl rfl rfl) ?_
  refine Qd (Qd (Qa (Qb rfl rfl ?_)))
  refine Xh rfl rfl rfl ?_
  refine Qf (Qc ?_)
  refine Qx rfl (fun h17 => ?_) (fun h17 => ?_)
  ·refine Qd (Qa (Qb rfl rfl (Qe rfl rfl (Qe rfl rfl (Qf (Qc (Q0 (Qs ?_))))))))
   refine Wo (.inr rfl) rfl rfl rfl ?_
   exact ⟨_, rfl, L, V, _, _, rfl, .inr (.inl ⟨rfl, rfl, hag, rfl, rfl⟩), ((Xx (m := n + 4) (by omega) (hS16.pick [0, 1, 2, 3, 4, 5, 7] rfl)).reorder [1, 2, 3, 4, 5, 0, 6] rfl |> fun q => QY q)⟩
  exact absurd (by decide) h17
 refine ⟨_, rfl, ?_⟩
 replace hS16 := hS16.join rfl; dsimp only [QU, QT, Q8, Q7] at hS16; clear hC16
 clear hS15
 refine XJ (.skip (by kernel_rfl) (.skip (by kernel_rfl) .nil)) ?_
 refine Qk rfl rfl rfl (fun _ => (Qr rfl)) ?_
 refine Qk rfl rfl rfl (fun _ => (QJ rfl rfl)) ?_
 refine Qk rfl rfl rfl (fun _ => (QJ rfl rfl)) ?_
 refine Qk rfl rfl rfl (fun _ => (Q6 rfl)) ?_
 refine Qk rfl rfl rfl (fun _ => (Q6 rfl)) ?_
 refine VC.nil (Qc ?_)
 refine Qh (L' := [(11, _), (10, _), (8, _), (7, _), (6, _), (5, _), (0, _)]) (WK rfl rfl rfl rfl rfl rfl rfl) ?_
 refine Qd (Qd (Qa (Qb rfl rfl ?_)))
 refine Xh rfl rfl rfl ?_
 refine Qf (Qc ?_)
 refine Qx rfl (fun h18 => ?_) (fun h18 => ?_)
 ·exact absurd rfl h18
 refine Qy (Qc (Qd (Qd (Qa (Qb rfl rfl ?_)))))
 refine Je Tryz.underlying89 rfl rfl rfl ?_
 refine Qf (Qc ?_)
 refine Qh (L' := [(52, _), (10, _), (8, _), (7, _), (6, _), (5, _), (0, _)]) (WK rfl rfl rfl rfl rfl rfl rfl) ?_
 refine XP rfl ?_
 refine Qa (Qb rfl rfl ?_)
 refine XX rfl XB Xc (by exact hS16.blk 6 rfl) (by exact Nat.le_of_ble_eq_true rfl) rfl rfl ?_
 refine Qb rfl rfl ?_
 have hC19 := hS16.split [1, 2, 5, 0] [true, true, true, false, false, true, false, false] rfl; dsimp only [QC, Qz, Q9, Q8, Q7] at hC19
 refine Qo Gr rfl (Pw hC19 (by omega) k fr) rfl ?_
 rintro e w19 ⟨_, rfl, rfl, hS19⟩; refine ⟨_, rfl, ?_⟩
 replace hS19 := hS19.join rfl; dsimp only [QU, QT, Q8, Q7] at hS19; clear hC19
 clear hS16
 refine Qf (Qc ?_)
 refine Qh (L' := [(10, _), (7, _), (6, _)]) (Y2 rfl rfl rfl) ?_
 refine Qd (Qa (Qb rfl rfl (Qe rfl rfl (Qe rfl rfl (Qf (Qc (Q0 ?_)))))))
 refine Wo (.inr rfl) rfl rfl rfl ?_
 exact ⟨_, rfl, { L with pres := XZ L.pres k fr, sh := Jt (Xj V fr (some (1, XM V (L.pres k)))) L.sh (L.pres k) }, _, _, _, rfl, .inr (.inr ⟨rfl, hf1, hf0, hnx, rfl, rfl⟩), ((Xx (m := n + 4) (by omega) (hS19.pick [3, 0, 1, 4, 5, 2, 7] rfl)).reorder [1, 2, 3, 4, 5, 0, 6] rfl |> fun q => QY (L := { L with pres := XZ L.pres k fr, sh := Jt (Xj V fr (some (1, XM V (L.pres k)))) L.sh (L.pres k) }) q)⟩
set_option maxRecDepth 100000 in
set_option maxHeartbeats 800000000 in
theorem ownT_sp {w : World} {b n Fr : Nat} {L : LvD} {V : VS} {F : Th} (hS : Sat w [ZV b L, Zv L.sp n Fr V, F]) (hn : n ≤ 600000000) (hE : ∀ i, JI L.tr Z9 i) {id : Int} {t : TrD} (ht : L.tr id = some t) {k : KD} (h0 : id ≠ 0) (hal : XH V (Xo L id k)) :
    Calls Tryz.prog 44 #[ptrV b 0, intV id, Xu k] w (Ret fun v w' => ∃ L1 V1 t1 x1 L' V' s e, v = .tuple #[intV s, intV e] ∧ TouR L V id t k L1 V1 t1 x1 ∧ OwnT L1 V1 id t1 k x1 Fr L' V' s e ∧ Sat w' [ZV b L', Zv L'.sp (n + 4) Fr V', F]) := by
 refine Qt Tryz.func44 rfl Tryz.ntmps44 rfl ?_
 refine Qd (Qa ?_)
 refine Zf hS rfl rfl rfl ?_
 intro kb w1 hS1
 replace hS1 := XR hS1
 refine Qe rfl rfl (Qe rfl rfl (Qf (Qc (Qd (Qa (Qe rfl rfl (Qf (Qc (Qd (Qd (Qa (Qb rfl rfl ?_))))))))))))
 refine Xh rfl rfl rfl ?_
 refine Qf (Qc ?_)
 refine Qx rfl (fun h2 => ?_) (fun h2 => ?_)
 ·refine Qa (Qb rfl rfl (Qb rfl rfl ?_))
  refine XX rfl XB Xc (by first | exact hS1.blk 0 rfl) (by exact Nat.le_of_ble_eq_true rfl) rfl rfl ?_
  have hC3 := hS1.split [1, 2] [false, true, true, false] rfl; dsimp only [QC, Qz, Q9, Q8, Q7] at hC3
  refine Qo Dg rfl (Vf hC3 (by omega) hE ht (k := k)) rfl ?_
  rintro e w3 ⟨_, rfl, L1, V1, t1, x1, rfl, hT, hS3⟩; refine ⟨_, rfl, ?_⟩
  replace hS3 := hS3.join rfl; dsimp only [QU, QT, Q8, Q7] at hS3; clear hC3
  clear hS1
  have ht1 := hT.tr ht
  have hx1 := hT.lv
  have hE1 := hT.ends ht hE
  have hal1 := hT.alive ht h0 hal
  refine Qe rfl rfl (Qf (Qc ?_))
  refine Qh (L' := [(8, _), (7, _), (6, _), (5, _), (0, _), (1, _)]) (Wf rfl rfl rfl rfl rfl rfl) ?_
  refine Qd (Qa (Qb rfl rfl (Qb rfl rfl ?_)))
  refine XX rfl XB Xc (by first | exact hS3.blk 2 rfl) (by exact Nat.le_of_ble_eq_true rfl) rfl rfl ?_
  have hC4 := hS3.split [0] [true, false, false, false] rfl; dsimp only [QC, Qz, Q9, Q8, Q7] at hC4
  refine Qo Ht rfl (Hk hC4 hE1 id k) rfl ?_
  rintro e w4 ⟨_, rfl, rfl, hS4⟩; refine ⟨_, rfl, ?_⟩
  replace hS4 := hS4.join rfl; dsimp only [QU, QT, Q8, Q7] at hS4; clear hC4
  clear hS3
  rw [hT.sees ht h0]
  refine Qe rfl rfl (Qf (Qc ?_))
  refine Qh (L' := [(9, _), (8, _), (7, _), (6, _), (5, _), (0, _)]) (Wf rfl rfl rfl rfl rfl rfl) ?_
  refine Qd (Qd ?_)
  have hS5 := XQ (hS4.pick [0, 1, 2, 3] rfl)
  refine Qa (Qb rfl rfl ?_)
  refine Xh rfl rfl rfl ?_
  refine Qb rfl rfl ?_
  refine Xk 24 rfl (fun h6 => ?_) (fun h6 => ?_)
  ·have hs0 : x1.own ≠ 0 := h6
   refine Qn rfl rfl (decide_eq_true h6) ?_
   refine Qb rfl rfl ?_
   refine Qn rfl rfl (decide_eq_true h6) ?_
   refine Qj rfl rfl ?_
   refine Qn rfl rfl (decide_eq_true h6) ?_
   refine Qg rfl XK rfl ?_
   refine Qn rfl rfl (decide_eq_true h6) ?_
   refine Qu rfl Xe (by exact hS5.cell 0 rfl rfl) rfl ?_
   refine Qn rfl rfl (decide_eq_true h6) ?_
   refine Qb rfl rfl ?_
   refine Qn rfl rfl (decide_eq_true h6) ?_
   have hC7 := hS5.split [5] [false, false, false, false, false, true, false, false] rfl; dsimp only [QC, Qz, Q9, Q8, Q7] at hC7
   refine Qo Di rfl (BG hC7 x1.own) rfl ?_
   rintro e w7 ⟨_, rfl, rfl, hS7⟩; refine ⟨_, rfl, ?_⟩
   replace hS7 := hS7.join rfl; dsimp only [QU, QT, Q8, Q7] at hS7; clear hC7
   clear hS5
   refine Qn rfl rfl (decide_eq_true h6) ?_
   refine X2 rfl rfl rfl ?_
   refine Xg rfl (decide_eq_true h6) rfl rfl ?_
   refine Qf (Qc ?_)
   refine Qh (L' := [(32, _), (9, _), (8, _), (7, _), (6, _), (5, _), (0, _)]) (WK rfl rfl rfl rfl rfl rfl rfl) ?_
   refine Qx rfl (fun h8 => ?_) (fun h8 => ?_)
   ·have hs1 : Za V1 x1.own = 1 := h8
    refine Qd (Qa (Qb rfl rfl (Qe rfl rfl (Qe rfl rfl (Qf (Qc (Q0 (Qs ?_))))))))
    refine Wo (.inr rfl) rfl rfl rfl ?_
    exact ⟨_, rfl, L1, V1, t1, x1, L1, V1, _, _, rfl, hT, .inl ⟨rfl, rfl, hs0, hs1, rfl, rfl⟩, ((Xx (m := n + 4) (by omega) (hS7.pick [0, 1, 2, 3, 4, 5, 7] rfl)).reorder [1, 2, 3, 4, 5, 0, 6] rfl |> fun q => QY q)⟩
   have hnx : ¬ (x1.own ≠ 0 ∧ Za V1 x1.own = 1) := fun q => h8 q.2
   refine Qy (Qc (Qd ?_))
   have hS9 := hS7.drew
   refine QK [0, 1, 2, 3, 4, 5, 6, 7, 8, 9, 10, 11, 12, 13, 14, 15] [9, 10] ZT (by kernel_rfl) ?_
   refine Qk rfl rfl rfl (fun _ => (Qr rfl)) ?_
   refine Qk rfl rfl rfl (fun _ => (Qq rfl)) ?_
   refine Qk rfl rfl rfl (fun _ => (Qi rfl XK)) ?_
   refine QF rfl rfl rfl (Qm rfl Xe (by exact hS9.cell 1 rfl rfl)) ?_
   refine Qk rfl rfl rfl (fun _ => (Qr rfl)) ?_
   refine Qk rfl rfl rfl (fun _ => (Qq rfl)) ?_
   refine Qk rfl rfl rfl (fun _ => (Qi rfl XK)) ?_
   refine QF rfl rfl rfl (Qm rfl Xe (by exact hS9.cell 1 rfl rfl)) ?_
   refine Qk rfl rfl rfl (fun _ => (Qr rfl)) ?_
   refine Xn rfl rfl rfl rfl rfl rfl ?_
   have hC10 := hS9.split [0] [true, false, false, false, false, false, false, false] rfl; dsimp only [QC, Qz, Q9, Q8, Q7] at hC10
   refine Qo Jz rfl (YG hC10 x1.own) rfl ?_
   rintro e w10 ⟨_, rfl, rfl, hS10⟩; refine ⟨_, rfl, ?_⟩
   replace hS10 := hS10.join rfl; dsimp only [QU, QT, Q8, Q7] at hS10; clear hC10
   clear hS9
   refine XJ (.skip (by kernel_rfl) (.cons (.inl ⟨rfl, (Qm rfl Xe (by exact hS10.cell 1 rfl rfl))⟩) .nil)) ?_
   refine Xn rfl rfl rfl rfl rfl rfl ?_
   have hpg1 := BF (hS10.pick [0, 1, 2, 3, 4, 5, 6, 7] rfl) hal1
   have hC11 := hS10.split [0] [true, false, false, false, false, false, false, false] rfl; dsimp only [QC, Qz, Q9, Q8, Q7] at hC11
   refine Qo VM rfl (Re hC11 (by omega) hpg1) rfl ?_
   rintro e w11 ⟨_, rfl, (⟨rfl, hag, hS11⟩ | ⟨fr, rfl, hf1, hf0, hS11⟩)⟩
   ·refine ⟨_, rfl, ?_⟩
    replace hS11 := hS11.join rfl; dsimp only [QU, QT, Q8, Q7] at hS11; clear hC11
    clear hS10
    refine XJ (.skip (by kernel_rfl) (.skip (by kernel_rfl) .nil)) ?_
    refine Qk rfl rfl rfl (fun _ => (Qr rfl)) ?_
    refine Qk rfl rfl rfl (fun _ => (QJ rfl rfl)) ?_
    refine Qk rfl rfl rfl (fun _ => (QJ rfl rfl)) ?_
    refine Qk rfl rfl rfl (fun _ => (Q6 rfl)) ?_
    refine Qk rfl rfl rfl (fun _ => (Q6 rfl)) ?_
    refine VC.nil (Qc ?_)
    refine Qh (L' := [(11, _), (10, _), (8, _), (7, _), (6, _), (5, _), (0, _)]) (WK rfl rfl rfl rfl rfl rfl rfl) ?_
    refine Qd (Qd (Qa (Qb rfl rfl ?_)))
    refine Xh rfl rfl rfl ?_
    refine Qf (Qc ?_)
    refine Qx rfl (fun h12 => ?_) (fun h12 => ?_)
    ·refine Qd (Qa (Qb rfl rfl (Qe rfl rfl (Qe rfl rfl (Qf (Qc (Q0 (Qs ?_))))))))
     refine Wo (.inr rfl) rfl rfl rfl ?_
     exact ⟨_, rfl, L1, V1, t1, x1, L1, V1, _, _, rfl, hT, .inr (.inl ⟨rfl, rfl, hag, rfl, rfl⟩), ((Xx (m := n + 4) (by omega) (hS11.pick [0, 1, 2, 3, 4, 5, 7] rfl)).reorder [1, 2, 3, 4, 5, 0, 6] rfl |> fun q => QY q)⟩
    exact absurd (by decide) h12
   refine ⟨_, rfl, ?_⟩
   replace hS11 := hS11.join rfl; dsimp only [QU, QT, Q8, Q7] at hS11; clear hC11
   clear hS10
   refine XJ (.skip (by kernel_rfl) (.skip (by kernel_rfl) .nil)) ?_
   refine Qk rfl rfl rfl (fun _ => (Qr rfl)) ?_
   refine Qk rfl rfl rfl (fun _ => (QJ rfl rfl)) ?_
   refine Qk rfl rfl rfl (fun _ => (QJ rfl rfl)) ?_
   refine Qk rfl rfl rfl (fun _ => (Q6 rfl)) ?_
   refine Qk rfl rfl rfl (fun _ => (Q6 rfl)) ?_
   refine VC.nil (Qc ?_)
   refine Qh (L' := [(11, _), (10, _), (8, _), (7, _), (6, _), (5, _), (0, _)]) (WK rfl rfl rfl rfl rfl rfl rfl) ?_
   refine Qd (Qd (Qa (Qb rfl rfl ?_)))
   refine Xh rfl rfl rfl ?_
   refine Qf (Qc ?_)
   refine Qx rfl (fun h13 => ?_) (fun h13 => ?_)
   ·exact absurd rfl h13
   refine Qy (Qc (Qd (Qd (Qa (Qb rfl rfl ?_)))))
   refine ZX Tryz.underlying89 rfl rfl rfl ?_
   refine Qf (Qc ?_)
   refine Qh (L' := [(52, _), (10, _), (8, _), (7, _), (6, _), (5, _), (0, _)]) (WK rfl rfl rfl rfl rfl rfl rfl) ?_
   refine Xm rfl ?_
   refine Qd ?_
   have hS14 := QY (L := L1) (hS11.pick [1, 2, 3, 4, 5, 0, 6, 7] rfl)
   have hS15 := JO ht1 hx1 (hS14.pick [0, 1, 2, 3] rfl)
   refine Qa (Qb rfl rfl (Qb rfl rfl (Qj rfl rfl ?_)))
   refine Qg rfl WE rfl ?_
   refine Qu rfl QW (by exact hS15.cell 0 rfl rfl) rfl ?_
   have hC16 := hS15.split [6, 9, 10] [false, false, false, false, false, false, true, false, false, true, true, false, false] rfl; dsimp only [QC, Qz, Q9, Q8, Q7] at hC16
   refine Qo Hu rfl (Hi hC16 (by omega) x1.own) rfl ?_
   rintro e w16 ⟨_, rfl, rfl, hS16⟩; refine ⟨_, rfl, ?_⟩
   replace hS16 := hS16.join rfl; dsimp only [QU, QT, Q8, Q7] at hS16; clear hC16
   clear hS15
   refine Qf (Qc ?_)
   refine Qh (L' := [(10, _), (8, _), (7, _), (6, _)]) (Jr rfl rfl rfl rfl) ?_
   refine Qa (Qb rfl rfl (Qb rfl rfl (Qj rfl rfl ?_)))
   refine Qg rfl WE rfl ?_
   refine Xb hS16 rfl rfl YM rfl (i := 3) rfl (by exact Nat.le_of_ble_eq_true rfl) ?_
   intro w17 hS17; dsimp only [List.set] at hS17
   clear hS16
   refine Qf (Qc (Qd (Qa (Qb rfl rfl (Qe rfl rfl (Qe rfl rfl (Qf (Qc (Q0 ?_)))))))))
   refine Wo (.inr rfl) rfl rfl rfl ?_
   have hS18 := WD (L := { L1 with sh := Jt (Xj V1 fr (some (1, XM V1 x1.own))) L1.sh x1.own }) (y := { x1 with own := fr }) ht1 hx1 rfl (hS17.pick [3, 4, 5, 6, 7, 8, 0, 9, 10, 1, 2, 11, 12] rfl)
   exact ⟨_, rfl, L1, V1, t1, x1, Zj ({ L1 with sh := Jt (Xj V1 fr (some (1, XM V1 x1.own))) L1.sh x1.own }) id t1 k { x1 with own := fr }, _, _, _, rfl, hT, .inr (.inr ⟨rfl, hf1, hf0, hnx, rfl, rfl⟩), (Xx (m := n + 4) (by omega) (hS18.pick [1, 0, 3] rfl)).reorder [1, 0, 2] rfl⟩
  have hnx : ¬ (x1.own ≠ 0 ∧ Za V1 x1.own = 1) := fun q => h6 q.1
  refine Ql rfl rfl (decide_eq_false h6) rfl ?_
  refine Ql rfl rfl (decide_eq_false h6) rfl ?_
  refine Ql rfl rfl (decide_eq_false h6) rfl ?_
  refine Ql rfl rfl (decide_eq_false h6) rfl ?_
  refine Ql rfl rfl (decide_eq_false h6) rfl ?_
  refine Ql rfl rfl (decide_eq_false h6) rfl ?_
  refine Ql rfl rfl (decide_eq_false h6) rfl ?_
  refine QX rfl (decide_eq_false h6) rfl rfl ?_
  refine Qf (Qc ?_)
  refine Qh (L' := [(32, _), (9, _), (8, _), (7, _), (6, _), (5, _), (0, _)]) (WK rfl rfl rfl rfl rfl rfl rfl) ?_
  refine Xm rfl ?_
  refine Qy (Qc (Qd ?_))
  have hS19 := hS5.drew
  refine QK [0, 1, 2, 3, 4, 5, 6, 7, 8, 9, 10, 11, 12, 13, 14, 15] [9, 10] ZT (by kernel_rfl) ?_
  refine Qk rfl rfl rfl (fun _ => (Qr rfl)) ?_
  refine Qk rfl rfl rfl (fun _ => (Qq rfl)) ?_
  refine Qk rfl rfl rfl (fun _ => (Qi rfl XK)) ?_
  refine QF rfl rfl rfl (Qm rfl Xe (by exact hS19.cell 0 rfl rfl)) ?_
  refine Qk rfl rfl rfl (fun _ => (Qr rfl)) ?_
  refine Qk rfl rfl rfl (fun _ => (Qq rfl)) ?_
  refine Qk rfl rfl rfl (fun _ => (Qi rfl XK)) ?_
  refine QF rfl rfl rfl (Qm rfl Xe (by exact hS19.cell 0 rfl rfl)) ?_
  refine Qk rfl rfl rfl (fun _ => (Qr rfl)) ?_
  refine Xn rfl rfl rfl rfl rfl rfl ?_
  have hC20 := hS19.split [5] [false, false, false, false, false, true, false, false] rfl; dsimp only [QC, Qz, Q9, Q8, Q7] at hC20
  refine Qo Jz rfl (YG hC20 x1.own) rfl ?_
  rintro e w20 ⟨_, rfl, rfl, hS20⟩; refine ⟨_, rfl, ?_⟩
  replace hS20 := hS20.join rfl; dsimp only [QU, QT, Q8, Q7] at hS20; clear hC20
  clear hS19
  refine XJ (.skip (by kernel_rfl) (.cons (.inl ⟨rfl, (Qm rfl Xe (by exact hS20.cell 1 rfl rfl))⟩) .nil)) ?_
  refine Xn rfl rfl rfl rfl rfl rfl ?_
  have hpg1 := BF (hS20.pick [0, 1, 2, 3, 4, 5, 6, 7] rfl) hal1
  have hC21 := hS20.split [0] [true, false, false, false, false, false, false, false] rfl; dsimp only [QC, Qz, Q9, Q8, Q7] at hC21
  refine Qo VM rfl (Re hC21 (by omega) hpg1) rfl ?_
  rintro e w21 ⟨_, rfl, (⟨rfl, hag, hS21⟩ | ⟨fr, rfl, hf1, hf0, hS21⟩)⟩
  ·refine ⟨_, rfl, ?_⟩
   replace hS21 := hS21.join rfl; dsimp only [QU, QT, Q8, Q7] at hS21; clear hC21
   clear hS20
   refine XJ (.skip (by kernel_rfl) (.skip (by kernel_rfl) .nil)) ?_
   refine Qk rfl rfl rfl (fun _ => (Qr rfl)) ?_
   refine Qk rfl rfl rfl (fun _ => (QJ rfl rfl)) ?_
   refine Qk rfl rfl rfl (fun _ => (QJ rfl rfl)) ?_
   refine Qk rfl rfl rfl (fun _ => (Q6 rfl)) ?_
   refine Qk rfl rfl rfl (fun _ => (Q6 rfl)) ?_
   refine VC.nil (Qc ?_)
   refine Qh (L' := [(11, _), (10, _), (8, _), (7, _), (6, _), (5, _), (0, _)]) (WK rfl rfl rfl rfl rfl rfl rfl) ?_
   refine Qd (Qd (Qa (Qb rfl rfl ?_)))
   refine Xh rfl rfl rfl ?_
   refine Qf (Qc ?_)
   refine Qx rfl (fun h22 => ?_) (fun h22 => ?_)
   ·refine Qd (Qa (Qb rfl rfl (Qe rfl rfl (Qe rfl rfl (Qf (Qc (Q0 (Qs ?_))))))))
    refine Wo (.inr rfl) rfl rfl rfl ?_
    exact ⟨_, rfl, L1, V1, t1, x1, L1, V1, _, _, rfl, hT, .inr (.inl ⟨rfl, rfl, hag, rfl, rfl⟩), ((Xx (m := n + 4) (by omega) (hS21.pick [0, 1, 2, 3, 4, 5, 7] rfl)).reorder [1, 2, 3, 4, 5, 0, 6] rfl |> fun q => QY q)⟩
   exact absurd (by decide) h22
  refine ⟨_, rfl, ?_⟩
  replace hS21 := hS21.join rfl; dsimp only [QU, QT, Q8, Q7] at hS21; clear hC21
  clear hS20
  refine XJ (.skip (by kernel_rfl) (.skip (by kernel_rfl) .nil)) ?_
  refine Qk rfl rfl rfl (fun _ => (Qr rfl)) ?_
  refine Qk rfl rfl rfl (fun _ => (QJ rfl rfl)) ?_
  refine Qk rfl rfl rfl (fun _ => (QJ rfl rfl)) ?_
  refine Qk rfl rfl rfl (fun _ => (Q6 rfl)) ?_
  refine Qk rfl rfl rfl (fun _ => (Q6 rfl)) ?_
  refine VC.nil (Qc ?_)
  refine Qh (L' := [(11, _), (10, _), (8, _), (7, _), (6, _), (5, _), (0, _)]) (WK rfl rfl rfl rfl rfl rfl rfl) ?_
  refine Qd (Qd (Qa (Qb rfl rfl ?_)))
  refine Xh rfl rfl rfl ?_
  refine Qf (Qc ?_)
  refine Qx rfl (fun h23 => ?_) (fun h23 => ?_)
  ·exact absurd rfl h23
  refine Qy (Qc (Qd (Qd (Qa (Qb rfl rfl ?_)))))
  refine ZX Tryz.underlying89 rfl rfl rfl ?_
  refine Qf (Qc ?_)
  refine Qh (L' := [(52, _), (10, _), (8, _), (7, _), (6, _), (5, _), (0, _)]) (WK rfl rfl rfl rfl rfl rfl rfl) ?_
  refine Xm rfl ?_
  refine Qd ?_
  have hS24 := QY (L := L1) (hS21.pick [1, 2, 3, 4, 5, 0, 6, 7] rfl)
  have hS25 := JO ht1 hx1 (hS24.pick [0, 1, 2, 3] rfl)
  refine Qa (Qb rfl rfl (Qb rfl rfl (Qj rfl rfl ?_)))
  refine Qg rfl WE rfl ?_
  refine Qu rfl QW (by exact hS25.cell 0 rfl rfl) rfl ?_
  have hC26 := hS25.split [6, 9, 10] [false, false, false, false, false, false, true, false, false, true, true, false, false] rfl; dsimp only [QC, Qz, Q9, Q8, Q7] at hC26
  refine Qo Hu rfl (Hi hC26 (by omega) x1.own) rfl ?_
  rintro e w26 ⟨_, rfl, rfl, hS26⟩; refine ⟨_, rfl, ?_⟩
  replace hS26 := hS26.join rfl; dsimp only [QU, QT, Q8, Q7] at hS26; clear hC26
  clear hS25
  refine Qf (Qc ?_)
  refine Qh (L' := [(10, _), (8, _), (7, _), (6, _)]) (Jr rfl rfl rfl rfl) ?_
  refine Qa (Qb rfl rfl (Qb rfl rfl (Qj rfl rfl ?_)))
  refine Qg rfl WE rfl ?_
  refine Xb hS26 rfl rfl YM rfl (i := 3) rfl (by exact Nat.le_of_ble_eq_true rfl) ?_
  intro w27 hS27; dsimp only [List.set] at hS27
  clear hS26
  refine Qf (Qc (Qd (Qa (Qb rfl rfl (Qe rfl rfl (Qe rfl rfl (Qf (Qc (Q0 ?_)))))))))
  refine Wo (.inr rfl) rfl rfl rfl ?_
  have hS28 := WD (L := { L1 with sh := Jt (Xj V1 fr (some (1, XM V1 x1.own))) L1.sh x1.own }) (y := { x1 with own := fr }) ht1 hx1 rfl (hS27.pick [3, 4, 5, 6, 7, 8, 0, 9, 10, 1, 2, 11, 12] rfl)
  exact ⟨_, rfl, L1, V1, t1, x1, Zj ({ L1 with sh := Jt (Xj V1 fr (some (1, XM V1 x1.own))) L1.sh x1.own }) id t1 k { x1 with own := fr }, _, _, _, rfl, hT, .inr (.inr ⟨rfl, hf1, hf0, hnx, rfl, rfl⟩), (Xx (m := n + 4) (by omega) (hS28.pick [1, 0, 3] rfl)).reorder [1, 0, 2] rfl⟩
 exact absurd (Decidable.not_not.1 h2) h0
end Go.Proofs.YtkcjfoaejijdoaaGreatDoor
/- leaves: Byte -/
namespace Go.Proofs.YtkcjfoaejijdoaaGreatDoor
open Go.RowKit M
set_option linter.unusedVariables false
theorem YH {w : World} {As : List Th} {b : Nat} {L : LvD} (hS : Sat w As) (i : Nat) (hi : As[i]? = some (ZV b L)) : w.cell? ⟨b, 0, none⟩ = some (ptrV L.sp 0) := (XQ (hS.pull i hi)).cell 0 rfl rfl
theorem Uh {ob : Bs} {a : Int} (h : 0 ≤ a ∧ a < 16384) : Kp ob a = .tuple #[Xu (ob, a / 64), XG (1#64 <<< (a % 64).toNat), .bool true] := by unfold Kp; rw [if_pos h]
def bitA (a : Int) : BitVec 64 := 1#64 <<< (a % 64).toNat
theorem Tj {L : LvD} {id : Int} {t : TrD} {k : KD} {x : LfD} (h0 : id ≠ 0) : Xo (Zj L id t k x) id k = x.own := YN h0 DH Q3
theorem OwnT.leaf {L L' : LvD} {V V' : VS} {id : Int} {t : TrD} {k : KD} {x : LfD} {Fr : Nat} {s e : Int} (h : OwnT L V id t k x Fr L' V' s e) (ht : L.tr id = some t) (hx : t.lv k = some x) : ∃ t' x', L'.tr id = some t' ∧ t'.lv k = some x' ∧ x'.wr = x.wr ∧ x'.rd = x.rd ∧ x'.base = x.base ∧ (e = 0 → x'.own = s) := by
  rcases h with ⟨_, h2, _, _, rfl, _⟩ | ⟨h1, _, _, rfl, _⟩ | ⟨_, _, _, _, _, rfl⟩
  · exact ⟨t, x, ht, hx, rfl, rfl, rfl, fun _ => h2.symm⟩
  · exact ⟨t, x, ht, hx, rfl, rfl, rfl, fun q => by omega⟩
  · exact ⟨_, _, DH, Q3, rfl, rfl, rfl, fun _ => rfl⟩
theorem OwnT.sp {L L' : LvD} {V V' : VS} {id : Int} {t : TrD} {k : KD} {x : LfD} {Fr : Nat} {s e : Int} (h : OwnT L V id t k x Fr L' V' s e) : L'.sp = L.sp := by
  rcases h with ⟨_, h2, _, _, rfl, _⟩ | ⟨h1, _, _, rfl, _⟩ | ⟨_, _, _, _, _, rfl⟩ <;> rfl
set_option maxRecDepth 100000 in
theorem SR {w : World} {b n Fr : Nat} {L : LvD} {V : VS} {F : Th} (hS : Sat w [ZV b L, Zv L.sp n Fr V, F]) (hn : n ≤ 600000000) (ob : Bs) (a : Int) (hE : ∀ i, JI L.tr Z9 i) (hr : 0 ≤ a ∧ a < 16384) :
    Calls Tryz.prog 12 #[ptrV b 0, intV 0, strV ob, intV a] w (Ret fun v w' => v = WA (btV V (L.pres (ob, a / 64)) (a % 64)) ∧ Sat w' [ZV b L, Zv L.sp n Fr V, F]) := by
 refine Qt Tryz.func12 rfl Tryz.ntmps12 rfl ?_
 refine Qd (Qa (Qe rfl rfl (Qf (Qc (Qd (Qa (Qb rfl rfl (Qb rfl rfl ?_))))))))
 have hC1 := hS.split [] [false, false, false] rfl; dsimp only [QC, Qz, Q9, Q8, Q7] at hC1
 refine Qo Dh rfl (Vl hC1 ob a) rfl ?_
 rintro e w1 ⟨_, rfl, rfl, hS1⟩; refine ⟨_, rfl, ?_⟩
 replace hS1 := hS1.join rfl; dsimp only [QU, QT, Q8, Q7] at hS1; clear hC1
 rw [Uh hr]
 refine Qb rfl rfl (Qw rfl rfl rfl (Qw rfl rfl rfl (Qw rfl rfl rfl ?_)))
 refine Xl hS1 Wp rfl rfl ?_
 intro kb w2 hS2
 clear hS1
 refine Xa hS2 rfl rfl Xc rfl (by rfl) (i := 0) rfl (by decide) ?_
 intro w3 hS3; dsimp only [List.set] at hS3
 clear hS2
 replace hS3 := XR (k := (ob, a / 64)) hS3
 refine Qe rfl rfl (Qe rfl rfl (Qf (Qc ?_)))
 refine Qh (L' := [(11, _), (10, _), (9, _), (8, _), (0, _), (1, _), (3, _)]) (WK rfl rfl rfl rfl rfl rfl rfl) ?_
 refine Qd (Qd (Qa (Qb rfl rfl ?_)))
 refine QS rfl rfl ?_
 refine Qb rfl rfl ?_
 refine Zd 22 rfl (fun h4 => ?_) (fun h4 => ?_)
 ·exact absurd h4 (by decide)
 refine Qn rfl rfl h4 ?_
 refine Qb rfl rfl ?_
 refine Qn rfl rfl h4 ?_
 refine Qb rfl rfl ?_
 refine Qn rfl rfl h4 ?_
 have hC5 := hS3.split [1] [false, true, false, false] rfl; dsimp only [QC, Qz, Q9, Q8, Q7] at hC5
 refine Qo UU rfl (Ym hC5 0) rfl ?_
 rintro e w5 ⟨_, rfl, rfl, hS5⟩; refine ⟨_, rfl, ?_⟩
 replace hS5 := hS5.join rfl; dsimp only [QU, QT, Q8, Q7] at hS5; clear hC5
 clear hS3
 refine Qn rfl rfl h4 ?_
 refine QS rfl rfl ?_
 refine QX rfl h4 rfl rfl ?_
 refine Qf (Qc ?_)
 refine Qh (L' := [(27, _), (10, _), (9, _), (8, _), (0, _), (1, _), (3, _)]) (WK rfl rfl rfl rfl rfl rfl rfl) ?_
 refine QR rfl (fun h6 => ?_) (fun h6 => ?_)
 ·exact absurd h6 (by simp [ZY])
 refine Qy (Qc (Qd (Qd (Qa (Qb rfl rfl ?_)))))
 refine Xh rfl rfl rfl ?_
 refine Qf (Qc ?_)
 refine Qx rfl (fun h7 => ?_) (fun h7 => ?_)
 ·exact absurd rfl h7
 refine Qy (Qc (Qd ?_))
 have hS8 := hS5.drew
 refine QK [0, 1, 2, 3, 4, 5, 6, 8, 9, 7, 10, 11] [7, 10] ZT (by kernel_rfl) ?_
 refine Qk rfl rfl rfl (fun _ => (Qr rfl)) ?_
 refine Qk rfl rfl rfl (fun _ => (Qq rfl)) ?_
 refine Qk rfl rfl rfl (fun _ => (Qi rfl XK)) ?_
 refine QF rfl rfl rfl (Qm rfl Xe (YH hS8 0 rfl)) ?_
 refine Qk rfl rfl rfl (fun _ => (Qr rfl)) ?_
 refine Qk rfl rfl rfl (fun _ => (Qr rfl)) ?_
 refine QF rfl rfl rfl (X9 rfl XB Xc (by first | exact hS8.blk 1 rfl) (by exact Nat.le_of_ble_eq_true rfl) rfl) ?_
 refine Qk rfl rfl rfl (fun _ => (Qr rfl)) ?_
 refine Qk rfl rfl rfl (fun _ => (Gg rfl rfl (by omega) (by omega))) ?_
 refine Xn rfl rfl rfl rfl rfl rfl ?_
 have hC9 := hS8.split [0] [true, false, false, false] rfl; dsimp only [QC, Qz, Q9, Q8, Q7] at hC9
 refine Qo Ht rfl (Hk hC9 hE 0 (ob, a / 64)) rfl ?_
 rintro e w9 ⟨_, rfl, rfl, hS9⟩; refine ⟨_, rfl, ?_⟩
 replace hS9 := hS9.join rfl; dsimp only [QU, QT, Q8, Q7] at hS9; clear hC9
 clear hS8
 rw [show Xo L 0 (ob, a / 64) = L.pres (ob, a / 64) from Jw rfl]
 refine XJ (.skip (by kernel_rfl) (.cons (.inl ⟨rfl, (Qm rfl Xe (YH hS9 0 rfl))⟩) .nil)) ?_
 refine Xn rfl rfl rfl rfl rfl rfl ?_
 have hC10 := hS9.split [2] [false, false, true, false] rfl; dsimp only [QC, Qz, Q9, Q8, Q7] at hC10
 refine Qo SM rfl (Pm hC10 (by omega) (L.pres (ob, a / 64)) (a % 64)) rfl ?_
 rintro e w10 ⟨_, rfl, rfl, hS10⟩; refine ⟨_, rfl, ?_⟩
 replace hS10 := hS10.join rfl; dsimp only [QU, QT, Q8, Q7] at hS10; clear hC10
 clear hS9
 refine XJ (.skip (by kernel_rfl) (.skip (by kernel_rfl) .nil)) ?_
 refine Qk rfl rfl rfl (fun _ => (Q6 rfl)) ?_
 refine VC.nil (Qc ?_)
 refine Qh (L' := [(8, _)]) (Hd rfl) ?_
 refine Q0 ?_
 refine QV (.inr rfl) rfl rfl ?_
 exact ⟨_, rfl, rfl, hS10.pick [1, 0, 3] rfl⟩
set_option maxRecDepth 100000 in
set_option maxHeartbeats 800000000 in
theorem SQ {w : World} {b n Fr : Nat} {L : LvD} {V : VS} {F : Th} (hS : Sat w [ZV b L, Zv L.sp n Fr V, F]) (hn : n ≤ 600000000) (hE : ∀ i, JI L.tr Z9 i) {id : Int} {t : TrD} (ht : L.tr id = some t) (h0 : id ≠ 0) (ob : Bs) (a : Int) (hr : 0 ≤ a ∧ a < 16384) :
    Calls Tryz.prog 12 #[ptrV b 0, intV id, strV ob, intV a] w (Ret fun v w' => ∃ L1 V1 t1 x1, TouR L V id t (ob, a / 64) L1 V1 t1 x1 ∧ v = WA (btV V1 x1.own (a % 64)) ∧ Sat w' [ZV b (Zj L1 id t1 (ob, a / 64) { x1 with rd := x1.rd ||| (bitA a &&& ~~~x1.wr) }), Zv L1.sp (n + 2) Fr V1, F]) := by
 refine Qt Tryz.func12 rfl Tryz.ntmps12 rfl ?_
 refine Qd (Qa (Qe rfl rfl (Qf (Qc (Qd (Qa (Qb rfl rfl (Qb rfl rfl ?_))))))))
 have hC1 := hS.split [] [false, false, false] rfl; dsimp only [QC, Qz, Q9, Q8, Q7] at hC1
 refine Qo Dh rfl (Vl hC1 ob a) rfl ?_
 rintro e w1 ⟨_, rfl, rfl, hS1⟩; refine ⟨_, rfl, ?_⟩
 replace hS1 := hS1.join rfl; dsimp only [QU, QT, Q8, Q7] at hS1; clear hC1
 rw [Uh hr]
 refine Qb rfl rfl (Qw rfl rfl rfl (Qw rfl rfl rfl (Qw rfl rfl rfl ?_)))
 refine Xl hS1 Wp rfl rfl ?_
 intro kb w2 hS2
 clear hS1
 refine Xa hS2 rfl rfl Xc rfl (by rfl) (i := 0) rfl (by decide) ?_
 intro w3 hS3; dsimp only [List.set] at hS3
 clear hS2
 replace hS3 := XR (k := (ob, a / 64)) hS3
 refine Qe rfl rfl (Qe rfl rfl (Qf (Qc ?_)))
 refine Qh (L' := [(11, _), (10, _), (9, _), (8, _), (0, _), (1, _), (3, _)]) (WK rfl rfl rfl rfl rfl rfl rfl) ?_
 refine Qd (Qd (Qa (Qb rfl rfl ?_)))
 refine QS rfl rfl ?_
 refine Qb rfl rfl ?_
 refine Zd 22 rfl (fun h4 => ?_) (fun h4 => ?_)
 ·exact absurd h4 (by decide)
 refine Qn rfl rfl h4 ?_
 refine Qb rfl rfl ?_
 refine Qn rfl rfl h4 ?_
 refine Qb rfl rfl ?_
 refine Qn rfl rfl h4 ?_
 have hC5 := hS3.split [1] [false, true, false, false] rfl; dsimp only [QC, Qz, Q9, Q8, Q7] at hC5
 refine Qo UU rfl (Ym hC5 id) rfl ?_
 rintro e w5 ⟨_, rfl, rfl, hS5⟩; refine ⟨_, rfl, ?_⟩
 replace hS5 := hS5.join rfl; dsimp only [QU, QT, Q8, Q7] at hS5; clear hC5
 clear hS3
 refine Qn rfl rfl h4 ?_
 refine QS rfl rfl ?_
 refine QX rfl h4 rfl rfl ?_
 refine Qf (Qc ?_)
 refine Qh (L' := [(27, _), (10, _), (9, _), (8, _), (0, _), (1, _), (3, _)]) (WK rfl rfl rfl rfl rfl rfl rfl) ?_
 refine QR rfl (fun h6 => ?_) (fun h6 => ?_)
 ·exact absurd h6 (by simp [ZY, ht])
 refine Qy (Qc (Qd (Qd (Qa (Qb rfl rfl ?_)))))
 refine Xh rfl rfl rfl ?_
 refine Qf (Qc ?_)
 refine Qx rfl (fun h7 => ?_) (fun h7 => ?_)
 ·refine Qd (Qa (Qb rfl rfl (Qb rfl rfl ?_)))
  refine XX rfl XB Xc (by first | exact hS5.blk 1 rfl) (by exact Nat.le_of_ble_eq_true rfl) rfl rfl ?_
  have hC8 := hS5.split [0, 2] [true, false, true, false] rfl; dsimp only [QC, Qz, Q9, Q8, Q7] at hC8
  refine Qo Dg rfl (Vf hC8 (by omega) hE ht (k := (ob, a / 64))) rfl ?_
  rintro e w8 ⟨_, rfl, L1, V1, t1, x1, rfl, hT, hS8⟩; refine ⟨_, rfl, ?_⟩
  replace hS8 := hS8.join rfl; dsimp only [QU, QT, Q8, Q7] at hS8; clear hC8
  clear hS5
  have ht1 := hT.tr ht
  have hx1 := hT.lv
  have hE1 := hT.ends ht hE
  refine Qe rfl rfl (Qf (Qc ?_))
  refine Qh (L' := [(12, _), (10, _), (9, _), (8, _), (0, _), (1, _), (3, _)]) (WK rfl rfl rfl rfl rfl rfl rfl) ?_
  have hS9 := JO ht1 hx1 (hS8.pick [0, 1, 2, 3] rfl)
  have hS10 := hS9.drew
  refine QK [0, 1, 2, 3, 4, 5, 6, 7, 8, 9, 10, 11, 12, 13] [13] ZT (by kernel_rfl) ?_
  refine Qk rfl rfl rfl (fun _ => (Qr rfl)) ?_
  refine Qk rfl rfl rfl (fun _ => (Qq rfl)) ?_
  refine Qk rfl rfl rfl (fun _ => (Qi rfl YA)) ?_
  refine QF rfl rfl rfl (Qm rfl JB (by exact hS10.cell 0 rfl rfl)) ?_
  refine Qk rfl rfl rfl (fun _ => (Qr rfl)) ?_
  refine Qk rfl rfl rfl (fun _ => (Qr rfl)) ?_
  refine Qk rfl rfl rfl (fun _ => (Qq rfl)) ?_
  refine Qk rfl rfl rfl (fun _ => (Qi rfl Wn)) ?_
  refine QF rfl rfl rfl (Qm rfl JB (by exact hS10.cell 0 rfl rfl)) ?_
  refine Qk rfl rfl rfl (fun _ => (HJ rfl rfl)) ?_
  refine Qk rfl rfl rfl (fun _ => (Rn rfl rfl)) ?_
  refine Qk rfl rfl rfl (fun _ => (Qq rfl)) ?_
  refine Qk rfl rfl rfl (fun _ => (Qi rfl YA)) ?_
  refine Xn rfl rfl rfl rfl rfl rfl ?_
  refine Xb hS10 rfl rfl GZ rfl (i := 0) rfl (by exact Nat.le_of_ble_eq_true rfl) ?_
  intro w11 hS11; dsimp only [List.set] at hS11
  clear hS10
  refine Zi (.skip (by kernel_rfl) (.skip (by kernel_rfl) .nil)) ?_
  refine VC.nil (Qc ?_)
  refine Qh (L' := [(9, _), (8, _), (0, _), (1, _), (3, _)]) (ZH rfl rfl rfl rfl rfl) ?_
  refine Qd ?_
  have hS12 := WD (L := _) (y := { x1 with rd := x1.rd ||| (bitA a &&& ~~~x1.wr) }) ht1 hx1 rfl (hS11.pick [0, 1, 2, 3, 4, 5, 6, 7, 8, 9, 10, 11, 12] rfl)
  have hE2 := Tk (k := (ob, a / 64)) (x := { x1 with rd := x1.rd ||| (bitA a &&& ~~~x1.wr) }) ht1 hE1
  have hS13 := hS12.drew
  refine QK [0, 1, 2, 3, 4, 5, 6, 8, 9, 7, 10, 11] [7, 10] ZT (by kernel_rfl) ?_
  refine Qk rfl rfl rfl (fun _ => (Qr rfl)) ?_
  refine Qk rfl rfl rfl (fun _ => (Qq rfl)) ?_
  refine Qk rfl rfl rfl (fun _ => (Qi rfl XK)) ?_
  refine QF rfl rfl rfl (Qm rfl Xe (YH hS13 0 rfl)) ?_
  refine Qk rfl rfl rfl (fun _ => (Qr rfl)) ?_
  refine Qk rfl rfl rfl (fun _ => (Qr rfl)) ?_
  refine QF rfl rfl rfl (X9 rfl XB Xc (by first | exact hS13.blk 2 rfl) (by exact Nat.le_of_ble_eq_true rfl) rfl) ?_
  refine Qk rfl rfl rfl (fun _ => (Qr rfl)) ?_
  refine Qk rfl rfl rfl (fun _ => (Gg rfl rfl (by omega) (by omega))) ?_
  refine Xn rfl rfl rfl rfl rfl rfl ?_
  have hC14 := hS13.split [0] [true, false, false, false] rfl; dsimp only [QC, Qz, Q9, Q8, Q7] at hC14
  refine Qo Ht rfl (Hk hC14 hE2 id (ob, a / 64)) rfl ?_
  rintro e w14 ⟨_, rfl, rfl, hS14⟩; refine ⟨_, rfl, ?_⟩
  replace hS14 := hS14.join rfl; dsimp only [QU, QT, Q8, Q7] at hS14; clear hC14
  clear hS13
  rw [Tj h0]
  refine XJ (.skip (by kernel_rfl) (.cons (.inl ⟨rfl, (Qm rfl Xe (YH hS14 0 rfl))⟩) .nil)) ?_
  refine Xn rfl rfl rfl rfl rfl rfl ?_
  have hC15 := hS14.split [1] [false, true, false, false] rfl; dsimp only [QC, Qz, Q9, Q8, Q7] at hC15
  refine Qo SM rfl (Pm hC15 (by omega) x1.own (a % 64)) rfl ?_
  rintro e w15 ⟨_, rfl, rfl, hS15⟩; refine ⟨_, rfl, ?_⟩
  replace hS15 := hS15.join rfl; dsimp only [QU, QT, Q8, Q7] at hS15; clear hC15
  clear hS14
  refine XJ (.skip (by kernel_rfl) (.skip (by kernel_rfl) .nil)) ?_
  refine Qk rfl rfl rfl (fun _ => (Q6 rfl)) ?_
  refine VC.nil (Qc ?_)
  refine Qh (L' := [(8, _)]) (Hd rfl) ?_
  refine Q0 ?_
  refine QV (.inr rfl) rfl rfl ?_
  exact ⟨_, rfl, L1, V1, t1, x1, hT, rfl, hS15.pick [1, 0, 3] rfl⟩
 exact absurd (Decidable.not_not.1 h7) h0
end Go.Proofs.YtkcjfoaejijdoaaGreatDoor
