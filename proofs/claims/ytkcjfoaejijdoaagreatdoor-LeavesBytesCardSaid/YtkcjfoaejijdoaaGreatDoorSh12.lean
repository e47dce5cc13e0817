/- sheets: Bring -/
import Derived.Test.YtkcjfoaejijdoaaGreatDoorSh12a
namespace Go.Proofs.YtkcjfoaejijdoaaGreatDoor
open Go.RowKit M
set_option linter.unusedVariables false
set_option maxRecDepth 100000 in
set_option maxHeartbeats 1600000 in
theorem RD {w : World} {p : Nat} {S : SS} {ba bi fp sp kp : Nat} {ac at2 : Option Addr} {cc ct : Nat} {F : Th} (hS : Sat w [QO p [.map (some ba), .map (some bi), .slice ac S.cache.length cc, ptrV fp 0, ptrV sp 0, ptrV kp 0, intV S.slots, intV S.budget, intV S.next, .slice at2 S.taken.length ct], QH Xd ba (aG S.all), QH Xd bi (gI S.inn), rowT inC (.slice ac S.cache.length cc) S.cache, Vy fp S.fr, VY sp S.sl, B0 kp S.ck, rowT inC (.slice at2 S.taken.length ct) S.taken, F]) {E : Int → Prop} {N : Nat} (hI : ShI E N S) (id : Int) (hE : ¬ E id) :
    Calls Tryz.prog 34 #[ptrV p 0, intV id] w (Ret fun v w' => v = strV (J7 S id) ∧ Sat w' [QO p [.map (some ba), .map (some bi), .slice ac S.cache.length cc, ptrV fp 0, ptrV sp 0, ptrV kp 0, intV S.slots, intV S.budget, intV S.next, .slice at2 S.taken.length ct], QH Xd ba (aG S.all), QH Xd bi (gI S.inn), rowT inC (.slice ac S.cache.length cc) S.cache, Vy fp S.fr, VY sp S.sl, B0 kp S.ck, rowT inC (.slice at2 S.taken.length ct) S.taken, F]) := by
 cases Zp : S.all id with
 | none =>
  refine Qt Tryz.func34 rfl Tryz.ntmps34 rfl ?_
  refine Qd (Qa (Qe rfl rfl (Qf (Qc (Qd (Qa (Qb rfl rfl (Qj rfl rfl ?_))))))))
  refine Qg rfl X8 rfl ?_
  refine Qu rfl XS (by exact hS.cell 0 rfl rfl) rfl ?_
  refine Qb rfl rfl ?_
  refine ZB (k := id) 1 hS keysInt Tryz.underlying108 rfl rfl rfl X5 (u := (.agg #[intV 0, intV 0, intV 0, strV []])) (g := false) (JV Zp) (JD Zp) rfl ?_
  refine Qb rfl rfl (Qw rfl rfl rfl (Qw rfl rfl rfl ?_))
  refine Xl hS X5 rfl rfl ?_
  intro b1 w1 hS1
  (refine Xa hS1 rfl rfl WV rfl (by rfl) (i := 0) rfl (by decide) ?_)
  intro w2 hS3; dsimp only [List.set] at hS3
  clear hS1
  refine Qe rfl rfl (Qf (Qc ?_))
  refine Qh (L' := [(6, _), (5, _), (4, _), (0, _), (1, _)]) (ZH rfl rfl rfl rfl rfl) ?_
  refine Qd (Q1 (Qd (Qa (Qb rfl rfl ?_))))
  refine X2 rfl rfl rfl ?_
  refine Qe rfl rfl (Qf (Qc ?_))
  refine Qx rfl (fun h4 => ?_) (fun h4 => ?_)
  ·refine Qd (Qa ?_)
   have hC5 := hS3.split [] [false, false, false, false, false, false, false, false, false, false] rfl; dsimp only [QC, Qz, Q9, Q8, Q7] at hC5
   refine Qo SJ rfl (M5 hC5 zer (by decide)) rfl ?_
   rintro e w5 ⟨_, rfl, rfl, hS5⟩; refine ⟨_, rfl, ?_⟩
   replace hS5 := hS5.join rfl; dsimp only [QU, QT, Q8, Q7] at hS5; clear hC5
   clear hS3
   refine Qe rfl rfl (Qf (Qc (Q0 (QE (Qs ?_)))))
   refine QV (.inr rfl) rfl rfl ?_
   exact ⟨_, rfl, by unfold J7; rw [Zp]; dsimp only; rw [if_pos (by omega)], hS5.pick [1, 2, 3, 4, 5, 6, 7, 8, 9] rfl⟩
  refine Qd (Qa (Qb rfl rfl ?_))
  refine QS rfl rfl ?_
  refine Qe rfl rfl (Qf (Qc ?_))
  refine Qh (L' := [(24, _), (5, _), (4, _), (0, _)]) (Jr rfl rfl rfl rfl) ?_
  refine QR rfl (fun h6 => ?_) (fun h6 => ?_)
  ·refine Qd (Qa (Qe rfl rfl (Qf (Qc (Q0 (QE (Qs ?_)))))))
   refine QV (.inr rfl) rfl rfl ?_
   exact ⟨_, rfl, by unfold J7; rw [Zp]; dsimp only; rw [if_neg (by omega)], hS3.pick [1, 2, 3, 4, 5, 6, 7, 8, 9] rfl⟩
  exact absurd h6 (by simp)
 | some x =>
  obtain ⟨hid1, _, hr1, hr2, _, hplc⟩ := hI.ent Zp
  refine Qt Tryz.func34 rfl Tryz.ntmps34 rfl ?_
  refine Qd (Qa (Qe rfl rfl (Qf (Qc (Qd (Qa (Qb rfl rfl (Qj rfl rfl ?_))))))))
  refine Qg rfl X8 rfl ?_
  refine Qu rfl XS (by exact hS.cell 0 rfl rfl) rfl ?_
  refine Qb rfl rfl ?_
  refine ZB (k := id) 1 hS keysInt Tryz.underlying108 rfl rfl rfl X5 (u := (.agg #[intV x.refs, intV x.place, intV x.at_, strV (UQ x)])) (g := true) (W3 Zp) (JC Zp) rfl ?_
  refine Qb rfl rfl (Qw rfl rfl rfl (Qw rfl rfl rfl ?_))
  refine Xl hS X5 rfl rfl ?_
  intro b1 w1 hS1
  (refine Xa hS1 rfl rfl WV rfl (by rfl) (i := 0) rfl (by decide) ?_)
  intro w2 hS3; dsimp only [List.set] at hS3
  clear hS1
  refine Qe rfl rfl (Qf (Qc ?_))
  refine Qh (L' := [(6, _), (5, _), (4, _), (0, _), (1, _)]) (ZH rfl rfl rfl rfl rfl) ?_
  refine Qd (Q1 (Qd (Qa (Qb rfl rfl ?_))))
  refine X2 rfl rfl rfl ?_
  refine Qe rfl rfl (Qf (Qc ?_))
  refine Qx rfl (fun h4 => ?_) (fun h4 => ?_)
  ·exact absurd h4 (by omega)
  refine Qd (Qa (Qb rfl rfl ?_))
  refine QS rfl rfl ?_
  refine Qe rfl rfl (Qf (Qc ?_))
  refine Qh (L' := [(24, _), (5, _), (4, _), (0, _)]) (Jr rfl rfl rfl rfl) ?_
  refine QR rfl (fun h5 => ?_) (fun h5 => ?_)
  ·exact absurd h5 (by simp)
  refine Qd (Qa ?_)
  refine Qg rfl J9 rfl ?_
  refine Qu rfl QW (by exact hS3.cell 0 rfl rfl) rfl ?_
  refine X2 rfl rfl rfl ?_
  refine Qe rfl rfl (Qf (Qc ?_))
  refine Qx rfl (fun h6 => ?_) (fun h6 => ?_)
  ·have hp1 : x.place = 1 := h6
   refine Qd ?_
   have hS7 := hS3.drew
   refine QK [0, 1, 2, 3, 4, 5, 6, 7] [6] ZT (by kernel_rfl) ?_
   refine Qk rfl rfl rfl (fun _ => (Qr rfl)) ?_
   refine Qk rfl rfl rfl (fun _ => (Qq rfl)) ?_
   refine Qk rfl rfl rfl (fun _ => (Qi rfl Wb)) ?_
   refine QF rfl rfl rfl (Qm rfl J0 (by exact hS7.cell 1 rfl rfl)) ?_
   refine Qk rfl rfl rfl (fun _ => (Qi rfl Jo)) ?_
   refine QF rfl rfl rfl (Qm rfl QW (by exact hS7.cell 0 rfl rfl)) ?_
   refine Xn rfl rfl rfl rfl rfl rfl ?_
   have hC8 := hS7.split [5] [false, false, false, false, false, true, false, false, false, false] rfl; dsimp only [QC, Qz, Q9, Q8, Q7] at hC8
   refine Qo T8 rfl (Kv hC8 x.at_) rfl ?_
   rintro e w8 ⟨_, rfl, rfl, hS8⟩; refine ⟨_, rfl, ?_⟩
   replace hS8 := hS8.join rfl; dsimp only [QU, QT, Q8, Q7] at hS8; clear hC8
   clear hS7
   rw [hI.frc hE Zp hp1]
   dsimp only [Option.getD_some]
   refine XJ (.skip (by kernel_rfl) (.skip (by kernel_rfl) .nil)) ?_
   refine Qk rfl rfl rfl (fun _ => (Q6 rfl)) ?_
   refine VC.nil (Qc ?_)
   refine Qh (L' := [(4, _), (5, _), (0, _)]) (Y2 rfl rfl rfl) ?_
   refine Q0 (QE (Qs ?_))
   refine QV (.inr rfl) rfl rfl ?_
   exact ⟨_, rfl, by unfold J7; rw [Zp], hS8.pick [2, 3, 4, 5, 0, 6, 7, 8, 9] rfl⟩
  refine Qd (Qa ?_)
  refine Qg rfl J9 rfl ?_
  refine Qu rfl QW (by exact hS3.cell 0 rfl rfl) rfl ?_
  refine X2 rfl rfl rfl ?_
  refine Qe rfl rfl (Qf (Qc ?_))
  refine Qh (L' := [(38, _), (5, _), (4, _), (0, _)]) (Jr rfl rfl rfl rfl) ?_
  refine Qx rfl (fun h9 => ?_) (fun h9 => ?_)
  ·have hp2 : x.place = 2 := h9
   refine Qd (Qa ?_)
   refine Qg rfl Gd rfl ?_
   refine Qu rfl Yz (by exact hS3.cell 0 rfl rfl) rfl ?_
   obtain ⟨fy, hfy⟩ := Option.ne_none_iff_exists'.1 (hI.pck hE Zp hp2).2
   have hfme : UQ x = fy := by unfold UQ fm; rw [if_pos hp2, hfy]; rfl
   have hC10 := hS3.split [] [false, false, false, false, false, false, false, false, false, false] rfl; dsimp only [QC, Qz, Q9, Q8, Q7] at hC10
   refine Qo T7 rfl (Kh hC10 (hI.ent Zp).2.2.2.2.1 (by rw [hfme]; exact hfy)) rfl ?_
   rintro e w10 ⟨_, rfl, rfl, hS10⟩; refine ⟨_, rfl, ?_⟩
   replace hS10 := hS10.join rfl; dsimp only [QU, QT, Q8, Q7] at hS10; clear hC10
   clear hS3
   refine Qb rfl rfl (Qw rfl rfl rfl (Qw rfl rfl rfl (Qe rfl rfl (Qe rfl rfl (Qf (Qc ?_))))))
   refine Qh (L' := [(7, _), (5, _), (4, _), (0, _)]) (Jr rfl rfl rfl rfl) ?_
   refine Qd (Qa (Qb rfl rfl (Qe rfl rfl (Qf (Qc (Q0 (QE (Qs ?_))))))))
   refine QV (.inr rfl) rfl rfl ?_
   exact ⟨_, rfl, by unfold J7; rw [Zp], hS10.pick [1, 2, 3, 4, 5, 6, 7, 8, 9] rfl⟩
  refine Qy (Qp (Qc (Qd ?_)))
  have hp3 : x.place = 3 := by omega
  have hS11 := hS3.drew
  refine QK [0, 1, 2, 3, 4, 5, 6, 7, 8, 9, 10, 11] [6] ZT (by kernel_rfl) ?_
  refine Qk rfl rfl rfl (fun _ => (Qr rfl)) ?_
  refine Qk rfl rfl rfl (fun _ => (Qq rfl)) ?_
  refine Qk rfl rfl rfl (fun _ => (Qi rfl JA)) ?_
  refine QF rfl rfl rfl (Qm rfl HP (by exact hS11.cell 1 rfl rfl)) ?_
  refine Qk rfl rfl rfl (fun _ => (Qi rfl Jo)) ?_
  refine QF rfl rfl rfl (Qm rfl QW (by exact hS11.cell 0 rfl rfl)) ?_
  refine Xn rfl rfl rfl rfl rfl rfl ?_
  have hC12 := hS11.split [6] [false, false, false, false, false, false, true, false, false, false] rfl; dsimp only [QC, Qz, Q9, Q8, Q7] at hC12
  refine Qo SI rfl (DC hC12 x.at_) rfl ?_
  rintro e w12 ⟨_, rfl, eg, rfl, hS12⟩; refine ⟨_, rfl, ?_⟩
  replace hS12 := hS12.join rfl; dsimp only [QU, QT, Q8, Q7] at hS12; clear hC12
  clear hS11
  rw [(H9 hI hE Zp hp3).2.1]
  refine XJ (.skip (by kernel_rfl) (.skip (by kernel_rfl) .nil)) ?_
  refine Qk rfl rfl rfl (fun _ => (Qr rfl)) ?_
  refine Qk rfl rfl rfl (fun _ => (QJ rfl rfl)) ?_
  refine Qk rfl rfl rfl (fun _ => (QJ rfl rfl)) ?_
  refine Qk rfl rfl rfl (fun _ => (Q6 rfl)) ?_
  refine Qk rfl rfl rfl (fun _ => (Q6 rfl)) ?_
  refine VC.nil (Qc ?_)
  refine Qh (L' := [(9, _), (4, _)]) (H0 rfl rfl) ?_
  refine Qd (Qa (Qb rfl rfl (Qe rfl rfl (Qf (Qc (Q0 ?_))))))
  refine QV (.inr rfl) rfl rfl ?_
  exact ⟨_, rfl, by unfold J7; rw [Zp], hS12.pick [2, 3, 4, 5, 6, 0, 7, 8, 9] rfl⟩
set_option maxRecDepth 100000 in
set_option maxHeartbeats 3200000 in
theorem Ti {w : World} {p : Nat} {S : SS} {F : Th} (hS : Sat w [J6 p S, F]) {N : Nat} (hI : ShI UX N S) (hN : N ≤ 800000000) (id : Int) :
    Calls Tryz.prog 107 #[ptrV p 0, intV id] w (Ret fun v w' => (match S.all id with | none => v = .tuple #[intV 0, intV 4] ∧ Sat w' [J6 p S, F] | some x => (x.place = 1 ∧ v = .tuple #[intV x.at_, intV 0] ∧ Sat w' [J6 p S, F]) ∨ (∃ k S', x.place ≠ 1 ∧ v = .tuple #[intV (k : Nat), intV 0] ∧ BrS N S S' id k x ∧ Sat w' [J6 p S', F]) ∨ (x.place = 2 ∧ v = .tuple #[intV 0, intV 6] ∧ (∀ o ∈ S.fr, o ≠ none) ∧ ZS S.sl = S.sl.length ∧ Sat w' [J6 p S, F]))) := by
 obtain ⟨ba, bi, fp, sp, kp, ac, cc, at2, ct, hS⟩ := XO hS
 cases Zp : S.all id with
 | none =>
  dsimp only
  refine VH Tryz.func107 rfl Tryz.ntmps107 rfl ?_
  refine Qd (Qa ?_)
  refine Zf hS rfl rfl rfl ?_
  intro sb w1 hS1
  refine Zf hS1 rfl rfl rfl ?_
  intro db w2 hS2
  clear hS1
  refine Qe rfl rfl ?_
  refine Xl hS2 zr_28 rfl rfl ?_
  intro eb w3 hS3
  clear hS2
  refine Qf (Qc (Qd ?_))
  have hS4 := hS3.drew
  refine QK [0, 1, 2, 3, 4, 5, 6, 7, 8, 9, 10, 11] [9, 10] ZT (by kernel_rfl) ?_
  refine QF rfl rfl rfl (Qm rfl Xe (by exact hS4.cell 2 rfl rfl)) ?_
  refine Qk rfl rfl rfl (fun _ => (Qq rfl)) ?_
  refine Qk rfl rfl rfl (fun _ => (Qi rfl X8)) ?_
  refine QF rfl rfl rfl (Qm rfl XS (by exact hS4.cell 3 rfl rfl)) ?_
  refine QF rfl rfl rfl (Qm rfl QW (by exact hS4.cell 1 rfl rfl)) ?_
  refine QF rfl rfl rfl (ZP (k := id) 4 hS4 keysInt Tryz.underlying108 rfl rfl rfl X5 (u := (.agg #[intV 0, intV 0, intV 0, strV []])) (g := false) (JV Zp) (JD Zp)) ?_
  refine Qk rfl rfl rfl (fun _ => (Qr rfl)) ?_
  refine Qk rfl rfl rfl (fun _ => (QJ rfl rfl)) ?_
  refine Qk rfl rfl rfl (fun _ => (QJ rfl rfl)) ?_
  refine Xn rfl rfl rfl rfl rfl rfl ?_
  refine Xl hS4 X5 rfl rfl ?_
  intro xb w5 hS5
  clear hS4
  refine XJ (.cons (.inl ⟨rfl, (ZP (k := id) 5 hS5 keysInt Tryz.underlying108 rfl rfl rfl X5 (u := (.agg #[intV 0, intV 0, intV 0, strV []])) (g := false) (JV Zp) (JD Zp))⟩) (.cons (.inl ⟨rfl, (Qm rfl QW (by exact hS5.cell 2 rfl rfl))⟩) (.cons (.inl ⟨rfl, (Qm rfl XS (by exact hS5.cell 4 rfl rfl))⟩) (.cons (.inl ⟨rfl, (Qm rfl Xe (by exact hS5.cell 3 rfl rfl))⟩) .nil)))) ?_
  refine Xn rfl rfl rfl rfl rfl rfl ?_
  (refine Xa hS5 rfl rfl WV rfl (by rfl) (i := 0) rfl (by decide) ?_)
  intro w6 hS7; dsimp only [List.set] at hS7
  clear hS5
  refine Zi (.skip (by kernel_rfl) (.skip (by kernel_rfl) (.skip (by kernel_rfl) (.skip (by kernel_rfl) .nil)))) ?_
  refine Qk rfl rfl rfl (fun _ => (Q6 rfl)) ?_
  refine VC.nil (Qc ?_)
  refine Qh (L' := [(7, _), (6, _), (5, _), (4, _), (3, _), (2, _)]) (Wf rfl rfl rfl rfl rfl rfl) ?_
  refine Qd (Q1 (Qd (Qa (Qb rfl rfl ?_))))
  refine QS rfl rfl ?_
  refine Qe rfl rfl (Qf (Qc ?_))
  refine QR rfl (fun h8 => ?_) (fun h8 => ?_)
  ·refine Qd (Qa (Qe rfl rfl ?_))
   (refine Xb hS7 rfl rfl KA (by rfl) (i := 1) rfl (by decide) ?_)
   intro w9 hS10; dsimp only [List.set] at hS10
   clear hS7
   refine Qf (Qc (Q0 (QE (Qs ?_))))
   refine finE2 (.inr rfl) rfl (Vi rfl) (DP rfl VV (hS10.cell 1 rfl rfl)) ?_
   exact ⟨_, rfl, rfl, QP (hS10.pick [4, 5, 6, 7, 8, 9, 10, 11, 12] rfl)⟩
  exact absurd h8 (by simp)
 | some x =>
  obtain ⟨hid1, _, hr1, hr2, _, hplc⟩ := hI.ent Zp
  dsimp only
  refine VH Tryz.func107 rfl Tryz.ntmps107 rfl ?_
  refine Qd (Qa ?_)
  refine Zf hS rfl rfl rfl ?_
  intro sb w1 hS1
  refine Zf hS1 rfl rfl rfl ?_
  intro db w2 hS2
  clear hS1
  refine Qe rfl rfl ?_
  refine Xl hS2 zr_28 rfl rfl ?_
  intro eb w3 hS3
  clear hS2
  refine Qf (Qc (Qd ?_))
  have hS4 := hS3.drew
  refine QK [0, 1, 2, 3, 4, 5, 6, 7, 8, 9, 10, 11] [9, 10] ZT (by kernel_rfl) ?_
  refine QF rfl rfl rfl (Qm rfl Xe (by exact hS4.cell 2 rfl rfl)) ?_
  refine Qk rfl rfl rfl (fun _ => (Qq rfl)) ?_
  refine Qk rfl rfl rfl (fun _ => (Qi rfl X8)) ?_
  refine QF rfl rfl rfl (Qm rfl XS (by exact hS4.cell 3 rfl rfl)) ?_
  refine QF rfl rfl rfl (Qm rfl QW (by exact hS4.cell 1 rfl rfl)) ?_
  refine QF rfl rfl rfl (ZP (k := id) 4 hS4 keysInt Tryz.underlying108 rfl rfl rfl X5 (u := (.agg #[intV x.refs, intV x.place, intV x.at_, strV (UQ x)])) (g := true) (W3 Zp) (JC Zp)) ?_
  refine Qk rfl rfl rfl (fun _ => (Qr rfl)) ?_
  refine Qk rfl rfl rfl (fun _ => (QJ rfl rfl)) ?_
  refine Qk rfl rfl rfl (fun _ => (QJ rfl rfl)) ?_
  refine Xn rfl rfl rfl rfl rfl rfl ?_
  refine Xl hS4 X5 rfl rfl ?_
  intro xb w5 hS5
  clear hS4
  refine XJ (.cons (.inl ⟨rfl, (ZP (k := id) 5 hS5 keysInt Tryz.underlying108 rfl rfl rfl X5 (u := (.agg #[intV x.refs, intV x.place, intV x.at_, strV (UQ x)])) (g := true) (W3 Zp) (JC Zp))⟩) (.cons (.inl ⟨rfl, (Qm rfl QW (by exact hS5.cell 2 rfl rfl))⟩) (.cons (.inl ⟨rfl, (Qm rfl XS (by exact hS5.cell 4 rfl rfl))⟩) (.cons (.inl ⟨rfl, (Qm rfl Xe (by exact hS5.cell 3 rfl rfl))⟩) .nil)))) ?_
  refine Xn rfl rfl rfl rfl rfl rfl ?_
  (refine Xa hS5 rfl rfl WV rfl (by rfl) (i := 0) rfl (by decide) ?_)
  intro w6 hS7; dsimp only [List.set] at hS7
  clear hS5
  refine Zi (.skip (by kernel_rfl) (.skip (by kernel_rfl) (.skip (by kernel_rfl) (.skip (by kernel_rfl) .nil)))) ?_
  refine Qk rfl rfl rfl (fun _ => (Q6 rfl)) ?_
  refine VC.nil (Qc ?_)
  refine Qh (L' := [(7, _), (6, _), (5, _), (4, _), (3, _), (2, _)]) (Wf rfl rfl rfl rfl rfl rfl) ?_
  refine Qd (Q1 (Qd (Qa (Qb rfl rfl ?_))))
  refine QS rfl rfl ?_
  refine Qe rfl rfl (Qf (Qc ?_))
  refine QR rfl (fun h8 => ?_) (fun h8 => ?_)
  ·exact absurd h8 (by simp)
  refine Qd (Qa ?_)
  refine Qg rfl J9 rfl ?_
  refine Qu rfl QW (by exact hS7.cell 0 rfl rfl) rfl ?_
  refine X2 rfl rfl rfl ?_
  refine Qe rfl rfl (Qf (Qc ?_))
  refine Qh (L' := [(22, _), (7, _), (6, _), (5, _), (4, _), (3, _), (2, _)]) (WK rfl rfl rfl rfl rfl rfl rfl) ?_
  refine Qx rfl (fun h9 => ?_) (fun h9 => ?_)
  ·have hp1 : x.place = 1 := h9
   refine Qd (Qa ?_)
   refine Qg rfl Jo rfl ?_
   refine Qu rfl QW (by exact hS7.cell 0 rfl rfl) rfl ?_
   refine Qe rfl rfl ?_
   (refine Xb hS7 rfl rfl KA (by rfl) (i := 1) rfl (by decide) ?_)
   intro w10 hS11; dsimp only [List.set] at hS11
   clear hS7
   refine Qf (Qc (Q0 (QE (Qs ?_))))
   refine finE2 (.inr rfl) rfl (Vi rfl) (DP rfl VV (hS11.cell 1 rfl rfl)) ?_
   exact ⟨_, rfl, .inl ⟨hp1, rfl, QP (hS11.pick [4, 5, 6, 7, 8, 9, 10, 11, 12] rfl)⟩⟩
  have hp1 : x.place ≠ 1 := h9
  refine Qy (Qp (Qc (Qd ?_)))
  have hS12 := hS7.drew
  refine D5 ZT ?_
  refine My 2 7 rfl ?_ ?_
  ·refine KM (sp := [2, 7, 9]) [0, 1, 3, 4, 5, 6, 2, 7, 8, 9] (by kernel_rfl) ?_
   refine QF rfl rfl rfl (Qm rfl Xe (by exact hS12.cell 3 rfl rfl)) ?_
   refine QF rfl rfl rfl (Qm rfl QW (by exact hS12.cell 2 rfl rfl)) ?_
   refine QF rfl rfl rfl (Qm rfl Xe (by exact hS12.cell 3 rfl rfl)) ?_
   refine Qk rfl rfl rfl (fun _ => (Qq rfl)) ?_
   refine Qk rfl rfl rfl (fun _ => (Qi rfl ZO)) ?_
   refine QF rfl rfl rfl (Qm rfl Y0 (by exact hS12.cell 4 rfl rfl)) ?_
   refine Xn rfl rfl rfl rfl rfl rfl ?_
   have hC13 := hS12.split [4, 5, 6, 7, 8, 9, 10, 11] [false, false, false, false, true, true, true, true, true, true, true, true, false] rfl; dsimp only [QC, Qz, Q9, Q8, Q7] at hC13
   refine Qo Jz rfl (RD hC13 hI id (fun q => q)) rfl ?_
   rintro e w13 ⟨_, rfl, rfl, hS13⟩; refine ⟨_, rfl, ?_⟩
   replace hS13 := hS13.join rfl; dsimp only [QU, QT, Q8, Q7] at hS13; clear hC13
   clear hS12
   rw [show J7 S id = x.pg by unfold J7; rw [Zp]]
   refine XJ (.cons (.inl ⟨rfl, (Qm rfl Y0 (by exact hS13.cell 0 rfl rfl))⟩) (.cons (.inl ⟨rfl, (Qm rfl Xe (by exact hS13.cell 11 rfl rfl))⟩) (.skip (by kernel_rfl) (.skip (by kernel_rfl) .nil)))) ?_
   refine Xn rfl rfl rfl rfl rfl rfl ?_
   refine Xl hS13 zr_47 rfl rfl ?_
   intro ob w14 hS14
   clear hS13
   refine XJ (.cons (.inl ⟨rfl, (Qm rfl Y0 (by exact hS14.cell 1 rfl rfl))⟩) (.cons (.inl ⟨rfl, (Qm rfl Xe (by exact hS14.cell 12 rfl rfl))⟩) (.skip (by kernel_rfl) (.skip (by kernel_rfl) .nil)))) ?_
   refine Qk rfl rfl rfl (fun _ => (Q6 rfl)) ?_
   refine Xn rfl rfl rfl rfl rfl rfl ?_
   (refine Xb hS14 rfl rfl K9 (by rfl) (i := 0) rfl (by decide) ?_)
   intro w15 hS16; dsimp only [List.set] at hS16
   clear hS14
   refine Zi (.skip (by kernel_rfl) (.skip (by kernel_rfl) (.skip (by kernel_rfl) (.skip (by kernel_rfl) .nil)))) ?_
   refine VC.nil (Qc ?_)
   refine Qh (L' := [(8, _), (9, _), (7, _), (6, _), (5, _), (4, _), (3, _), (2, _)]) (WT rfl rfl rfl rfl rfl rfl rfl rfl) ?_
   refine Qd (Qd (Qa ?_))
   refine Qg rfl J9 rfl ?_
   refine Qu rfl QW (by exact hS16.cell 9 rfl rfl) rfl ?_
   refine X2 rfl rfl rfl ?_
   refine Qf (Qc ?_)
   refine Qx rfl (fun h17 => ?_) (fun h17 => ?_)
   ·have hp2 : x.place = 2 := h17
    have hS18 := hS16.drew
    refine QK [0, 1, 2, 3, 4, 6, 5, 7, 8, 9, 10] [5, 7, 10] ZT (by kernel_rfl) ?_
    refine QF rfl rfl rfl (Qm rfl Xe (by exact hS18.cell 12 rfl rfl)) ?_
    refine QF rfl rfl rfl (Qm rfl Xe (by exact hS18.cell 12 rfl rfl)) ?_
    refine Qk rfl rfl rfl (fun _ => (Qq rfl)) ?_
    refine Qk rfl rfl rfl (fun _ => (Qi rfl ZO)) ?_
    refine QF rfl rfl rfl (Qm rfl Y0 (by exact hS18.cell 1 rfl rfl)) ?_
    refine Qk rfl rfl rfl (fun _ => (KI rfl)) ?_
    refine Xn rfl rfl rfl rfl rfl rfl ?_
    have hC19 := hS18.split [] [false, false, false, false, false, false, false, false, false, false, false, false, false, false] rfl; dsimp only [QC, Qz, Q9, Q8, Q7] at hC19
    refine Qo Df rfl (Ur hC19 (Ent.starL (Hr (C := inC) (l := S.cache) (by have := hI.cln; omega)) 4 rfl) (by have := hI.cln; omega)) rfl ?_
    rintro e w19 ⟨_, rfl, hS19⟩; refine ⟨_, rfl, ?_⟩
    replace hS19 := hS19.join rfl; dsimp only [QU, QT, Q8, Q7] at hS19; clear hC19
    clear hS18
    have h1n := hS19.own_one 0 rfl
    refine XJ (.skip (by kernel_rfl) (.skip (by kernel_rfl) (.cons (.inl ⟨rfl, (Qm rfl Xe (by exact hS19.cell 13 rfl rfl))⟩) .nil))) ?_
    refine Xn rfl rfl rfl rfl rfl rfl ?_
    have hC20 := hS19.split [0, 12] [true, false, false, false, false, false, false, false, false, false, false, false, true, false, false] rfl; dsimp only [QC, Qz, Q9, Q8, Q7] at hC20
    refine Qo Dn rfl (Db (eqB _ id) hC20 (by have := hI.cln; omega)) rfl ?_
    rintro e w20 ⟨_, rfl, hS20⟩; refine ⟨_, rfl, ?_⟩
    replace hS20 := hS20.join rfl; dsimp only [QU, QT, Q8, Q7] at hS20; clear hC20
    clear hS19
    have h1d := hS20.own_one 0 rfl
    refine XJ (.skip (by kernel_rfl) (.skip (by kernel_rfl) (.cons (.inl ⟨rfl, (Qm rfl Xe (by exact hS20.cell 13 rfl rfl))⟩) .nil))) ?_
    refine Qk rfl rfl rfl (fun _ => (Qq rfl)) ?_
    refine Qk rfl rfl rfl (fun _ => (Qi rfl ZO)) ?_
    refine Xn rfl rfl rfl rfl rfl rfl ?_
    (refine Xb hS20 rfl rfl K9 (by assumption) (i := 3) rfl (by exact Nat.le_of_ble_eq_true rfl) ?_)
    intro w21 hS22; dsimp only [List.set] at hS22
    clear hS20
    refine Zi (.skip (by kernel_rfl) (.skip (by kernel_rfl) (.skip (by kernel_rfl) .nil))) ?_
    refine VC.nil (Qc ?_)
    refine Qh (L' := [(8, _), (9, _), (7, _), (6, _), (5, _), (4, _), (3, _), (2, _)]) (WT rfl rfl rfl rfl rfl rfl rfl rfl) ?_
    refine Qd ?_
    have hS23 := QP (S := { S with cache := S.cache.filter (fun n => !decide (n = id)) }) (hS22.pick [3, 4, 5, 0, 7, 8, 9, 10, 12, 2, 13, 1, 11, 6, 14] rfl)
    refine Qa ?_
    refine ZL rfl rfl ?_
    refine Vd rfl ?_
    refine X6 ?_
    refine XE ?_
    refine XA ?_
    refine Qu rfl Xe (by exact hS23.cell 3 rfl rfl) rfl ?_
    have hIL := Kq hI Zp hp2
    have hC24 := hS23.split [0] [true, false, false, false, false, false, false, false] rfl; dsimp only [QC, Qz, Q9, Q8, Q7] at hC24
    refine Qo VL rfl (HA hC24 (E := one id) hIL hN) rfl ?_
    rintro e w24 ⟨_, rfl, (⟨rfl, hall, hfull, hS24⟩ | ⟨k, S1, rfl, hg, hS24⟩)⟩
    ·refine ⟨_, rfl, ?_⟩
     replace hS24 := hS24.join rfl; dsimp only [QU, QT, Q8, Q7] at hS24; clear hC24
     clear hS23
     refine Qb rfl rfl (Qw rfl rfl rfl (Qw rfl rfl rfl (Qe rfl rfl (Qe rfl rfl (Qf ?_)))))
     refine Zn ?_
     refine X6 ?_
     refine Wh (L' := [(7, _), (4, _), (8, _), (6, _), (5, _), (3, _), (2, _)]) (WK rfl rfl rfl rfl rfl rfl rfl) ?_
     refine XE ?_
     refine XE ?_
     refine XA ?_
     refine Qb rfl rfl ?_
     refine QS rfl rfl ?_
     refine Qf ?_
     refine Zn ?_
     refine X6 ?_
     refine Yh rfl (fun h25 => ?_) (fun h25 => ?_)
     ·refine XE ?_
      refine XA ?_
      refine Qe rfl rfl ?_
      (refine Xb hS24 rfl rfl KA (by rfl) (i := 1) rfl (by decide) ?_)
      intro w26 hS27; dsimp only [List.set] at hS27
      clear hS24
      refine Qf ?_
      refine Zn ?_
      refine X6 ?_
      refine Y5 ?_
      refine Hm ?_
      obtain ⟨ba, bi, fp, sp, kp, ac, cc, at2, ct, hSo28⟩ := XO (hS27.pick [0, 1, 2, 3, 4, 5, 6, 7] rfl)
      have hC9 := hSo28.split [8, 9, 10, 0] [true, false, false, false, false, false, false, false, true, true, true, false, false, false, false] rfl; dsimp only [QC, Qz, Q9, Q8, Q7] at hC9
      refine Nw (.inr rfl) Uu (Yc rfl hC9) ?_
      rintro v0 w9 hq9
      rw [if_neg (by decide)] at hq9
      replace hq9 := hq9.join rfl; dsimp only [QU, QT, Q8, Q7] at hq9
      refine ⟨_, Ud rfl (Vi rfl) (DP rfl VV (hq9.cell 0 rfl rfl)), ?_⟩
      exact ⟨_, rfl, .inr (.inr ⟨hp2, rfl, hall, hfull, QP (S := S) (hq9.pick [3, 4, 5, 13, 7, 8, 9, 10, 14] rfl)⟩)⟩
     exact absurd h25 (by simp)
    refine ⟨_, rfl, ?_⟩
    replace hS24 := hS24.join rfl; dsimp only [QU, QT, Q8, Q7] at hS24; clear hC24
    clear hS23
    refine Qb rfl rfl (Qw rfl rfl rfl (Qw rfl rfl rfl (Qe rfl rfl (Qe rfl rfl (Qf ?_)))))
    refine Zn ?_
    refine X6 ?_
    refine Wh (L' := [(7, _), (4, _), (8, _), (6, _), (5, _), (3, _), (2, _)]) (WK rfl rfl rfl rfl rfl rfl rfl) ?_
    refine XE ?_
    refine XE ?_
    refine XA ?_
    refine Qb rfl rfl ?_
    refine QS rfl rfl ?_
    refine Qf ?_
    refine Zn ?_
    refine X6 ?_
    refine Yh rfl (fun h29 => ?_) (fun h29 => ?_)
    ·exact absurd h29 (by simp)
    refine H5 ?_
    refine X6 ?_
    refine XE ?_
    obtain ⟨ba, bi, fp, sp, kp, ac, cc, at2, ct, hSo30⟩ := XO (hS24.pick [0, 1, 2, 3, 4, 5, 6, 7] rfl)
    refine XA ?_
    refine Qu rfl Xe (by exact hSo30.cell 10 rfl rfl) rfl ?_
    refine Qj rfl rfl ?_
    refine Qg rfl Wb rfl ?_
    refine Qu rfl J0 (by exact hSo30.cell 0 rfl rfl) rfl ?_
    refine Qb rfl rfl (Qb rfl rfl ?_)
    have hkl : k < S1.fr.length := (List.getElem?_eq_some_iff.1 hg.fr).1
    have hfs : HE (Mg S1 k).fr (k : Int) x.pg = S1.fr.set k (some x.pg) := HH hkl
    have hC31 := hSo30.split [4] [false, false, false, false, true, false, false, false, false, false, false, false, false, false, false] rfl; dsimp only [QC, Qz, Q9, Q8, Q7] at hC31
    refine Qo VJ rfl (YS hC31 (k : Int) x.pg (hI.ent Zp).2.2.2.2.1) rfl ?_
    rintro e w31 ⟨_, rfl, _, rfl, hS31⟩; refine ⟨_, rfl, ?_⟩
    replace hS31 := hS31.join rfl; dsimp only [QU, QT, Q8, Q7] at hS31; clear hC31
    clear hSo30
    rw [hfs] at hS31
    refine Qf ?_
    refine Zn ?_
    refine X6 ?_
    refine Wh (L' := [(4, _), (6, _), (5, _), (3, _), (2, _)]) (ZH rfl rfl rfl rfl rfl) ?_
    refine XE ?_
    have hS32 := hS31.drew
    refine HU ZT ?_
    refine KM (sp := [15, 17, 18, 20]) [0, 1, 2, 3, 4, 5, 6, 7, 8, 9, 10, 11, 12, 13, 14, 15, 16, 17, 18, 19, 20] (by kernel_rfl) ?_
    refine QF rfl rfl rfl (Qm rfl Xe (by exact hS32.cell 10 rfl rfl)) ?_
    refine Qk rfl rfl rfl (fun _ => (Qq rfl)) ?_
    refine Qk rfl rfl rfl (fun _ => (Qi rfl X8)) ?_
    refine QF rfl rfl rfl (Qm rfl XS (by exact hS32.cell 1 rfl rfl)) ?_
    refine QF rfl rfl rfl (Qm rfl QW (by exact hS32.cell 11 rfl rfl)) ?_
    refine QF rfl rfl rfl (Qm rfl Xe (by exact hS32.cell 10 rfl rfl)) ?_
    refine Qk rfl rfl rfl (fun _ => (Qq rfl)) ?_
    refine Qk rfl rfl rfl (fun _ => (Qi rfl Yw)) ?_
    refine QF rfl rfl rfl (Qm rfl Ww (by exact hS32.cell 1 rfl rfl)) ?_
    refine Qk rfl rfl rfl (fun _ => (Qr rfl)) ?_
    refine Qk rfl rfl rfl (fun _ => (Qi rfl W7)) ?_
    refine QF rfl rfl rfl (Qm rfl QW (by exact hS32.cell 12 rfl rfl)) ?_
    refine Qk rfl rfl rfl (fun _ => (Qr rfl)) ?_
    refine Qk rfl rfl rfl (fun _ => (Ws rfl Wj YB X5 rfl)) ?_
    refine QF rfl rfl rfl (Qm rfl QW (by exact hS32.cell 11 rfl rfl)) ?_
    refine Xn rfl rfl rfl rfl rfl rfl ?_
    refine Z0 (k := id) 2 hS32 keysInt Tryz.underlying108 rfl rfl rfl X5 rfl ?_
    intro u33 c33 w33 hS33; dsimp only [List.set] at hS33
    clear hS32
    refine XJ (.cons (.inl ⟨rfl, (Qm rfl QW (by exact hS33.cell 11 rfl rfl))⟩) (.cons (.inl ⟨rfl, (Qm rfl QW (by exact hS33.cell 12 rfl rfl))⟩) (.skip (by kernel_rfl) (.skip (by kernel_rfl) (.skip (by kernel_rfl) (.skip (by kernel_rfl) (.skip (by kernel_rfl) .nil))))))) ?_
    refine Qk rfl rfl rfl (fun _ => (QJ rfl rfl)) ?_
    refine Xn rfl rfl rfl rfl rfl rfl ?_
    have hsv34 : Value.agg #[intV x.refs, intV 1, intV (k : Nat), strV []] = TM ⟨x.refs, 1, (k : Nat), x.pg⟩ := rfl
    refine XY (v := Value.agg #[intV x.refs, intV 1, intV (k : Nat), strV []]) 2 hS33 keysInt rfl rfl rfl rfl ?_
    intro w34 hS34a; dsimp only [List.set] at hS34a; have hS34 := hS34a; rw [hsv34, U8] at hS34
    clear hS33
    refine Zi (.cons (.inl ⟨rfl, (Qm rfl QW (by exact hS34.cell 11 rfl rfl))⟩) (.skip (by kernel_rfl) (.skip (by kernel_rfl) (.skip (by kernel_rfl) (.skip (by kernel_rfl) (.skip (by kernel_rfl) (.skip (by kernel_rfl) .nil))))))) ?_
    refine Xn rfl rfl rfl rfl rfl rfl ?_
    refine Z0 (k := (k : Int)) 3 hS34 keysInt Tryz.underlying109 rfl rfl rfl Y1 rfl ?_
    intro u35 c35 w35 hS35; dsimp only [List.set] at hS35
    clear hS34
    refine XJ (.cons (.inl ⟨rfl, (Qm rfl QW (by exact hS35.cell 11 rfl rfl))⟩) (.skip (by kernel_rfl) (.skip (by kernel_rfl) (.skip (by kernel_rfl) (.skip (by kernel_rfl) (.skip (by kernel_rfl) (.skip (by kernel_rfl) .nil))))))) ?_
    refine Qk rfl rfl rfl (fun _ => (QJ rfl rfl)) ?_
    refine Xn rfl rfl rfl rfl rfl rfl ?_
    refine XY (v := intV id) 3 hS35 keysInt rfl rfl rfl rfl ?_
    intro w36 hS36a; dsimp only [List.set] at hS36a; have hS36 := hS36a; rw [Vu] at hS36
    clear hS35
    refine Zi (.skip (by kernel_rfl) (.skip (by kernel_rfl) (.skip (by kernel_rfl) (.skip (by kernel_rfl) (.skip (by kernel_rfl) (.skip (by kernel_rfl) (.skip (by kernel_rfl) .nil))))))) ?_
    refine VC.nil ?_
    refine Zn ?_
    refine X6 ?_
    refine Wh (L' := [(4, _), (5, _)]) (H0 rfl rfl) ?_
    refine XE ?_
    refine XA ?_
    refine Qb rfl rfl (Qe rfl rfl ?_)
    (refine Xb hS36 rfl rfl KA (by rfl) (i := 8) rfl (by decide) ?_)
    intro w37 hS38; dsimp only [List.set] at hS38
    clear hS36
    refine Qf ?_
    refine Zn ?_
    refine X6 ?_
    refine Y5 ?_
    have hC9 := hS38.split [8, 9, 10, 1] [false, true, false, false, false, false, false, false, true, true, true, false, false, false, false] rfl; dsimp only [QC, Qz, Q9, Q8, Q7] at hC9
    refine Nw (.inr rfl) Uu (Yc rfl hC9) ?_
    rintro v0 w9 hq9
    rw [if_pos rfl] at hq9
    replace hq9 := hq9.join rfl; dsimp only [QU, QT, Q8, Q7] at hq9
    refine ⟨_, Ud rfl (Vi rfl) (DP rfl VV (hq9.cell 0 rfl rfl)), ?_⟩
    exact ⟨_, rfl, .inr (.inl ⟨k, _, hp1, rfl, VO hI Zp hp1 (SL := { S with cache := S.cache.filter (fun n => !decide (n = id)) }) ⟨rfl, rfl, rfl, rfl, rfl, rfl⟩ hg, QP (S := onF S1 id k x.refs x.pg S1.next) (hq9.pick [3, 5, 6, 7, 4, 8, 9, 10, 14] rfl)⟩)⟩
   have hp3 : x.place = 3 := by omega
   have hS39 := hS16.drew
   refine QK [0, 1, 2, 3, 4, 5, 6] [6] ZT (by kernel_rfl) ?_
   refine QF rfl rfl rfl (Qm rfl Xe (by exact hS39.cell 12 rfl rfl)) ?_
   refine Qk rfl rfl rfl (fun _ => (Qq rfl)) ?_
   refine Qk rfl rfl rfl (fun _ => (Qi rfl JA)) ?_
   refine QF rfl rfl rfl (Qm rfl HP (by exact hS39.cell 1 rfl rfl)) ?_
   refine Qk rfl rfl rfl (fun _ => (Qi rfl Jo)) ?_
   refine QF rfl rfl rfl (Qm rfl QW (by exact hS39.cell 9 rfl rfl)) ?_
   refine Xn rfl rfl rfl rfl rfl rfl ?_
   have hC40 := hS39.split [6] [false, false, false, false, false, false, true, false, false, false, false, false, false, false] rfl; dsimp only [QC, Qz, Q9, Q8, Q7] at hC40
   refine Qo Dm rfl (Kj hC40 x.at_) rfl ?_
   rintro e w40 ⟨_, rfl, rfl, hS40⟩; refine ⟨_, rfl, ?_⟩
   replace hS40 := hS40.join rfl; dsimp only [QU, QT, Q8, Q7] at hS40; clear hC40
   clear hS39
   rw [(H9 hI (fun q => q) Zp hp3).2.2] at hS40
   refine XJ (.skip (by kernel_rfl) (.skip (by kernel_rfl) (.skip (by kernel_rfl) .nil))) ?_
   refine VC.nil (Qc ?_)
   refine Qh (L' := [(8, _), (9, _), (7, _), (6, _), (5, _), (4, _), (3, _), (2, _)]) (WT rfl rfl rfl rfl rfl rfl rfl rfl) ?_
   refine Qd ?_
   have hS41 := QP (S := { S with sl := S.sl.set x.at_.toNat [] }) (hS40.pick [2, 3, 4, 5, 6, 0, 7, 8, 10, 1, 12, 11, 9, 13] rfl)
   refine Qa ?_
   refine ZL rfl rfl ?_
   refine Vd rfl ?_
   refine X6 ?_
   refine XE ?_
   refine XA ?_
   refine Qu rfl Xe (by exact hS41.cell 3 rfl rfl) rfl ?_
   have hIL := RP hI Zp hp3
   have hC42 := hS41.split [0] [true, false, false, false, false, false, false] rfl; dsimp only [QC, Qz, Q9, Q8, Q7] at hC42
   refine Qo VL rfl (HA hC42 (E := one id) hIL hN) rfl ?_
   rintro e w42 ⟨_, rfl, (⟨rfl, hall, hfull, hS42⟩ | ⟨k, S1, rfl, hg, hS42⟩)⟩
   ·exact absurd hfull (by have hz := R4.2 (List.mem_of_getElem? (List.getElem?_set_self (l := S.sl) (i := x.at_.toNat) (a := ([] : Bs)) (List.getElem?_eq_some_iff.1 (hI.slt (fun q => q) Zp hp3).2).1)); dsimp only; omega)
   refine ⟨_, rfl, ?_⟩
   replace hS42 := hS42.join rfl; dsimp only [QU, QT, Q8, Q7] at hS42; clear hC42
   clear hS41
   refine Qb rfl rfl (Qw rfl rfl rfl (Qw rfl rfl rfl (Qe rfl rfl (Qe rfl rfl (Qf ?_)))))
   refine Zn ?_
   refine X6 ?_
   refine Wh (L' := [(7, _), (4, _), (8, _), (6, _), (5, _), (3, _), (2, _)]) (WK rfl rfl rfl rfl rfl rfl rfl) ?_
   refine XE ?_
   refine XE ?_
   refine XA ?_
   refine Qb rfl rfl ?_
   refine QS rfl rfl ?_
   refine Qf ?_
   refine Zn ?_
   refine X6 ?_
   refine Yh rfl (fun h43 => ?_) (fun h43 => ?_)
   ·exact absurd h43 (by simp)
   refine H5 ?_
   refine X6 ?_
   refine XE ?_
   obtain ⟨ba, bi, fp, sp, kp, ac, cc, at2, ct, hSo44⟩ := XO (hS42.pick [0, 1, 2, 3, 4, 5, 6] rfl)
   refine XA ?_
   refine Qu rfl Xe (by exact hSo44.cell 10 rfl rfl) rfl ?_
   refine Qj rfl rfl ?_
   refine Qg rfl Wb rfl ?_
   refine Qu rfl J0 (by exact hSo44.cell 0 rfl rfl) rfl ?_
   refine Qb rfl rfl (Qb rfl rfl ?_)
   have hkl : k < S1.fr.length := (List.getElem?_eq_some_iff.1 hg.fr).1
   have hfs : HE (Mg S1 k).fr (k : Int) x.pg = S1.fr.set k (some x.pg) := HH hkl
   have hC45 := hSo44.split [4] [false, false, false, false, true, false, false, false, false, false, false, false, false, false] rfl; dsimp only [QC, Qz, Q9, Q8, Q7] at hC45
   refine Qo VJ rfl (YS hC45 (k : Int) x.pg (hI.ent Zp).2.2.2.2.1) rfl ?_
   rintro e w45 ⟨_, rfl, _, rfl, hS45⟩; refine ⟨_, rfl, ?_⟩
   replace hS45 := hS45.join rfl; dsimp only [QU, QT, Q8, Q7] at hS45; clear hC45
   clear hSo44
   rw [hfs] at hS45
   refine Qf ?_
   refine Zn ?_
   refine X6 ?_
   refine Wh (L' := [(4, _), (6, _), (5, _), (3, _), (2, _)]) (ZH rfl rfl rfl rfl rfl) ?_
   refine XE ?_
   have hS46 := hS45.drew
   refine HU ZT ?_
   refine KM (sp := [15, 17, 18, 20]) [0, 1, 2, 3, 4, 5, 6, 7, 8, 9, 10, 11, 12, 13, 14, 15, 16, 17, 18, 19, 20] (by kernel_rfl) ?_
   refine QF rfl rfl rfl (Qm rfl Xe (by exact hS46.cell 10 rfl rfl)) ?_
   refine Qk rfl rfl rfl (fun _ => (Qq rfl)) ?_
   refine Qk rfl rfl rfl (fun _ => (Qi rfl X8)) ?_
   refine QF rfl rfl rfl (Qm rfl XS (by exact hS46.cell 1 rfl rfl)) ?_
   refine QF rfl rfl rfl (Qm rfl QW (by exact hS46.cell 11 rfl rfl)) ?_
   refine QF rfl rfl rfl (Qm rfl Xe (by exact hS46.cell 10 rfl rfl)) ?_
   refine Qk rfl rfl rfl (fun _ => (Qq rfl)) ?_
   refine Qk rfl rfl rfl (fun _ => (Qi rfl Yw)) ?_
   refine QF rfl rfl rfl (Qm rfl Ww (by exact hS46.cell 1 rfl rfl)) ?_
   refine Qk rfl rfl rfl (fun _ => (Qr rfl)) ?_
   refine Qk rfl rfl rfl (fun _ => (Qi rfl W7)) ?_
   refine QF rfl rfl rfl (Qm rfl QW (by exact hS46.cell 12 rfl rfl)) ?_
   refine Qk rfl rfl rfl (fun _ => (Qr rfl)) ?_
   refine Qk rfl rfl rfl (fun _ => (Ws rfl Wj YB X5 rfl)) ?_
   refine QF rfl rfl rfl (Qm rfl QW (by exact hS46.cell 11 rfl rfl)) ?_
   refine Xn rfl rfl rfl rfl rfl rfl ?_
   refine Z0 (k := id) 2 hS46 keysInt Tryz.underlying108 rfl rfl rfl X5 rfl ?_
   intro u47 c47 w47 hS47; dsimp only [List.set] at hS47
   clear hS46
   refine XJ (.cons (.inl ⟨rfl, (Qm rfl QW (by exact hS47.cell 11 rfl rfl))⟩) (.cons (.inl ⟨rfl, (Qm rfl QW (by exact hS47.cell 12 rfl rfl))⟩) (.skip (by kernel_rfl) (.skip (by kernel_rfl) (.skip (by kernel_rfl) (.skip (by kernel_rfl) (.skip (by kernel_rfl) .nil))))))) ?_
   refine Qk rfl rfl rfl (fun _ => (QJ rfl rfl)) ?_
   refine Xn rfl rfl rfl rfl rfl rfl ?_
   have hsv48 : Value.agg #[intV x.refs, intV 1, intV (k : Nat), strV []] = TM ⟨x.refs, 1, (k : Nat), x.pg⟩ := rfl
   refine XY (v := Value.agg #[intV x.refs, intV 1, intV (k : Nat), strV []]) 2 hS47 keysInt rfl rfl rfl rfl ?_
   intro w48 hS48a; dsimp only [List.set] at hS48a; have hS48 := hS48a; rw [hsv48, U8] at hS48
   clear hS47
   refine Zi (.cons (.inl ⟨rfl, (Qm rfl QW (by exact hS48.cell 11 rfl rfl))⟩) (.skip (by kernel_rfl) (.skip (by kernel_rfl) (.skip (by kernel_rfl) (.skip (by kernel_rfl) (.skip (by kernel_rfl) (.skip (by kernel_rfl) .nil))))))) ?_
   refine Xn rfl rfl rfl rfl rfl rfl ?_
   refine Z0 (k := (k : Int)) 3 hS48 keysInt Tryz.underlying109 rfl rfl rfl Y1 rfl ?_
   intro u49 c49 w49 hS49; dsimp only [List.set] at hS49
   clear hS48
   refine XJ (.cons (.inl ⟨rfl, (Qm rfl QW (by exact hS49.cell 11 rfl rfl))⟩) (.skip (by kernel_rfl) (.skip (by kernel_rfl) (.skip (by kernel_rfl) (.skip (by kernel_rfl) (.skip (by kernel_rfl) (.skip (by kernel_rfl) .nil))))))) ?_
   refine Qk rfl rfl rfl (fun _ => (QJ rfl rfl)) ?_
   refine Xn rfl rfl rfl rfl rfl rfl ?_
   refine XY (v := intV id) 3 hS49 keysInt rfl rfl rfl rfl ?_
   intro w50 hS50a; dsimp only [List.set] at hS50a; have hS50 := hS50a; rw [Vu] at hS50
   clear hS49
   refine Zi (.skip (by kernel_rfl) (.skip (by kernel_rfl) (.skip (by kernel_rfl) (.skip (by kernel_rfl) (.skip (by kernel_rfl) (.skip (by kernel_rfl) (.skip (by kernel_rfl) .nil))))))) ?_
   refine VC.nil ?_
   refine Zn ?_
   refine X6 ?_
   refine Wh (L' := [(4, _), (5, _)]) (H0 rfl rfl) ?_
   refine XE ?_
   refine XA ?_
   refine Qb rfl rfl (Qe rfl rfl ?_)
   (refine Xb hS50 rfl rfl KA (by rfl) (i := 8) rfl (by decide) ?_)
   intro w51 hS52; dsimp only [List.set] at hS52
   clear hS50
   refine Qf ?_
   refine Zn ?_
   refine X6 ?_
   refine Y5 ?_
   have hC9 := hS52.split [8, 9, 10, 1] [false, true, false, false, false, false, false, false, true, true, true, false, false, false] rfl; dsimp only [QC, Qz, Q9, Q8, Q7] at hC9
   refine Nw (.inr rfl) Uu (Yc rfl hC9) ?_
   rintro v0 w9 hq9
   rw [if_pos rfl] at hq9
   replace hq9 := hq9.join rfl; dsimp only [QU, QT, Q8, Q7] at hq9
   refine ⟨_, Ud rfl (Vi rfl) (DP rfl VV (hq9.cell 0 rfl rfl)), ?_⟩
   exact ⟨_, rfl, .inr (.inl ⟨k, _, hp1, rfl, VO hI Zp hp1 (SL := { S with sl := S.sl.set x.at_.toNat [] }) ⟨rfl, rfl, rfl, rfl, rfl, rfl⟩ hg, QP (S := onF S1 id k x.refs x.pg S1.next) (hq9.pick [3, 5, 6, 7, 4, 8, 9, 10, 13] rfl)⟩)⟩
  refine KM (sp := [2, 7, 9]) [0, 1, 3, 4, 5, 6, 7, 2, 8, 9] (by kernel_rfl) ?_
  refine QF rfl rfl rfl (Qm rfl Xe (by exact hS12.cell 3 rfl rfl)) ?_
  refine QF rfl rfl rfl (Qm rfl QW (by exact hS12.cell 2 rfl rfl)) ?_
  refine QF rfl rfl rfl (Qm rfl Xe (by exact hS12.cell 3 rfl rfl)) ?_
  refine Qk rfl rfl rfl (fun _ => (Qq rfl)) ?_
  refine Qk rfl rfl rfl (fun _ => (Qi rfl ZO)) ?_
  refine QF rfl rfl rfl (Qm rfl Y0 (by exact hS12.cell 4 rfl rfl)) ?_
  refine Xn rfl rfl rfl rfl rfl rfl ?_
  refine Xl hS12 zr_47 rfl rfl ?_
  intro ob w53 hS53
  clear hS12
  refine XJ (.cons (.inl ⟨rfl, (Qm rfl Y0 (by exact hS53.cell 5 rfl rfl))⟩) (.cons (.inl ⟨rfl, (Qm rfl Xe (by exact hS53.cell 4 rfl rfl))⟩) (.cons (.inl ⟨rfl, (Qm rfl QW (by exact hS53.cell 3 rfl rfl))⟩) (.cons (.inl ⟨rfl, (Qm rfl Xe (by exact hS53.cell 4 rfl rfl))⟩) .nil)))) ?_
  refine Xn rfl rfl rfl rfl rfl rfl ?_
  have hC54 := hS53.split [5, 6, 7, 8, 9, 10, 11, 12] [false, false, false, false, false, true, true, true, true, true, true, true, true, false] rfl; dsimp only [QC, Qz, Q9, Q8, Q7] at hC54
  refine Qo Jz rfl (RD hC54 hI id (fun q => q)) rfl ?_
  rintro e w54 ⟨_, rfl, rfl, hS54⟩; refine ⟨_, rfl, ?_⟩
  replace hS54 := hS54.join rfl; dsimp only [QU, QT, Q8, Q7] at hS54; clear hC54
  clear hS53
  rw [show J7 S id = x.pg by unfold J7; rw [Zp]]
  refine XJ (.cons (.inl ⟨rfl, (Qm rfl Y0 (by exact hS54.cell 0 rfl rfl))⟩) (.cons (.inl ⟨rfl, (Qm rfl Xe (by exact hS54.cell 12 rfl rfl))⟩) (.skip (by kernel_rfl) (.skip (by kernel_rfl) .nil)))) ?_
  refine Qk rfl rfl rfl (fun _ => (Q6 rfl)) ?_
  refine Xn rfl rfl rfl rfl rfl rfl ?_
  (refine Xb hS54 rfl rfl K9 (by rfl) (i := 8) rfl (by decide) ?_)
  intro w55 hS56; dsimp only [List.set] at hS56
  clear hS54
  refine Zi (.skip (by kernel_rfl) (.skip (by kernel_rfl) (.skip (by kernel_rfl) (.skip (by kernel_rfl) .nil)))) ?_
  refine VC.nil (Qc ?_)
  refine Qh (L' := [(8, _), (9, _), (7, _), (6, _), (5, _), (4, _), (3, _), (2, _)]) (WT rfl rfl rfl rfl rfl rfl rfl rfl) ?_
  refine Qd (Qd (Qa ?_))
  refine Qg rfl J9 rfl ?_
  refine Qu rfl QW (by exact hS56.cell 9 rfl rfl) rfl ?_
  refine X2 rfl rfl rfl ?_
  refine Qf (Qc ?_)
  refine Qx rfl (fun h57 => ?_) (fun h57 => ?_)
  ·have hp2 : x.place = 2 := h57
   have hS58 := hS56.drew
   refine QK [0, 1, 2, 3, 4, 6, 5, 7, 8, 9, 10] [5, 7, 10] ZT (by kernel_rfl) ?_
   refine QF rfl rfl rfl (Qm rfl Xe (by exact hS58.cell 12 rfl rfl)) ?_
   refine QF rfl rfl rfl (Qm rfl Xe (by exact hS58.cell 12 rfl rfl)) ?_
   refine Qk rfl rfl rfl (fun _ => (Qq rfl)) ?_
   refine Qk rfl rfl rfl (fun _ => (Qi rfl ZO)) ?_
   refine QF rfl rfl rfl (Qm rfl Y0 (by exact hS58.cell 0 rfl rfl)) ?_
   refine Qk rfl rfl rfl (fun _ => (KI rfl)) ?_
   refine Xn rfl rfl rfl rfl rfl rfl ?_
   have hC59 := hS58.split [] [false, false, false, false, false, false, false, false, false, false, false, false, false, false] rfl; dsimp only [QC, Qz, Q9, Q8, Q7] at hC59
   refine Qo Df rfl (Ur hC59 (Ent.starL (Hr (C := inC) (l := S.cache) (by have := hI.cln; omega)) 3 rfl) (by have := hI.cln; omega)) rfl ?_
   rintro e w59 ⟨_, rfl, hS59⟩; refine ⟨_, rfl, ?_⟩
   replace hS59 := hS59.join rfl; dsimp only [QU, QT, Q8, Q7] at hS59; clear hC59
   clear hS58
   have h1n := hS59.own_one 0 rfl
   refine XJ (.skip (by kernel_rfl) (.skip (by kernel_rfl) (.cons (.inl ⟨rfl, (Qm rfl Xe (by exact hS59.cell 13 rfl rfl))⟩) .nil))) ?_
   refine Xn rfl rfl rfl rfl rfl rfl ?_
   have hC60 := hS59.split [0, 12] [true, false, false, false, false, false, false, false, false, false, false, false, true, false, false] rfl; dsimp only [QC, Qz, Q9, Q8, Q7] at hC60
   refine Qo Dn rfl (Db (eqB _ id) hC60 (by have := hI.cln; omega)) rfl ?_
   rintro e w60 ⟨_, rfl, hS60⟩; refine ⟨_, rfl, ?_⟩
   replace hS60 := hS60.join rfl; dsimp only [QU, QT, Q8, Q7] at hS60; clear hC60
   clear hS59
   have h1d := hS60.own_one 0 rfl
   refine XJ (.skip (by kernel_rfl) (.skip (by kernel_rfl) (.cons (.inl ⟨rfl, (Qm rfl Xe (by exact hS60.cell 13 rfl rfl))⟩) .nil))) ?_
   refine Qk rfl rfl rfl (fun _ => (Qq rfl)) ?_
   refine Qk rfl rfl rfl (fun _ => (Qi rfl ZO)) ?_
   refine Xn rfl rfl rfl rfl rfl rfl ?_
   (refine Xb hS60 rfl rfl K9 (by assumption) (i := 2) rfl (by exact Nat.le_of_ble_eq_true rfl) ?_)
   intro w61 hS62; dsimp only [List.set] at hS62
   clear hS60
   refine Zi (.skip (by kernel_rfl) (.skip (by kernel_rfl) (.skip (by kernel_rfl) .nil))) ?_
   refine VC.nil (Qc ?_)
   refine Qh (L' := [(8, _), (9, _), (7, _), (6, _), (5, _), (4, _), (3, _), (2, _)]) (WT rfl rfl rfl rfl rfl rfl rfl rfl) ?_
   refine Qd ?_
   have hS63 := QP (S := { S with cache := S.cache.filter (fun n => !decide (n = id)) }) (hS62.pick [2, 3, 4, 0, 6, 7, 8, 9, 12, 10, 13, 1, 11, 5, 14] rfl)
   refine Qa ?_
   refine ZL rfl rfl ?_
   refine Vd rfl ?_
   refine X6 ?_
   refine XE ?_
   refine XA ?_
   refine Qu rfl Xe (by exact hS63.cell 3 rfl rfl) rfl ?_
   have hIL := Kq hI Zp hp2
   have hC64 := hS63.split [0] [true, false, false, false, false, false, false, false] rfl; dsimp only [QC, Qz, Q9, Q8, Q7] at hC64
   refine Qo VL rfl (HA hC64 (E := one id) hIL hN) rfl ?_
   rintro e w64 ⟨_, rfl, (⟨rfl, hall, hfull, hS64⟩ | ⟨k, S1, rfl, hg, hS64⟩)⟩
   ·refine ⟨_, rfl, ?_⟩
    replace hS64 := hS64.join rfl; dsimp only [QU, QT, Q8, Q7] at hS64; clear hC64
    clear hS63
    refine Qb rfl rfl (Qw rfl rfl rfl (Qw rfl rfl rfl (Qe rfl rfl (Qe rfl rfl (Qf ?_)))))
    refine Zn ?_
    refine X6 ?_
    refine Wh (L' := [(7, _), (4, _), (8, _), (6, _), (5, _), (3, _), (2, _)]) (WK rfl rfl rfl rfl rfl rfl rfl) ?_
    refine XE ?_
    refine XE ?_
    refine XA ?_
    refine Qb rfl rfl ?_
    refine QS rfl rfl ?_
    refine Qf ?_
    refine Zn ?_
    refine X6 ?_
    refine Yh rfl (fun h65 => ?_) (fun h65 => ?_)
    ·refine XE ?_
     refine XA ?_
     refine Qe rfl rfl ?_
     (refine Xb hS64 rfl rfl KA (by rfl) (i := 1) rfl (by decide) ?_)
     intro w66 hS67; dsimp only [List.set] at hS67
     clear hS64
     refine Qf ?_
     refine Zn ?_
     refine X6 ?_
     refine Y5 ?_
     refine Hm ?_
     obtain ⟨ba, bi, fp, sp, kp, ac, cc, at2, ct, hSo68⟩ := XO (hS67.pick [0, 1, 2, 3, 4, 5, 6, 7] rfl)
     have hC9 := hSo68.split [8, 9, 10, 0] [true, false, false, false, false, false, false, false, true, true, true, false, false, false, false] rfl; dsimp only [QC, Qz, Q9, Q8, Q7] at hC9
     refine Nw (.inr rfl) Uu (Yc rfl hC9) ?_
     rintro v0 w9 hq9
     rw [if_neg (by decide)] at hq9
     replace hq9 := hq9.join rfl; dsimp only [QU, QT, Q8, Q7] at hq9
     refine ⟨_, Ud rfl (Vi rfl) (DP rfl VV (hq9.cell 0 rfl rfl)), ?_⟩
     exact ⟨_, rfl, .inr (.inr ⟨hp2, rfl, hall, hfull, QP (S := S) (hq9.pick [3, 4, 5, 13, 7, 8, 9, 10, 14] rfl)⟩)⟩
    exact absurd h65 (by simp)
   refine ⟨_, rfl, ?_⟩
   replace hS64 := hS64.join rfl; dsimp only [QU, QT, Q8, Q7] at hS64; clear hC64
   clear hS63
   refine Qb rfl rfl (Qw rfl rfl rfl (Qw rfl rfl rfl (Qe rfl rfl (Qe rfl rfl (Qf ?_)))))
   refine Zn ?_
   refine X6 ?_
   refine Wh (L' := [(7, _), (4, _), (8, _), (6, _), (5, _), (3, _), (2, _)]) (WK rfl rfl rfl rfl rfl rfl rfl) ?_
   refine XE ?_
   refine XE ?_
   refine XA ?_
   refine Qb rfl rfl ?_
   refine QS rfl rfl ?_
   refine Qf ?_
   refine Zn ?_
   refine X6 ?_
   refine Yh rfl (fun h69 => ?_) (fun h69 => ?_)
   ·exact absurd h69 (by simp)
   refine H5 ?_
   refine X6 ?_
   refine XE ?_
   obtain ⟨ba, bi, fp, sp, kp, ac, cc, at2, ct, hSo70⟩ := XO (hS64.pick [0, 1, 2, 3, 4, 5, 6, 7] rfl)
   refine XA ?_
   refine Qu rfl Xe (by exact hSo70.cell 10 rfl rfl) rfl ?_
   refine Qj rfl rfl ?_
   refine Qg rfl Wb rfl ?_
   refine Qu rfl J0 (by exact hSo70.cell 0 rfl rfl) rfl ?_
   refine Qb rfl rfl (Qb rfl rfl ?_)
   have hkl : k < S1.fr.length := (List.getElem?_eq_some_iff.1 hg.fr).1
   have hfs : HE (Mg S1 k).fr (k : Int) x.pg = S1.fr.set k (some x.pg) := HH hkl
   have hC71 := hSo70.split [4] [false, false, false, false, true, false, false, false, false, false, false, false, false, false, false] rfl; dsimp only [QC, Qz, Q9, Q8, Q7] at hC71
   refine Qo VJ rfl (YS hC71 (k : Int) x.pg (hI.ent Zp).2.2.2.2.1) rfl ?_
   rintro e w71 ⟨_, rfl, _, rfl, hS71⟩; refine ⟨_, rfl, ?_⟩
   replace hS71 := hS71.join rfl; dsimp only [QU, QT, Q8, Q7] at hS71; clear hC71
   clear hSo70
   rw [hfs] at hS71
   refine Qf ?_
   refine Zn ?_
   refine X6 ?_
   refine Wh (L' := [(4, _), (6, _), (5, _), (3, _), (2, _)]) (ZH rfl rfl rfl rfl rfl) ?_
   refine XE ?_
   have hS72 := hS71.drew
   refine HU ZT ?_
   refine KM (sp := [15, 17, 18, 20]) [0, 1, 2, 3, 4, 5, 6, 7, 8, 9, 10, 11, 12, 13, 14, 15, 16, 17, 18, 19, 20] (by kernel_rfl) ?_
   refine QF rfl rfl rfl (Qm rfl Xe (by exact hS72.cell 10 rfl rfl)) ?_
   refine Qk rfl rfl rfl (fun _ => (Qq rfl)) ?_
   refine Qk rfl rfl rfl (fun _ => (Qi rfl X8)) ?_
   refine QF rfl rfl rfl (Qm rfl XS (by exact hS72.cell 1 rfl rfl)) ?_
   refine QF rfl rfl rfl (Qm rfl QW (by exact hS72.cell 11 rfl rfl)) ?_
   refine QF rfl rfl rfl (Qm rfl Xe (by exact hS72.cell 10 rfl rfl)) ?_
   refine Qk rfl rfl rfl (fun _ => (Qq rfl)) ?_
   refine Qk rfl rfl rfl (fun _ => (Qi rfl Yw)) ?_
   refine QF rfl rfl rfl (Qm rfl Ww (by exact hS72.cell 1 rfl rfl)) ?_
   refine Qk rfl rfl rfl (fun _ => (Qr rfl)) ?_
   refine Qk rfl rfl rfl (fun _ => (Qi rfl W7)) ?_
   refine QF rfl rfl rfl (Qm rfl QW (by exact hS72.cell 12 rfl rfl)) ?_
   refine Qk rfl rfl rfl (fun _ => (Qr rfl)) ?_
   refine Qk rfl rfl rfl (fun _ => (Ws rfl Wj YB X5 rfl)) ?_
   refine QF rfl rfl rfl (Qm rfl QW (by exact hS72.cell 11 rfl rfl)) ?_
   refine Xn rfl rfl rfl rfl rfl rfl ?_
   refine Z0 (k := id) 2 hS72 keysInt Tryz.underlying108 rfl rfl rfl X5 rfl ?_
   intro u73 c73 w73 hS73; dsimp only [List.set] at hS73
   clear hS72
   refine XJ (.cons (.inl ⟨rfl, (Qm rfl QW (by exact hS73.cell 11 rfl rfl))⟩) (.cons (.inl ⟨rfl, (Qm rfl QW (by exact hS73.cell 12 rfl rfl))⟩) (.skip (by kernel_rfl) (.skip (by kernel_rfl) (.skip (by kernel_rfl) (.skip (by kernel_rfl) (.skip (by kernel_rfl) .nil))))))) ?_
   refine Qk rfl rfl rfl (fun _ => (QJ rfl rfl)) ?_
   refine Xn rfl rfl rfl rfl rfl rfl ?_
   have hsv74 : Value.agg #[intV x.refs, intV 1, intV (k : Nat), strV []] = TM ⟨x.refs, 1, (k : Nat), x.pg⟩ := rfl
   refine XY (v := Value.agg #[intV x.refs, intV 1, intV (k : Nat), strV []]) 2 hS73 keysInt rfl rfl rfl rfl ?_
   intro w74 hS74a; dsimp only [List.set] at hS74a; have hS74 := hS74a; rw [hsv74, U8] at hS74
   clear hS73
   refine Zi (.cons (.inl ⟨rfl, (Qm rfl QW (by exact hS74.cell 11 rfl rfl))⟩) (.skip (by kernel_rfl) (.skip (by kernel_rfl) (.skip (by kernel_rfl) (.skip (by kernel_rfl) (.skip (by kernel_rfl) (.skip (by kernel_rfl) .nil))))))) ?_
   refine Xn rfl rfl rfl rfl rfl rfl ?_
   refine Z0 (k := (k : Int)) 3 hS74 keysInt Tryz.underlying109 rfl rfl rfl Y1 rfl ?_
   intro u75 c75 w75 hS75; dsimp only [List.set] at hS75
   clear hS74
   refine XJ (.cons (.inl ⟨rfl, (Qm rfl QW (by exact hS75.cell 11 rfl rfl))⟩) (.skip (by kernel_rfl) (.skip (by kernel_rfl) (.skip (by kernel_rfl) (.skip (by kernel_rfl) (.skip (by kernel_rfl) (.skip (by kernel_rfl) .nil))))))) ?_
   refine Qk rfl rfl rfl (fun _ => (QJ rfl rfl)) ?_
   refine Xn rfl rfl rfl rfl rfl rfl ?_
   refine XY (v := intV id) 3 hS75 keysInt rfl rfl rfl rfl ?_
   intro w76 hS76a; dsimp only [List.set] at hS76a; have hS76 := hS76a; rw [Vu] at hS76
   clear hS75
   refine Zi (.skip (by kernel_rfl) (.skip (by kernel_rfl) (.skip (by kernel_rfl) (.skip (by kernel_rfl) (.skip (by kernel_rfl) (.skip (by kernel_rfl) (.skip (by kernel_rfl) .nil))))))) ?_
   refine VC.nil ?_
   refine Zn ?_
   refine X6 ?_
   refine Wh (L' := [(4, _), (5, _)]) (H0 rfl rfl) ?_
   refine XE ?_
   refine XA ?_
   refine Qb rfl rfl (Qe rfl rfl ?_)
   (refine Xb hS76 rfl rfl KA (by rfl) (i := 8) rfl (by decide) ?_)
   intro w77 hS78; dsimp only [List.set] at hS78
   clear hS76
   refine Qf ?_
   refine Zn ?_
   refine X6 ?_
   refine Y5 ?_
   have hC9 := hS78.split [8, 9, 10, 1] [false, true, false, false, false, false, false, false, true, true, true, false, false, false, false] rfl; dsimp only [QC, Qz, Q9, Q8, Q7] at hC9
   refine Nw (.inr rfl) Uu (Yc rfl hC9) ?_
   rintro v0 w9 hq9
   rw [if_pos rfl] at hq9
   replace hq9 := hq9.join rfl; dsimp only [QU, QT, Q8, Q7] at hq9
   refine ⟨_, Ud rfl (Vi rfl) (DP rfl VV (hq9.cell 0 rfl rfl)), ?_⟩
   exact ⟨_, rfl, .inr (.inl ⟨k, _, hp1, rfl, VO hI Zp hp1 (SL := { S with cache := S.cache.filter (fun n => !decide (n = id)) }) ⟨rfl, rfl, rfl, rfl, rfl, rfl⟩ hg, QP (S := onF S1 id k x.refs x.pg S1.next) (hq9.pick [3, 5, 6, 7, 4, 8, 9, 10, 14] rfl)⟩)⟩
  have hp3 : x.place = 3 := by omega
  have hS79 := hS56.drew
  refine QK [0, 1, 2, 3, 4, 5, 6] [6] ZT (by kernel_rfl) ?_
  refine QF rfl rfl rfl (Qm rfl Xe (by exact hS79.cell 12 rfl rfl)) ?_
  refine Qk rfl rfl rfl (fun _ => (Qq rfl)) ?_
  refine Qk rfl rfl rfl (fun _ => (Qi rfl JA)) ?_
  refine QF rfl rfl rfl (Qm rfl HP (by exact hS79.cell 0 rfl rfl)) ?_
  refine Qk rfl rfl rfl (fun _ => (Qi rfl Jo)) ?_
  refine QF rfl rfl rfl (Qm rfl QW (by exact hS79.cell 9 rfl rfl)) ?_
  refine Xn rfl rfl rfl rfl rfl rfl ?_
  have hC80 := hS79.split [5] [false, false, false, false, false, true, false, false, false, false, false, false, false, false] rfl; dsimp only [QC, Qz, Q9, Q8, Q7] at hC80
  refine Qo Dm rfl (Kj hC80 x.at_) rfl ?_
  rintro e w80 ⟨_, rfl, rfl, hS80⟩; refine ⟨_, rfl, ?_⟩
  replace hS80 := hS80.join rfl; dsimp only [QU, QT, Q8, Q7] at hS80; clear hC80
  clear hS79
  rw [(H9 hI (fun q => q) Zp hp3).2.2] at hS80
  refine XJ (.skip (by kernel_rfl) (.skip (by kernel_rfl) (.skip (by kernel_rfl) .nil))) ?_
  refine VC.nil (Qc ?_)
  refine Qh (L' := [(8, _), (9, _), (7, _), (6, _), (5, _), (4, _), (3, _), (2, _)]) (WT rfl rfl rfl rfl rfl rfl rfl rfl) ?_
  refine Qd ?_
  have hS81 := QP (S := { S with sl := S.sl.set x.at_.toNat [] }) (hS80.pick [1, 2, 3, 4, 5, 0, 6, 7, 10, 8, 12, 11, 9, 13] rfl)
  refine Qa ?_
  refine ZL rfl rfl ?_
  refine Vd rfl ?_
  refine X6 ?_
  refine XE ?_
  refine XA ?_
  refine Qu rfl Xe (by exact hS81.cell 3 rfl rfl) rfl ?_
  have hIL := RP hI Zp hp3
  have hC82 := hS81.split [0] [true, false, false, false, false, false, false] rfl; dsimp only [QC, Qz, Q9, Q8, Q7] at hC82
  refine Qo VL rfl (HA hC82 (E := one id) hIL hN) rfl ?_
  rintro e w82 ⟨_, rfl, (⟨rfl, hall, hfull, hS82⟩ | ⟨k, S1, rfl, hg, hS82⟩)⟩
  ·exact absurd hfull (by have hz := R4.2 (List.mem_of_getElem? (List.getElem?_set_self (l := S.sl) (i := x.at_.toNat) (a := ([] : Bs)) (List.getElem?_eq_some_iff.1 (hI.slt (fun q => q) Zp hp3).2).1)); dsimp only; omega)
  refine ⟨_, rfl, ?_⟩
  replace hS82 := hS82.join rfl; dsimp only [QU, QT, Q8, Q7] at hS82; clear hC82
  clear hS81
  refine Qb rfl rfl (Qw rfl rfl rfl (Qw rfl rfl rfl (Qe rfl rfl (Qe rfl rfl (Qf ?_)))))
  refine Zn ?_
  refine X6 ?_
  refine Wh (L' := [(7, _), (4, _), (8, _), (6, _), (5, _), (3, _), (2, _)]) (WK rfl rfl rfl rfl rfl rfl rfl) ?_
  refine XE ?_
  refine XE ?_
  refine XA ?_
  refine Qb rfl rfl ?_
  refine QS rfl rfl ?_
  refine Qf ?_
  refine Zn ?_
  refine X6 ?_
  refine Yh rfl (fun h83 => ?_) (fun h83 => ?_)
  ·exact absurd h83 (by simp)
  refine H5 ?_
  refine X6 ?_
  refine XE ?_
  obtain ⟨ba, bi, fp, sp, kp, ac, cc, at2, ct, hSo84⟩ := XO (hS82.pick [0, 1, 2, 3, 4, 5, 6] rfl)
  refine XA ?_
  refine Qu rfl Xe (by exact hSo84.cell 10 rfl rfl) rfl ?_
  refine Qj rfl rfl ?_
  refine Qg rfl Wb rfl ?_
  refine Qu rfl J0 (by exact hSo84.cell 0 rfl rfl) rfl ?_
  refine Qb rfl rfl (Qb rfl rfl ?_)
  have hkl : k < S1.fr.length := (List.getElem?_eq_some_iff.1 hg.fr).1
  have hfs : HE (Mg S1 k).fr (k : Int) x.pg = S1.fr.set k (some x.pg) := HH hkl
  have hC85 := hSo84.split [4] [false, false, false, false, true, false, false, false, false, false, false, false, false, false] rfl; dsimp only [QC, Qz, Q9, Q8, Q7] at hC85
  refine Qo VJ rfl (YS hC85 (k : Int) x.pg (hI.ent Zp).2.2.2.2.1) rfl ?_
  rintro e w85 ⟨_, rfl, _, rfl, hS85⟩; refine ⟨_, rfl, ?_⟩
  replace hS85 := hS85.join rfl; dsimp only [QU, QT, Q8, Q7] at hS85; clear hC85
  clear hSo84
  rw [hfs] at hS85
  refine Qf ?_
  refine Zn ?_
  refine X6 ?_
  refine Wh (L' := [(4, _), (6, _), (5, _), (3, _), (2, _)]) (ZH rfl rfl rfl rfl rfl) ?_
  refine XE ?_
  have hS86 := hS85.drew
  refine HU ZT ?_
  refine KM (sp := [15, 17, 18, 20]) [0, 1, 2, 3, 4, 5, 6, 7, 8, 9, 10, 11, 12, 13, 14, 15, 16, 17, 18, 19, 20] (by kernel_rfl) ?_
  refine QF rfl rfl rfl (Qm rfl Xe (by exact hS86.cell 10 rfl rfl)) ?_
  refine Qk rfl rfl rfl (fun _ => (Qq rfl)) ?_
  refine Qk rfl rfl rfl (fun _ => (Qi rfl X8)) ?_
  refine QF rfl rfl rfl (Qm rfl XS (by exact hS86.cell 1 rfl rfl)) ?_
  refine QF rfl rfl rfl (Qm rfl QW (by exact hS86.cell 11 rfl rfl)) ?_
  refine QF rfl rfl rfl (Qm rfl Xe (by exact hS86.cell 10 rfl rfl)) ?_
  refine Qk rfl rfl rfl (fun _ => (Qq rfl)) ?_
  refine Qk rfl rfl rfl (fun _ => (Qi rfl Yw)) ?_
  refine QF rfl rfl rfl (Qm rfl Ww (by exact hS86.cell 1 rfl rfl)) ?_
  refine Qk rfl rfl rfl (fun _ => (Qr rfl)) ?_
  refine Qk rfl rfl rfl (fun _ => (Qi rfl W7)) ?_
  refine QF rfl rfl rfl (Qm rfl QW (by exact hS86.cell 12 rfl rfl)) ?_
  refine Qk rfl rfl rfl (fun _ => (Qr rfl)) ?_
  refine Qk rfl rfl rfl (fun _ => (Ws rfl Wj YB X5 rfl)) ?_
  refine QF rfl rfl rfl (Qm rfl QW (by exact hS86.cell 11 rfl rfl)) ?_
  refine Xn rfl rfl rfl rfl rfl rfl ?_
  refine Z0 (k := id) 2 hS86 keysInt Tryz.underlying108 rfl rfl rfl X5 rfl ?_
  intro u87 c87 w87 hS87; dsimp only [List.set] at hS87
  clear hS86
  refine XJ (.cons (.inl ⟨rfl, (Qm rfl QW (by exact hS87.cell 11 rfl rfl))⟩) (.cons (.inl ⟨rfl, (Qm rfl QW (by exact hS87.cell 12 rfl rfl))⟩) (.skip (by kernel_rfl) (.skip (by kernel_rfl) (.skip (by kernel_rfl) (.skip (by kernel_rfl) (.skip (by kernel_rfl) .nil))))))) ?_
  refine Qk rfl rfl rfl (fun _ => (QJ rfl rfl)) ?_
  refine Xn rfl rfl rfl rfl rfl rfl ?_
  have hsv88 : Value.agg #[intV x.refs, intV 1, intV (k : Nat), strV []] = TM ⟨x.refs, 1, (k : Nat), x.pg⟩ := rfl
  refine XY (v := Value.agg #[intV x.refs, intV 1, intV (k : Nat), strV []]) 2 hS87 keysInt rfl rfl rfl rfl ?_
  intro w88 hS88a; dsimp only [List.set] at hS88a; have hS88 := hS88a; rw [hsv88, U8] at hS88
  clear hS87
  refine Zi (.cons (.inl ⟨rfl, (Qm rfl QW (by exact hS88.cell 11 rfl rfl))⟩) (.skip (by kernel_rfl) (.skip (by kernel_rfl) (.skip (by kernel_rfl) (.skip (by kernel_rfl) (.skip (by kernel_rfl) (.skip (by kernel_rfl) .nil))))))) ?_
  refine Xn rfl rfl rfl rfl rfl rfl ?_
  refine Z0 (k := (k : Int)) 3 hS88 keysInt Tryz.underlying109 rfl rfl rfl Y1 rfl ?_
  intro u89 c89 w89 hS89; dsimp only [List.set] at hS89
  clear hS88
  refine XJ (.cons (.inl ⟨rfl, (Qm rfl QW (by exact hS89.cell 11 rfl rfl))⟩) (.skip (by kernel_rfl) (.skip (by kernel_rfl) (.skip (by kernel_rfl) (.skip (by kernel_rfl) (.skip (by kernel_rfl) (.skip (by kernel_rfl) .nil))))))) ?_
  refine Qk rfl rfl rfl (fun _ => (QJ rfl rfl)) ?_
  refine Xn rfl rfl rfl rfl rfl rfl ?_
  refine XY (v := intV id) 3 hS89 keysInt rfl rfl rfl rfl ?_
  intro w90 hS90a; dsimp only [List.set] at hS90a; have hS90 := hS90a; rw [Vu] at hS90
  clear hS89
  refine Zi (.skip (by kernel_rfl) (.skip (by kernel_rfl) (.skip (by kernel_rfl) (.skip (by kernel_rfl) (.skip (by kernel_rfl) (.skip (by kernel_rfl) (.skip (by kernel_rfl) .nil))))))) ?_
  refine VC.nil ?_
  refine Zn ?_
  refine X6 ?_
  refine Wh (L' := [(4, _), (5, _)]) (H0 rfl rfl) ?_
  refine XE ?_
  refine XA ?_
  refine Qb rfl rfl (Qe rfl rfl ?_)
  (refine Xb hS90 rfl rfl KA (by rfl) (i := 8) rfl (by decide) ?_)
  intro w91 hS92; dsimp only [List.set] at hS92
  clear hS90
  refine Qf ?_
  refine Zn ?_
  refine X6 ?_
  refine Y5 ?_
  have hC9 := hS92.split [8, 9, 10, 1] [false, true, false, false, false, false, false, false, true, true, true, false, false, false] rfl; dsimp only [QC, Qz, Q9, Q8, Q7] at hC9
  refine Nw (.inr rfl) Uu (Yc rfl hC9) ?_
  rintro v0 w9 hq9
  rw [if_pos rfl] at hq9
  replace hq9 := hq9.join rfl; dsimp only [QU, QT, Q8, Q7] at hq9
  refine ⟨_, Ud rfl (Vi rfl) (DP rfl VV (hq9.cell 0 rfl rfl)), ?_⟩
  exact ⟨_, rfl, .inr (.inl ⟨k, _, hp1, rfl, VO hI Zp hp1 (SL := { S with sl := S.sl.set x.at_.toNat [] }) ⟨rfl, rfl, rfl, rfl, rfl, rfl⟩ hg, QP (S := onF S1 id k x.refs x.pg S1.next) (hq9.pick [3, 5, 6, 7, 4, 8, 9, 10, 13] rfl)⟩)⟩
end Go.Proofs.YtkcjfoaejijdoaaGreatDoor
