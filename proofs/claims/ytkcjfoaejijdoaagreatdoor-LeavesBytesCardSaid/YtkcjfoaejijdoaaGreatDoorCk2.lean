/- reclaim: victim, pass -/
import Derived.Test.YtkcjfoaejijdoaaGreatDoorCk1
import Derived.Test.YtkcjfoaejijdoaaGreatDoorRow
import Derived.Test.YtkcjfoaejijdoaaGreatDoorDk
namespace Go.Proofs.YtkcjfoaejijdoaaGreatDoor
open Go.RowKit M
set_option linter.unusedVariables false
def okK (ul : List Bool) (n : Int) : Prop := n = -1 ∨ (0 ≤ n ∧ ul[n.toNat]? = some true)
theorem clk_all {ul : List Bool} {hd : Int} (h0 : 0 ≤ hd) (h1 : hd < ul.length) (h : ∀ j : Nat, j < ul.length → ul[((hd + (j : Int)) % (ul.length : Int)).toNat]? = some false) : ∀ x ∈ ul, x = false := by
  intro x hx
  obtain ⟨k, hk⟩ := List.mem_iff_getElem?.1 hx
  have hkl := (List.getElem?_eq_some_iff.1 hk).1
  have h5 := Int.emod_lt_of_pos ((k : Int) - hd) (show (0 : Int) < ul.length by omega)
  have h6 := Int.emod_nonneg ((k : Int) - hd) (show (ul.length : Int) ≠ 0 by omega)
  have hj := h (((k : Int) - hd) % (ul.length : Int)).toNat (by omega)
  have e : ((hd + (((((k : Int) - hd) % (ul.length : Int)).toNat : Nat) : Int)) % (ul.length : Int)).toNat = k := by
    rw [Int.toNat_of_nonneg h6, Int.add_emod_emod, show hd + ((k : Int) - hd) = (k : Int) by omega, Int.emod_eq_of_lt (by omega) (by omega)]; omega
  rw [e, hk] at hj
  exact Option.some.inj hj
set_option maxRecDepth 100000 in
set_option maxHeartbeats 800000000 in
theorem M6 {w : World} {p : Nat} {ul : List Bool} {hd : Int} {F : Th} (hS : Sat w [KV p ul hd, F]) :
    Calls Tryz.prog 169 #[ptrV p 0] w (Ret fun v w' => (∃ k : Nat, ul[k]? = some true ∧ v = .tuple #[intV (k : Int), .bool true] ∧ Sat w' [KV p ul hd, F]) ∨ ((∀ x ∈ ul, x = false) ∧ v = .tuple #[intV 0, .bool false] ∧ Sat w' [KV p ul hd, F])) := by
 obtain ⟨ob, cap, l, b1, b2, b3, g1, g2, g3, hul, hl4, hh0, hh1, hS⟩ := W9 hS
 refine Qt Tryz.func169 rfl Tryz.ntmps169 rfl ?_
 refine Qd (Qa (Qe rfl rfl (Qe rfl rfl (Qf (Qc (Qd (Qa (Qe rfl rfl (Qe rfl rfl (Qf (Qc (Qd (Qd (Qa (Qb rfl rfl (Qj rfl rfl ?_))))))))))))))))
 refine Qg rfl Zx rfl ?_
 refine Qu rfl Wv (by exact hS.cell 0 rfl rfl) rfl ?_
 refine XU Tryz.underlying186 rfl rfl ?_
 refine Qb rfl rfl (Qf (Qc ?_))
 refine Qh (L' := [(14, _), (13, _), (5, _), (4, _), (3, _), (2, _), (0, _)]) (WK rfl rfl rfl rfl rfl rfl rfl) ?_
 refine Q1 ?_
 refine Xw (fun K0 E0 W0 => ∃ (i : Nat) (um an : Int), K0 = l.length - i ∧ E0 = [(0, ptrV p 0), (4, intV um), (5, intV an), (13, intV (l.length : Int)), (14, intV (i : Int))] ∧ Sat W0 [QO p [.slice (some ⟨ob, 0, none⟩) l.length cap, intV hd, .map (some b1), .map (some b2), .map (some b3)], rowT ckC (.slice (some ⟨ob, 0, none⟩) l.length cap) l, QH Xd b1 (gI g1), QH Xd b2 (gI g2), QH Xd b3 (gI g3), F] ∧ (i ≤ l.length) ∧ (okK ul um) ∧ (okK ul an) ∧ (an = -1 → ∀ j : Nat, j < i → ul[((hd + (j : Int)) % (ul.length : Int)).toNat]? = some false)) (L0 := [(0, _), (4, _), (5, _), (13, _), (14, _)]) (l.length - 0) (ZH rfl rfl rfl rfl rfl) ⟨0, -1, -1, rfl, rfl, hS, by omega, .inl rfl, .inl rfl, fun _ j hj => by omega⟩ ?_
 rintro _ _ w1 ⟨i, um, an, rfl, rfl, hS1, hi, hum, han, hall⟩
 refine Qd (Qa ?_)
 refine Xt rfl rfl rfl ?_
 refine Qf (Qc (Qd ?_))
 refine Qx rfl (fun h2 => ?_) (fun h2 => ?_)
 ·refine Qy (Qc (Qd (Q1 (Qd (Qa (Qb rfl rfl (Qe rfl rfl (Qf (Qc (Qd ?_))))))))))
  have hS3 := hS1.drew
  refine QK [0, 1, 2, 3, 4, 5, 6, 7, 8, 9, 10, 11, 12] [] ZT (by kernel_rfl) ?_
  refine Qk rfl rfl rfl (fun _ => (Qr rfl)) ?_
  refine Qk rfl rfl rfl (fun _ => (Qq rfl)) ?_
  refine Qk rfl rfl rfl (fun _ => (Qi rfl J8)) ?_
  refine QF rfl rfl rfl (Qm rfl QW (by exact hS3.cell 0 rfl rfl)) ?_
  refine Qk rfl rfl rfl (fun _ => (Qr rfl)) ?_
  refine Qk rfl rfl rfl (fun _ => (Kx rfl rfl (by omega) (by omega))) ?_
  refine Qk rfl rfl rfl (fun _ => (Qr rfl)) ?_
  refine Qk rfl rfl rfl (fun _ => (Qq rfl)) ?_
  refine Qk rfl rfl rfl (fun _ => (Qi rfl Zx)) ?_
  refine QF rfl rfl rfl (Qm rfl Wv (by exact hS3.cell 0 rfl rfl)) ?_
  refine Qk rfl rfl rfl (fun _ => (Uq Tryz.underlying186 rfl)) ?_
  refine Qk rfl rfl rfl (fun _ => (Gg rfl rfl (by omega) (by omega))) ?_
  refine Qk rfl rfl rfl (fun _ => (Q6 rfl)) ?_
  refine VC.nil ?_
  have hm1 : 0 ≤ ((hd + (i : Int)) % (l.length : Int)) := Int.emod_nonneg _ (by omega)
  have hm2 : ((hd + (i : Int)) % (l.length : Int)) < (l.length : Int) := Int.emod_lt_of_pos _ (by omega)
  obtain ⟨x, hx⟩ : ∃ x, l[((hd + (i : Int)) % (l.length : Int)).toNat]? = some x := ⟨_, List.getElem?_eq_getElem (by omega)⟩
  have hulk : ul[((hd + (i : Int)) % (l.length : Int)).toNat]? = some x.u := by rw [hul]; exact ck_u hx
  have hulx : ul[((hd + (i : Int)) % (ul.length : Int)).toNat]? = some x.u := by rw [show (ul.length : Int) = (l.length : Int) by rw [hul, List.length_map]]; exact hulk
  refine Qc ?_
  refine Qh (L' := [(7, _), (0, _), (4, _), (5, _), (13, _), (14, _)]) (Wf rfl rfl rfl rfl rfl rfl) ?_
  refine Qd (Qa (Qb rfl rfl (Qj rfl rfl ?_)))
  refine Qg rfl Zx rfl ?_
  refine Qu rfl Wv (by exact hS3.cell 0 rfl rfl) rfl ?_
  refine Qb rfl rfl ?_
  refine Xp ckC 1 ((hd + (i : Int)) % (l.length : Int)).toNat hS3 rfl rfl rfl (by rw [Int.toNat_of_nonneg hm1]) hx JG rfl ?_
  intro bx4 capx4 hvx4
  refine ZA 1 ((hd + (i : Int)) % (l.length : Int)).toNat hS3 rfl hvx4 rfl hx Fb UD rfl rfl ?_
  refine Xl hS3 Rx rfl rfl ?_
  intro b5 w5 hS5
  clear hS3
  (refine Xa hS5 rfl rfl UD rfl (by rfl) (i := 0) rfl (by decide) ?_)
  intro w6 hS7; dsimp only [List.set] at hS7
  clear hS5
  refine Qf (Qc ?_)
  refine Qh (L' := [(8, _), (7, _), (0, _), (4, _), (5, _), (13, _), (14, _)]) (WK rfl rfl rfl rfl rfl rfl rfl) ?_
  refine Qd (Q1 (Qd (Qa ?_)))
  refine Qg rfl V7 rfl ?_
  refine Qu rfl Gz (by exact hS7.cell 0 rfl rfl) rfl ?_
  refine QS rfl rfl ?_
  refine Qe rfl rfl (Qf (Qc ?_))
  refine Qh (L' := [(36, _), (8, _), (7, _), (0, _), (4, _), (5, _), (13, _), (14, _)]) (WT rfl rfl rfl rfl rfl rfl rfl rfl) ?_
  refine QR rfl (fun h8 => ?_) (fun h8 => ?_)
  ·have hxu : x.u = false := by simpa using h8
   refine QZ ?_
   refine GB rfl ?_
   refine Qv (Q4 (Qc (Qa ?_)))
   refine QN rfl rfl (by omega) (by omega) rfl ?_
   refine Qb rfl rfl (Qf ?_)
   exact QG (L1 := [(0, _), (4, intV um), (5, intV an), (13, _), (14, intV ((i + 1 : Nat) : Int))]) (ZH rfl rfl rfl rfl rfl) (k1 := l.length - (i + 1)) (by omega) ⟨i + 1, um, an, rfl, rfl, hS7.pick [1, 2, 3, 4, 5, 6] rfl, by omega, hum, han, fun e j hj => by by_cases q : j = i; (subst q; rw [hulx, hxu]); exact hall e j (by omega)⟩
  have hxu : x.u = true := by simpa using h8
  refine Qd (Qa ?_)
  refine Qg rfl YU rfl ?_
  refine Qu rfl Gz (by exact hS7.cell 0 rfl rfl) rfl ?_
  refine QS rfl rfl ?_
  refine Qb rfl rfl ?_
  refine Zd 44 rfl (fun h9 => ?_) (fun h9 => ?_)
  ·refine Qn rfl rfl h9 ?_
   refine Qb rfl rfl ?_
   refine Qn rfl rfl h9 ?_
   refine Qg rfl V6 rfl ?_
   refine Qn rfl rfl h9 ?_
   refine Qu rfl QW (by exact hS7.cell 0 rfl rfl) rfl ?_
   refine Qn rfl rfl h9 ?_
   have hC10 := hS7.split [1, 2, 3, 4, 5] [false, true, true, true, true, true, false] rfl; dsimp only [QC, Qz, Q9, Q8, Q7] at hC10
   refine Qo cal_203 rfl (ND hC10 x.o) rfl ?_
   rintro e w10 ⟨_, rfl, g0, rfl, hS10⟩; refine ⟨_, rfl, ?_⟩
   replace hS10 := hS10.join rfl; dsimp only [QU, QT, Q8, Q7] at hS10; clear hC10
   clear hS7
   refine Xg rfl h9 rfl rfl ?_
   refine Qe rfl rfl (Qf (Qc ?_))
   refine Qh (L' := [(40, _), (8, _), (7, _), (0, _), (4, _), (5, _), (13, _), (14, _)]) (WT rfl rfl rfl rfl rfl rfl rfl rfl) ?_
   refine QR rfl (fun h11 => ?_) (fun h11 => ?_)
   ·refine Qd (Qa (Qb rfl rfl (Qe rfl rfl (Qe rfl rfl (Qf (Qc ?_))))))
    refine Qh (L' := [(3, _), (2, _), (7, _), (0, _), (4, _), (5, _), (13, _), (14, _)]) (WT rfl rfl rfl rfl rfl rfl rfl rfl) ?_
    refine Q0 (QE (Qs (QE (Qs (Qs (QE (Qs ?_)))))))
    refine Wo (.inr rfl) rfl rfl rfl ?_
    exact ⟨_, rfl, .inl ⟨((hd + (i : Int)) % (l.length : Int)).toNat, by rw [hulk, hxu], by rw [Int.toNat_of_nonneg hm1], XT (hul) (hl4) (hh0) (hh1) (hS10.pick [0, 1, 2, 3, 4, 6] rfl)⟩⟩
   refine Qd (Qa ?_)
   refine Qg rfl YU rfl ?_
   refine Qu rfl Gz (by exact hS10.cell 5 rfl rfl) rfl ?_
   refine QS rfl rfl ?_
   refine Qb rfl rfl ?_
   refine Zd 55 rfl (fun h12 => ?_) (fun h12 => ?_)
   ·refine Qn rfl rfl h12 ?_
    refine Qb rfl rfl ?_
    refine Qn rfl rfl h12 ?_
    refine Xt rfl rfl rfl ?_
    refine Xg rfl h12 rfl rfl ?_
    refine Qe rfl rfl (Qf (Qc ?_))
    refine Qh (L' := [(51, _), (7, _), (0, _), (4, _), (5, _), (13, _), (14, _)]) (WK rfl rfl rfl rfl rfl rfl rfl) ?_
    refine Qx rfl (fun h13 => ?_) (fun h13 => ?_)
    ·refine Qa (Qb rfl rfl (Qe rfl rfl (Qf (Qp (Qc (Qd (Qa (Qb rfl rfl ?_))))))))
     refine Xt rfl rfl rfl ?_
     refine Qf (Qc ?_)
     refine Qx rfl (fun h14 => ?_) (fun h14 => ?_)
     ·refine Qa (Qb rfl rfl (Qe rfl rfl (Qf (Qp (Qc ?_)))))
      refine Qh (L' := [(5, _), (4, _), (0, _), (13, _), (14, _)]) (ZH rfl rfl rfl rfl rfl) ?_
      refine Qa ?_
      refine QN rfl rfl (by omega) (by omega) rfl ?_
      refine Qb rfl rfl (Qf ?_)
      exact QG (L1 := [(0, _), (4, intV ((hd + (i : Int)) % (l.length : Int))), (5, intV ((hd + (i : Int)) % (l.length : Int))), (13, _), (14, intV ((i + 1 : Nat) : Int))]) (ZH rfl rfl rfl rfl rfl) (k1 := l.length - (i + 1)) (by omega) ⟨i + 1, ((hd + (i : Int)) % (l.length : Int)), ((hd + (i : Int)) % (l.length : Int)), rfl, rfl, hS10.pick [0, 1, 2, 3, 4, 6] rfl, by omega, .inr ⟨by omega, by rw [hulk, hxu]⟩, .inr ⟨by omega, by rw [hulk, hxu]⟩, fun e => by omega⟩
     refine Qy (Qp (Qc (Qa ?_)))
     refine QN rfl rfl (by omega) (by omega) rfl ?_
     refine Qb rfl rfl (Qf ?_)
     exact QG (L1 := [(0, _), (4, intV ((hd + (i : Int)) % (l.length : Int))), (5, intV an), (13, _), (14, intV ((i + 1 : Nat) : Int))]) (ZH rfl rfl rfl rfl rfl) (k1 := l.length - (i + 1)) (by omega) ⟨i + 1, ((hd + (i : Int)) % (l.length : Int)), an, rfl, rfl, hS10.pick [0, 1, 2, 3, 4, 6] rfl, by omega, .inr ⟨by omega, by rw [hulk, hxu]⟩, han, fun e => by omega⟩
    refine Qy (Qp (Qc (Qd (Qa (Qb rfl rfl ?_)))))
    refine Xt rfl rfl rfl ?_
    refine Qf (Qc ?_)
    refine Qx rfl (fun h15 => ?_) (fun h15 => ?_)
    ·refine Qa (Qb rfl rfl (Qe rfl rfl (Qf (Qp (Qc (Qa ?_))))))
     refine QN rfl rfl (by omega) (by omega) rfl ?_
     refine Qb rfl rfl (Qf ?_)
     exact QG (L1 := [(0, _), (4, intV um), (5, intV ((hd + (i : Int)) % (l.length : Int))), (13, _), (14, intV ((i + 1 : Nat) : Int))]) (ZH rfl rfl rfl rfl rfl) (k1 := l.length - (i + 1)) (by omega) ⟨i + 1, um, ((hd + (i : Int)) % (l.length : Int)), rfl, rfl, hS10.pick [0, 1, 2, 3, 4, 6] rfl, by omega, hum, .inr ⟨by omega, by rw [hulk, hxu]⟩, fun e => by omega⟩
    refine Qy (Qp (Qc (Qa ?_)))
    refine QN rfl rfl (by omega) (by omega) rfl ?_
    refine Qb rfl rfl (Qf ?_)
    exact QG (L1 := [(0, _), (4, intV um), (5, intV an), (13, _), (14, intV ((i + 1 : Nat) : Int))]) (ZH rfl rfl rfl rfl rfl) (k1 := l.length - (i + 1)) (by omega) ⟨i + 1, um, an, rfl, rfl, hS10.pick [0, 1, 2, 3, 4, 6] rfl, by omega, hum, han, fun e => by omega⟩
   refine Ql rfl rfl h12 rfl ?_
   refine Ql rfl rfl h12 rfl ?_
   refine QX rfl h12 rfl rfl ?_
   refine Qe rfl rfl (Qf (Qc ?_))
   refine Qh (L' := [(51, _), (7, _), (0, _), (4, _), (5, _), (13, _), (14, _)]) (WK rfl rfl rfl rfl rfl rfl rfl) ?_
   refine Xm rfl ?_
   refine Qy (Qp (Qc (Qd (Qa (Qb rfl rfl ?_)))))
   refine Xt rfl rfl rfl ?_
   refine Qf (Qc ?_)
   refine Qx rfl (fun h16 => ?_) (fun h16 => ?_)
   ·refine Qa (Qb rfl rfl (Qe rfl rfl (Qf (Qp (Qc (Qa ?_))))))
    refine QN rfl rfl (by omega) (by omega) rfl ?_
    refine Qb rfl rfl (Qf ?_)
    exact QG (L1 := [(0, _), (4, intV um), (5, intV ((hd + (i : Int)) % (l.length : Int))), (13, _), (14, intV ((i + 1 : Nat) : Int))]) (ZH rfl rfl rfl rfl rfl) (k1 := l.length - (i + 1)) (by omega) ⟨i + 1, um, ((hd + (i : Int)) % (l.length : Int)), rfl, rfl, hS10.pick [0, 1, 2, 3, 4, 6] rfl, by omega, hum, .inr ⟨by omega, by rw [hulk, hxu]⟩, fun e => by omega⟩
   refine Qy (Qp (Qc (Qa ?_)))
   refine QN rfl rfl (by omega) (by omega) rfl ?_
   refine Qb rfl rfl (Qf ?_)
   exact QG (L1 := [(0, _), (4, intV um), (5, intV an), (13, _), (14, intV ((i + 1 : Nat) : Int))]) (ZH rfl rfl rfl rfl rfl) (k1 := l.length - (i + 1)) (by omega) ⟨i + 1, um, an, rfl, rfl, hS10.pick [0, 1, 2, 3, 4, 6] rfl, by omega, hum, han, fun e => by omega⟩
  refine Ql rfl rfl h9 rfl ?_
  refine Ql rfl rfl h9 rfl ?_
  refine Ql rfl rfl h9 rfl ?_
  refine Ql rfl rfl h9 rfl ?_
  refine QX rfl h9 rfl rfl ?_
  refine Qe rfl rfl (Qf (Qc ?_))
  refine Qh (L' := [(40, _), (8, _), (7, _), (0, _), (4, _), (5, _), (13, _), (14, _)]) (WT rfl rfl rfl rfl rfl rfl rfl rfl) ?_
  refine Xm rfl ?_
  refine Qd (Qa ?_)
  refine Qg rfl YU rfl ?_
  refine Qu rfl Gz (by exact hS7.cell 0 rfl rfl) rfl ?_
  refine QS rfl rfl ?_
  refine Qb rfl rfl ?_
  refine Zd 55 rfl (fun h17 => ?_) (fun h17 => ?_)
  ·refine Qn rfl rfl h17 ?_
   refine Qb rfl rfl ?_
   refine Qn rfl rfl h17 ?_
   refine Xt rfl rfl rfl ?_
   refine Xg rfl h17 rfl rfl ?_
   refine Qe rfl rfl (Qf (Qc ?_))
   refine Qh (L' := [(51, _), (7, _), (0, _), (4, _), (5, _), (13, _), (14, _)]) (WK rfl rfl rfl rfl rfl rfl rfl) ?_
   refine Qx rfl (fun h18 => ?_) (fun h18 => ?_)
   ·refine Qa (Qb rfl rfl (Qe rfl rfl (Qf (Qp (Qc (Qd (Qa (Qb rfl rfl ?_))))))))
    refine Xt rfl rfl rfl ?_
    refine Qf (Qc ?_)
    refine Qx rfl (fun h19 => ?_) (fun h19 => ?_)
    ·refine Qa (Qb rfl rfl (Qe rfl rfl (Qf (Qp (Qc ?_)))))
     refine Qh (L' := [(5, _), (4, _), (0, _), (13, _), (14, _)]) (ZH rfl rfl rfl rfl rfl) ?_
     refine Qa ?_
     refine QN rfl rfl (by omega) (by omega) rfl ?_
     refine Qb rfl rfl (Qf ?_)
     exact QG (L1 := [(0, _), (4, intV ((hd + (i : Int)) % (l.length : Int))), (5, intV ((hd + (i : Int)) % (l.length : Int))), (13, _), (14, intV ((i + 1 : Nat) : Int))]) (ZH rfl rfl rfl rfl rfl) (k1 := l.length - (i + 1)) (by omega) ⟨i + 1, ((hd + (i : Int)) % (l.length : Int)), ((hd + (i : Int)) % (l.length : Int)), rfl, rfl, hS7.pick [1, 2, 3, 4, 5, 6] rfl, by omega, .inr ⟨by omega, by rw [hulk, hxu]⟩, .inr ⟨by omega, by rw [hulk, hxu]⟩, fun e => by omega⟩
    refine Qy (Qp (Qc (Qa ?_)))
    refine QN rfl rfl (by omega) (by omega) rfl ?_
    refine Qb rfl rfl (Qf ?_)
    exact QG (L1 := [(0, _), (4, intV ((hd + (i : Int)) % (l.length : Int))), (5, intV an), (13, _), (14, intV ((i + 1 : Nat) : Int))]) (ZH rfl rfl rfl rfl rfl) (k1 := l.length - (i + 1)) (by omega) ⟨i + 1, ((hd + (i : Int)) % (l.length : Int)), an, rfl, rfl, hS7.pick [1, 2, 3, 4, 5, 6] rfl, by omega, .inr ⟨by omega, by rw [hulk, hxu]⟩, han, fun e => by omega⟩
   refine Qy (Qp (Qc (Qd (Qa (Qb rfl rfl ?_)))))
   refine Xt rfl rfl rfl ?_
   refine Qf (Qc ?_)
   refine Qx rfl (fun h20 => ?_) (fun h20 => ?_)
   ·refine Qa (Qb rfl rfl (Qe rfl rfl (Qf (Qp (Qc (Qa ?_))))))
    refine QN rfl rfl (by omega) (by omega) rfl ?_
    refine Qb rfl rfl (Qf ?_)
    exact QG (L1 := [(0, _), (4, intV um), (5, intV ((hd + (i : Int)) % (l.length : Int))), (13, _), (14, intV ((i + 1 : Nat) : Int))]) (ZH rfl rfl rfl rfl rfl) (k1 := l.length - (i + 1)) (by omega) ⟨i + 1, um, ((hd + (i : Int)) % (l.length : Int)), rfl, rfl, hS7.pick [1, 2, 3, 4, 5, 6] rfl, by omega, hum, .inr ⟨by omega, by rw [hulk, hxu]⟩, fun e => by omega⟩
   refine Qy (Qp (Qc (Qa ?_)))
   refine QN rfl rfl (by omega) (by omega) rfl ?_
   refine Qb rfl rfl (Qf ?_)
   exact QG (L1 := [(0, _), (4, intV um), (5, intV an), (13, _), (14, intV ((i + 1 : Nat) : Int))]) (ZH rfl rfl rfl rfl rfl) (k1 := l.length - (i + 1)) (by omega) ⟨i + 1, um, an, rfl, rfl, hS7.pick [1, 2, 3, 4, 5, 6] rfl, by omega, hum, han, fun e => by omega⟩
  refine Ql rfl rfl h17 rfl ?_
  refine Ql rfl rfl h17 rfl ?_
  refine QX rfl h17 rfl rfl ?_
  refine Qe rfl rfl (Qf (Qc ?_))
  refine Qh (L' := [(51, _), (7, _), (0, _), (4, _), (5, _), (13, _), (14, _)]) (WK rfl rfl rfl rfl rfl rfl rfl) ?_
  refine Xm rfl ?_
  refine Qy (Qp (Qc (Qd (Qa (Qb rfl rfl ?_)))))
  refine Xt rfl rfl rfl ?_
  refine Qf (Qc ?_)
  refine Qx rfl (fun h21 => ?_) (fun h21 => ?_)
  ·refine Qa (Qb rfl rfl (Qe rfl rfl (Qf (Qp (Qc (Qa ?_))))))
   refine QN rfl rfl (by omega) (by omega) rfl ?_
   refine Qb rfl rfl (Qf ?_)
   exact QG (L1 := [(0, _), (4, intV um), (5, intV ((hd + (i : Int)) % (l.length : Int))), (13, _), (14, intV ((i + 1 : Nat) : Int))]) (ZH rfl rfl rfl rfl rfl) (k1 := l.length - (i + 1)) (by omega) ⟨i + 1, um, ((hd + (i : Int)) % (l.length : Int)), rfl, rfl, hS7.pick [1, 2, 3, 4, 5, 6] rfl, by omega, hum, .inr ⟨by omega, by rw [hulk, hxu]⟩, fun e => by omega⟩
  refine Qy (Qp (Qc (Qa ?_)))
  refine QN rfl rfl (by omega) (by omega) rfl ?_
  refine Qb rfl rfl (Qf ?_)
  exact QG (L1 := [(0, _), (4, intV um), (5, intV an), (13, _), (14, intV ((i + 1 : Nat) : Int))]) (ZH rfl rfl rfl rfl rfl) (k1 := l.length - (i + 1)) (by omega) ⟨i + 1, um, an, rfl, rfl, hS7.pick [1, 2, 3, 4, 5, 6] rfl, by omega, hum, han, fun e => by omega⟩
 refine QZ (Qv (Qv (Q4 (Qc (Qd (Qd (Qa (Qb rfl rfl ?_))))))))
 refine JE rfl rfl rfl ?_
 refine Qf (Qc ?_)
 refine Qx rfl (fun h22 => ?_) (fun h22 => ?_)
 ·refine Qd (Qa (Qb rfl rfl (Qe rfl rfl (Qe rfl rfl (Qf (Qc ?_))))))
  refine Qh (L' := [(3, _), (2, _), (5, _)]) (Y2 rfl rfl rfl) ?_
  refine Q0 (Qs ?_)
  refine Wo (.inr rfl) rfl rfl rfl ?_
  obtain ⟨h0, h1⟩ := hum.resolve_left (by omega); exact ⟨_, rfl, .inl ⟨um.toNat, h1, by rw [Int.toNat_of_nonneg h0], XT (hul) (hl4) (hh0) (hh1) (hS1.pick [0, 1, 2, 3, 4, 5] rfl)⟩⟩
 refine Qy (Qc (Qd (Qa (Qb rfl rfl ?_))))
 refine JL rfl rfl rfl ?_
 refine Qb rfl rfl ?_
 refine JE rfl rfl rfl ?_
 refine Qe rfl rfl (Qe rfl rfl (Qf (Qc ?_)))
 refine Qh (L' := [(3, _), (2, _)]) (H0 rfl rfl) ?_
 refine Q0 ?_
 refine Wo (.inr rfl) rfl rfl rfl ?_
 rcases han with han | ⟨ha0, ha1⟩
 ·exact ⟨_, rfl, .inr ⟨clk_all hh0 (by rw [hul, List.length_map]; exact hh1) (fun j hj => hall han j (by rw [hul, List.length_map] at hj; omega)), by subst han; rfl, XT (hul) (hl4) (hh0) (hh1) (hS1.pick [0, 1, 2, 3, 4, 5] rfl)⟩⟩
 ·exact ⟨_, rfl, .inl ⟨an.toNat, ha1, by rw [Int.max_eq_left ha0, decide_eq_true (show an ≥ 0 from ha0), Int.toNat_of_nonneg ha0], XT (hul) (hl4) (hh0) (hh1) (hS1.pick [0, 1, 2, 3, 4, 5] rfl)⟩⟩
set_option maxRecDepth 100000 in
theorem YZ {w : World} {p : Nat} {ul : List Bool} {hd : Int} {F : Th} (hS : Sat w [KV p ul hd, F]) :
    Calls Tryz.prog 170 #[ptrV p 0] w (Ret fun v w' => v = .tuple #[] ∧ Sat w' [KV p ul (if hd + 1 < (ul.length : Int) then hd + 1 else 0), F]) := by
 obtain ⟨ob, cap, l, b1, b2, b3, g1, g2, g3, hul, hl4, hh0, hh1, hS⟩ := W9 hS
 obtain ⟨x, hx⟩ : ∃ x, l[hd.toNat]? = some x := ⟨_, List.getElem?_eq_getElem (by omega)⟩
 refine Qt Tryz.func170 rfl Tryz.ntmps170 rfl ?_
 refine Qd ?_
 have hS1 := hS.drew
 refine QK [0, 1, 2, 3, 4, 5, 6, 7, 8, 9, 10] [10] ZT (by kernel_rfl) ?_
 refine Qk rfl rfl rfl (fun _ => (Qr rfl)) ?_
 refine Qk rfl rfl rfl (fun _ => (Qq rfl)) ?_
 refine Qk rfl rfl rfl (fun _ => (Qi rfl Zx)) ?_
 refine QF rfl rfl rfl (Qm rfl Wv (by exact hS1.cell 0 rfl rfl)) ?_
 refine Qk rfl rfl rfl (fun _ => (Qr rfl)) ?_
 refine Qk rfl rfl rfl (fun _ => (Qq rfl)) ?_
 refine Qk rfl rfl rfl (fun _ => (Qi rfl J8)) ?_
 refine QF rfl rfl rfl (Qm rfl QW (by exact hS1.cell 0 rfl rfl)) ?_
 refine Qk rfl rfl rfl (fun _ => (JR hd.toNat rfl rfl (by omega) (by omega) JG)) ?_
 refine Qk rfl rfl rfl (fun _ => (Qi rfl YU)) ?_
 refine Xn rfl rfl rfl rfl rfl rfl ?_
 refine WB 1 hd.toNat 1 { x with m := false } hS1 rfl rfl rfl (by show 0 + hd.toNat * 4 + 1 = hd.toNat * 4 + 1; omega) rfl Pe hx rfl (by decide) rfl rfl ?_
 intro w2 hS2; dsimp only [List.set] at hS2
 clear hS1
 refine Zi (.skip (by kernel_rfl) (.skip (by kernel_rfl) .nil)) ?_
 refine VC.nil (Qc ?_)
 refine Qh (L' := [(0, _)]) (Hd rfl) ?_
 refine Qd (Qa (Qb rfl rfl (Qj rfl rfl ?_)))
 refine Qg rfl J8 rfl ?_
 refine Qu rfl QW (by exact hS2.cell 0 rfl rfl) rfl ?_
 refine QN rfl rfl (by omega) (by omega) rfl ?_
 refine Qj rfl rfl ?_
 refine Qg rfl J8 rfl ?_
 first | (refine Xb hS2 rfl rfl YM (by rfl) (i := 0) rfl (by exact Nat.le_of_ble_eq_true rfl) ?_)
 intro w3 hS4; dsimp only [List.set] at hS4
 clear hS2
 refine Qf (Qc (Qd (Qd ?_)))
 have hS5 := hS4.drew
 refine QK [0, 1, 2, 3, 4, 5, 6, 7, 8, 9] [] ZT (by kernel_rfl) ?_
 refine Qk rfl rfl rfl (fun _ => (Qr rfl)) ?_
 refine Qk rfl rfl rfl (fun _ => (Qq rfl)) ?_
 refine Qk rfl rfl rfl (fun _ => (Qi rfl J8)) ?_
 refine QF rfl rfl rfl (Qm rfl QW (by exact hS5.cell 0 rfl rfl)) ?_
 refine Qk rfl rfl rfl (fun _ => (Qr rfl)) ?_
 refine Qk rfl rfl rfl (fun _ => (Qq rfl)) ?_
 refine Qk rfl rfl rfl (fun _ => (Qi rfl Zx)) ?_
 refine QF rfl rfl rfl (Qm rfl Wv (by exact hS5.cell 0 rfl rfl)) ?_
 refine Qk rfl rfl rfl (fun _ => (Uq Tryz.underlying186 rfl)) ?_
 refine Qk rfl rfl rfl (fun _ => (BX rfl rfl)) ?_
 refine VC.nil (Qc ?_)
 refine Qh (L' := [(29, _), (0, _)]) (H0 rfl rfl) ?_
 refine Qx rfl (fun h6 => ?_) (fun h6 => ?_)
 ·refine Q0 (Qs ?_)
  refine W4 (.inr rfl) rfl ?_
  exact ⟨_, rfl, rfl, by rw [if_pos (by rw [hul, List.length_map]; omega)]; exact XT (l := l.set hd.toNat { x with m := false }) (by rw [hul]; exact (Us (y := { x with m := false }) hx rfl).symm) (by rw [List.length_set]; exact hl4) (by omega) (by rw [List.length_set]; omega) (hS5.pick [0, 1, 2, 3, 4, 5] rfl)⟩
 refine Qy (Qc (Qd (Qa (Qb rfl rfl (Qj rfl rfl ?_)))))
 refine Qg rfl J8 rfl ?_
 first | (refine Xb hS5 rfl rfl YM (by rfl) (i := 0) rfl (by exact Nat.le_of_ble_eq_true rfl) ?_)
 intro w7 hS8; dsimp only [List.set] at hS8
 clear hS5
 refine Qf (Qc (Qd (Qd (Qa (Qb rfl rfl (Qj rfl rfl ?_))))))
 refine Qg rfl Zx rfl ?_
 refine Qu rfl Wv (by exact hS8.cell 0 rfl rfl) rfl ?_
 refine XU Tryz.underlying186 rfl rfl ?_
 refine Qb rfl rfl (Qf (Qc ?_))
 refine Qh (L' := [(38, _), (37, _), (0, _)]) (Y2 rfl rfl rfl) ?_
 refine Q1 ?_
 have hSl := hS8.pick [0, 1, 2, 3, 4, 5] rfl
 have hls : (l.set hd.toNat { x with m := false }).length = l.length := List.length_set
 refine Xw (fun K0 E0 W0 => ∃ (l2 : List CkD) (i : Nat), K0 = l.length - i ∧ E0 = [(0, ptrV p 0), (37, intV (l2.length : Int)), (38, intV (i : Int))] ∧ Sat W0 [QO p [.slice (some ⟨ob, 0, none⟩) l2.length cap, intV 0, .map (some b1), .map (some b2), .map (some b3)], rowT ckC (.slice (some ⟨ob, 0, none⟩) l2.length cap) l2, QH Xd b1 (gI g1), QH Xd b2 (gI g2), QH Xd b3 (gI g3), F] ∧ (i ≤ l.length) ∧ (l2.length = l.length) ∧ (l2.map CkD.u = ul)) (L0 := [(0, _), (37, _), (38, _)]) (l.length - 0) (Y2 rfl rfl rfl) ⟨l.set hd.toNat { x with m := false }, 0, rfl, (by rw [hls]; rfl), by rw [hls]; exact hSl, by omega, hls, by rw [Us (y := { x with m := false }) hx rfl]; exact hul.symm⟩ ?_
 rintro _ _ w9 ⟨l2, i, rfl, rfl, hS9, hi, hl2, hu2⟩
 refine Qd (Qa ?_)
 refine Xt rfl rfl rfl ?_
 refine Qf (Qc (Qd ?_))
 refine Qx rfl (fun h10 => ?_) (fun h10 => ?_)
 ·obtain ⟨x2, hx2⟩ : ∃ x, l2[i]? = some x := ⟨_, List.getElem?_eq_getElem (by omega)⟩
  refine Qy (Qc (Qd (Q1 (Qd (Qa (Qb rfl rfl (Qe rfl rfl (Qf (Qc (Qa (Qb rfl rfl (Qj rfl rfl ?_))))))))))))
  refine Qg rfl Zx rfl ?_
  refine Qu rfl Wv (by exact hS9.cell 0 rfl rfl) rfl ?_
  refine Qb rfl rfl ?_
  refine Xp ckC 1 i hS9 rfl rfl rfl (by rfl) hx2 JG rfl ?_
  intro bx11 capx11 hvx11
  refine Qg rfl Ga rfl ?_
  refine WB 1 i 2 { x2 with t := false } hS9 rfl hvx11 rfl rfl rfl Pe hx2 rfl (by decide) rfl (by rfl) ?_
  intro w12 hS13; dsimp only [List.set] at hS13
  clear hS9
  refine Qf (Qp (Qc ?_))
  refine Qh (L' := [(0, _), (37, _), (38, _)]) (Y2 rfl rfl rfl) ?_
  refine Qa ?_
  refine QN rfl rfl (by omega) (by omega) rfl ?_
  refine Qb rfl rfl (Qf ?_)
  have hSz := hS13.pick [0, 1, 2, 3, 4, 5] rfl
  exact QG (L1 := [(0, _), (37, intV ((l2.set i { x2 with t := false }).length : Int)), (38, intV ((i + 1 : Nat) : Int))]) (by rw [List.length_set]; exact (Y2 rfl rfl rfl)) (k1 := l.length - (i + 1)) (by omega) ⟨l2.set i { x2 with t := false }, i + 1, rfl, rfl, by rw [List.length_set]; exact hSz, by omega, by rw [List.length_set]; exact hl2, by rw [Us (y := { x2 with t := false }) hx2 rfl]; exact hu2⟩
 refine QZ (Qv (Qv (Q4 (Qc (Qd ?_)))))
 have hS14 := hS9.drew
 refine QK [0, 1, 2, 3, 4, 5, 6, 7, 8, 9, 10, 11, 12, 13, 14, 15] [12, 15] ZT (by kernel_rfl) ?_
 refine Qk rfl rfl rfl (fun _ => (Qr rfl)) ?_
 refine Qk rfl rfl rfl (fun _ => (Qr rfl)) ?_
 refine Qk rfl rfl rfl (fun _ => (Qr rfl)) ?_
 refine Qk rfl rfl rfl (fun _ => (Qq rfl)) ?_
 refine Qk rfl rfl rfl (fun _ => (Qi rfl Gc)) ?_
 refine QF rfl rfl rfl (Qm rfl Ww (by exact hS14.cell 0 rfl rfl)) ?_
 refine Qk rfl rfl rfl (fun _ => (Qr rfl)) ?_
 refine Qk rfl rfl rfl (fun _ => (Qq rfl)) ?_
 refine Qk rfl rfl rfl (fun _ => (Qi rfl HF)) ?_
 refine QF rfl rfl rfl (Qm rfl Ww (by exact hS14.cell 0 rfl rfl)) ?_
 refine Qk rfl rfl rfl (fun _ => (Qq rfl)) ?_
 refine Qk rfl rfl rfl (fun _ => (Qi rfl HF)) ?_
 refine Xn rfl rfl rfl rfl rfl rfl ?_
 first | (refine Xb hS14 rfl rfl Ph (by rfl) (i := 0) rfl (by exact Nat.le_of_ble_eq_true rfl) ?_)
 intro w15 hS16; dsimp only [List.set] at hS16
 clear hS14
 refine Zi (.skip (by kernel_rfl) (.skip (by kernel_rfl) .nil)) ?_
 refine Qk rfl rfl rfl (fun _ => (Qq rfl)) ?_
 refine Qk rfl rfl rfl (fun _ => (Qi rfl Gc)) ?_
 refine Xn rfl rfl rfl rfl rfl rfl ?_
 first | (refine Xb hS16 rfl rfl Ph (by rfl) (i := 0) rfl (by exact Nat.le_of_ble_eq_true rfl) ?_)
 intro w17 hS18; dsimp only [List.set] at hS18
 clear hS16
 refine Zi (.skip (by kernel_rfl) (.skip (by kernel_rfl) .nil)) ?_
 refine VC.nil (Qc ?_)
 refine Qh (L' := [(0, _)]) (Hd rfl) ?_
 refine Qa (Qb rfl rfl (Qj rfl rfl ?_))
 refine Qg rfl HF rfl ?_
 refine Qu rfl Ww (by exact hS18.cell 0 rfl rfl) rfl ?_
 refine CD 4 hS18 Tryz.underlying109 rfl rfl rfl ?_
 intro w19 hS19; dsimp only [List.set] at hS19; rw [Vv] at hS19
 clear hS18
 refine Qf ?_
 refine W4 (.inl rfl) rfl ?_
 exact ⟨_, rfl, rfl, by rw [if_neg (by rw [hul, List.length_map]; omega)]; exact XT hu2.symm (by omega) (by omega) (by omega) (hS19.pick [0, 1, 2, 4, 3, 5] rfl)⟩
end Go.Proofs.YtkcjfoaejijdoaaGreatDoor
/- reclaim: Pick, New -/
namespace Go.Proofs.YtkcjfoaejijdoaaGreatDoor
open Go.RowKit M
set_option linter.unusedVariables false
set_option maxRecDepth 100000 in
set_option maxHeartbeats 800000000 in
theorem NC {w : World} {p : Nat} {ul : List Bool} {F : Th} (hS : Sat w [B0 p ul, F]) :
    Calls Tryz.prog 119 #[ptrV p 0] w (Ret fun v w' => (∃ k : Nat, ul[k]? = some true ∧ v = .tuple #[intV (k : Int), .bool true] ∧ Sat w' [B0 p ul, F]) ∨ ((∀ x ∈ ul, x = false) ∧ v = .tuple #[intV 0, .bool false] ∧ Sat w' [B0 p ul, F])) := by
 obtain ⟨hd, hS⟩ := hS.ex
 refine Qt Tryz.func119 rfl Tryz.ntmps119 rfl ?_
 refine Qd (Qa (Qe rfl rfl (Qe rfl rfl (Qf (Qc (Qd (Qa (Qb rfl rfl ?_))))))))
 have hC1 := hS.split [0] [true, false] rfl; dsimp only [QC, Qz, Q9, Q8, Q7] at hC1
 refine Qo cal_169 rfl (M6 hC1) rfl ?_
 rintro e w1 ⟨_, rfl, (⟨k, hk, rfl, hS1⟩ | ⟨hno, rfl, hS1⟩)⟩
 ·refine ⟨_, rfl, ?_⟩
  replace hS1 := hS1.join rfl; dsimp only [QU, QT, Q8, Q7] at hS1; clear hC1
  refine Qb rfl rfl (Qw rfl rfl rfl (Qw rfl rfl rfl (Qe rfl rfl (Qe rfl rfl (Qf (Qc (Qd (Qd (Qa (Qb rfl rfl ?_))))))))))
  refine QS rfl rfl ?_
  refine Qf (Qc ?_)
  refine Qh (L' := [(12, _), (4, _), (3, _), (2, _), (0, _)]) (ZH rfl rfl rfl rfl rfl) ?_
  refine QR rfl (fun h2 => ?_) (fun h2 => ?_)
  ·exact absurd h2 (by simp)
  refine Qy (Qc (Qd (Qd ?_)))
  obtain ⟨ob, cap, l, b1, b2, b3, g1, g2, g3, hul, hl4, hh0, hh1, hSo⟩ := W9 (hS1.pick [0, 1] rfl)
  have hull : ul.length = l.length := by rw [hul, List.length_map]
  obtain ⟨x, hx⟩ : ∃ x, l[k]? = some x := ⟨_, List.getElem?_eq_getElem (by have := (List.getElem?_eq_some_iff.1 hk).1; omega)⟩
  refine Qa (Qb rfl rfl (Qj rfl rfl ?_))
  refine Qg rfl Zx rfl ?_
  refine Qu rfl Wv (by exact hSo.cell 0 rfl rfl) rfl ?_
  refine Qb rfl rfl ?_
  refine Xp ckC 1 k hSo rfl rfl rfl (by rfl) hx JG rfl ?_
  intro bx3 capx3 hvx3
  refine Qg rfl YU rfl ?_
  refine Z4 1 k 1 hSo rfl hvx3 rfl rfl hx Gz rfl rfl ?_
  refine Qf (Qc ?_)
  refine Qh (L' := [(20, _), (4, _), (3, _), (2, _), (0, _)]) (ZH rfl rfl rfl rfl rfl) ?_
  refine QR rfl (fun h4 => ?_) (fun h4 => ?_)
  ·refine Qd (Qa (Qb rfl rfl (Qj rfl rfl ?_)))
   refine Qg rfl Zx rfl ?_
   refine Qu rfl Wv (by exact hSo.cell 0 rfl rfl) rfl ?_
   refine XU Tryz.underlying186 rfl rfl ?_
   refine Qb rfl rfl (Qf (Qc ?_))
   refine Qh (L' := [(26, _), (25, _), (4, _), (3, _), (2, _), (0, _)]) (Wf rfl rfl rfl rfl rfl rfl) ?_
   refine Q1 ?_
   have hS5 := XT (hul) (hl4) (hh0) (hh1) (hSo.pick [0, 1, 2, 3, 4, 5] rfl)
   refine Xw (fun K0 E0 W0 => ∃ (i : Nat) (h : Int), K0 = ul.length - i ∧ E0 = [(0, ptrV p 0), (4, intV (k : Int)), (25, intV (ul.length : Int)), (26, intV (i : Int))] ∧ Sat W0 [KV p ul h, F] ∧ (i ≤ ul.length)) (L0 := [(0, _), (4, _), (25, _), (26, _)]) (ul.length - 0) (Jr rfl rfl rfl rfl) ⟨0, hd, rfl, (by rw [hull]; rfl), hS5, by omega⟩ ?_
   rintro _ _ w6 ⟨i, h, rfl, rfl, hS6, hi⟩
   refine Qd (Qa ?_)
   refine Xt rfl rfl rfl ?_
   refine Qf (Qc (Qd ?_))
   refine Qx rfl (fun h7 => ?_) (fun h7 => ?_)
   ·refine Qy (Qc (Qd (Q1 (Qa (Qb rfl rfl ?_)))))
    have hC8 := hS6.split [0] [true, false] rfl; dsimp only [QC, Qz, Q9, Q8, Q7] at hC8
    refine Qo VI rfl (YZ hC8) rfl ?_
    rintro e w8 ⟨_, rfl, rfl, hS8⟩; refine ⟨_, rfl, ?_⟩
    replace hS8 := hS8.join rfl; dsimp only [QU, QT, Q8, Q7] at hS8; clear hC8
    clear hS6
    refine Qf (Qp (Qc (Qa ?_)))
    refine QN rfl rfl (by omega) (by omega) rfl ?_
    refine Qb rfl rfl (Qf ?_)
    exact QG (L1 := [(0, _), (4, _), (25, _), (26, intV ((i + 1 : Nat) : Int))]) (Jr rfl rfl rfl rfl) (k1 := ul.length - (i + 1)) (by omega) ⟨i + 1, _, rfl, rfl, hS8.pick [0, 1] rfl, by omega⟩
   refine QZ (Qv (Qv (Q4 (Qc (Qd (Q1 ?_))))))
   obtain ⟨hh, hhe⟩ : ∃ x : Int, x = h := ⟨_, rfl⟩
   rw [← hhe] at hS6
   refine Xw (fun K0 E0 W0 => ∃ (h : Int), K0 = (if h ≤ (k : Int) then (k : Int) - h else (ul.length : Int) - h + k).toNat ∧ E0 = [(0, ptrV p 0), (4, intV (k : Int))] ∧ Sat W0 [KV p ul h, F]) (L0 := [(0, _), (4, _)]) ((if hh ≤ (k : Int) then (k : Int) - hh else (ul.length : Int) - hh + k).toNat) (H0 rfl rfl) ⟨_, rfl, rfl, hS6⟩ ?_
   rintro _ _ w9 ⟨h, rfl, rfl, hS9⟩
   refine Qd (Qd ?_)
   obtain ⟨ob3, cap3, l3, b13, b23, b33, g13, g23, g33, hul3, hl43, hh03, hh13, hSo10⟩ := W9 (hS9.pick [0, 1] rfl)
   have hull3 : ul.length = l3.length := by rw [hul3, List.length_map]
   refine Qa (Qb rfl rfl (Qj rfl rfl ?_))
   refine Qg rfl J8 rfl ?_
   refine Qu rfl QW (by exact hSo10.cell 0 rfl rfl) rfl ?_
   refine Qb rfl rfl ?_
   refine Xh rfl rfl rfl ?_
   refine Qf ?_
   have hS11 := XT hul3 hl43 hh03 hh13 (hSo10.pick [0, 1, 2, 3, 4, 5] rfl)
   refine Qc ?_
   refine Qx rfl (fun h12 => ?_) (fun h12 => ?_)
   ·refine Qy (Qc (Q1 (Qa (Qb rfl rfl ?_))))
    have hC13 := hS11.split [0] [true, false] rfl; dsimp only [QC, Qz, Q9, Q8, Q7] at hC13
    refine Qo VI rfl (YZ hC13) rfl ?_
    rintro e w13 ⟨_, rfl, rfl, hS13⟩; refine ⟨_, rfl, ?_⟩
    replace hS13 := hS13.join rfl; dsimp only [QU, QT, Q8, Q7] at hS13; clear hC13
    clear hS11
    refine Qf (Qp ?_)
    have hkn := (List.getElem?_eq_some_iff.1 hk).1
    exact QG (L1 := [(0, _), (4, _)]) (H0 rfl rfl) (k1 := (if (if h + 1 < (ul.length : Int) then h + 1 else 0) ≤ (k : Int) then (k : Int) - (if h + 1 < (ul.length : Int) then h + 1 else 0) else (ul.length : Int) - (if h + 1 < (ul.length : Int) then h + 1 else 0) + k).toNat) (by split <;> split <;> split <;> omega) ⟨_, rfl, rfl, hS13.pick [0, 1] rfl⟩
   refine QZ (Qv (Qv (Q4 (Qc (Qd (Qa (Qb rfl rfl ?_)))))))
   have hC14 := hS11.split [0] [true, false] rfl; dsimp only [QC, Qz, Q9, Q8, Q7] at hC14
   refine Qo VI rfl (YZ hC14) rfl ?_
   rintro e w14 ⟨_, rfl, rfl, hS14⟩; refine ⟨_, rfl, ?_⟩
   replace hS14 := hS14.join rfl; dsimp only [QU, QT, Q8, Q7] at hS14; clear hC14
   clear hS11
   refine Qf (Qc (Qd (Qa (Qb rfl rfl (Qe rfl rfl (Qe rfl rfl (Qf (Qc ?_))))))))
   refine Qh (L' := [(3, _), (2, _)]) (H0 rfl rfl) ?_
   refine Q0 ?_
   refine Wo (.inr rfl) rfl rfl rfl ?_
   exact ⟨_, rfl, .inl ⟨k, hk, rfl, Sat.ex_intro (f := fun h : Int => KV p ul h) _ (hS14.pick [0, 1] rfl)⟩⟩
  refine Qy (Qc (Qd (Q1 ?_)))
  have hS15 := XT (hul) (hl4) (hh0) (hh1) (hSo.pick [0, 1, 2, 3, 4, 5] rfl)
  obtain ⟨hh, hhe⟩ : ∃ x : Int, x = hd := ⟨_, rfl⟩
  rw [← hhe] at hS15
  refine Xw (fun K0 E0 W0 => ∃ (h : Int), K0 = (if h ≤ (k : Int) then (k : Int) - h else (ul.length : Int) - h + k).toNat ∧ E0 = [(0, ptrV p 0), (4, intV (k : Int))] ∧ Sat W0 [KV p ul h, F]) (L0 := [(0, _), (4, _)]) ((if hh ≤ (k : Int) then (k : Int) - hh else (ul.length : Int) - hh + k).toNat) (H0 rfl rfl) ⟨_, rfl, rfl, hS15⟩ ?_
  rintro _ _ w16 ⟨h, rfl, rfl, hS16⟩
  refine Qd (Qd ?_)
  obtain ⟨ob3, cap3, l3, b13, b23, b33, g13, g23, g33, hul3, hl43, hh03, hh13, hSo17⟩ := W9 (hS16.pick [0, 1] rfl)
  have hull3 : ul.length = l3.length := by rw [hul3, List.length_map]
  refine Qa (Qb rfl rfl (Qj rfl rfl ?_))
  refine Qg rfl J8 rfl ?_
  refine Qu rfl QW (by exact hSo17.cell 0 rfl rfl) rfl ?_
  refine Qb rfl rfl ?_
  refine Xh rfl rfl rfl ?_
  refine Qf ?_
  have hS18 := XT hul3 hl43 hh03 hh13 (hSo17.pick [0, 1, 2, 3, 4, 5] rfl)
  refine Qc ?_
  refine Qx rfl (fun h19 => ?_) (fun h19 => ?_)
  ·refine Qy (Qc (Q1 (Qa (Qb rfl rfl ?_))))
   have hC20 := hS18.split [0] [true, false] rfl; dsimp only [QC, Qz, Q9, Q8, Q7] at hC20
   refine Qo VI rfl (YZ hC20) rfl ?_
   rintro e w20 ⟨_, rfl, rfl, hS20⟩; refine ⟨_, rfl, ?_⟩
   replace hS20 := hS20.join rfl; dsimp only [QU, QT, Q8, Q7] at hS20; clear hC20
   clear hS18
   refine Qf (Qp ?_)
   have hkn := (List.getElem?_eq_some_iff.1 hk).1
   exact QG (L1 := [(0, _), (4, _)]) (H0 rfl rfl) (k1 := (if (if h + 1 < (ul.length : Int) then h + 1 else 0) ≤ (k : Int) then (k : Int) - (if h + 1 < (ul.length : Int) then h + 1 else 0) else (ul.length : Int) - (if h + 1 < (ul.length : Int) then h + 1 else 0) + k).toNat) (by split <;> split <;> split <;> omega) ⟨_, rfl, rfl, hS20.pick [0, 1] rfl⟩
  refine QZ (Qv (Qv (Q4 (Qc (Qd (Qa (Qb rfl rfl ?_)))))))
  have hC21 := hS18.split [0] [true, false] rfl; dsimp only [QC, Qz, Q9, Q8, Q7] at hC21
  refine Qo VI rfl (YZ hC21) rfl ?_
  rintro e w21 ⟨_, rfl, rfl, hS21⟩; refine ⟨_, rfl, ?_⟩
  replace hS21 := hS21.join rfl; dsimp only [QU, QT, Q8, Q7] at hS21; clear hC21
  clear hS18
  refine Qf (Qc (Qd (Qa (Qb rfl rfl (Qe rfl rfl (Qe rfl rfl (Qf (Qc ?_))))))))
  refine Qh (L' := [(3, _), (2, _)]) (H0 rfl rfl) ?_
  refine Q0 ?_
  refine Wo (.inr rfl) rfl rfl rfl ?_
  exact ⟨_, rfl, .inl ⟨k, hk, rfl, Sat.ex_intro (f := fun h : Int => KV p ul h) _ (hS21.pick [0, 1] rfl)⟩⟩
 refine ⟨_, rfl, ?_⟩
 replace hS1 := hS1.join rfl; dsimp only [QU, QT, Q8, Q7] at hS1; clear hC1
 refine Qb rfl rfl (Qw rfl rfl rfl (Qw rfl rfl rfl (Qe rfl rfl (Qe rfl rfl (Qf (Qc (Qd (Qd (Qa (Qb rfl rfl ?_))))))))))
 refine QS rfl rfl ?_
 refine Qf (Qc ?_)
 refine Qh (L' := [(12, _), (4, _), (3, _), (2, _), (0, _)]) (ZH rfl rfl rfl rfl rfl) ?_
 refine QR rfl (fun h22 => ?_) (fun h22 => ?_)
 ·refine Qd (Qa (Qe rfl rfl (Qe rfl rfl (Qf (Qc (Q0 (Qs ?_)))))))
  refine Wo (.inr rfl) rfl rfl rfl ?_
  exact ⟨_, rfl, .inr ⟨hno, rfl, Sat.ex_intro (f := fun h : Int => KV p ul h) _ (hS1.pick [0, 1] rfl)⟩⟩
 exact absurd h22 (by simp)
theorem ckgoneT {w : World} {p : Nat} {ul : List Bool} {F : Th} (hS : Sat w [B0 p ul, F]) (f : Int) (hf : 0 ≤ f ∧ f < (ul.length : Int)) :
    Calls Tryz.prog 186 #[ptrV p 0, intV f] w (Ret fun v w' => v = .tuple #[] ∧ Sat w' [B0 p (ul.set f.toNat false), F]) := by
  obtain ⟨hd, hS⟩ := hS.ex
  exact (K1 hS f hf).mono fun e w1 h => h.mono fun v w2 ⟨h1, h2⟩ => ⟨h1, Sat.ex_intro (f := fun h : Int => KV p (ul.set f.toNat false) h) hd h2⟩
theorem SG {w : World} {p : Nat} {ul : List Bool} {F : Th} (hS : Sat w [B0 p ul, F]) (f : Int) (hf : 0 ≤ f ∧ f < (ul.length : Int)) (owner : Int) :
    Calls Tryz.prog 188 #[ptrV p 0, intV f, intV owner] w (Ret fun v w' => v = .tuple #[] ∧ Sat w' [B0 p (ul.set f.toNat true), F]) := by
  obtain ⟨hd, hS⟩ := hS.ex
  exact (SF hS f hf owner).mono fun e w1 h => h.mono fun v w2 ⟨h1, h2⟩ => ⟨h1, Sat.ex_intro (f := fun h : Int => KV p (ul.set f.toNat true) h) hd h2⟩
theorem ckrow {Z : List Value} (hZ : Z = ckC.enc ⟨false, false, false, 0⟩) (m : Nat) : (List.replicate m Z).flatten = ckC.cells (List.replicate m ⟨false, false, false, 0⟩) := by
  subst hZ
  induction m with
  | zero => rfl
  | succ m ih => rw [List.replicate_succ, List.flatten_cons, ih, List.replicate_succ]; rfl
set_option maxRecDepth 100000 in
theorem SH {w : World} {F : Th} (hS : Sat w [F]) (n : Int) (hn : 1 ≤ n) :
    Calls Tryz.prog 59 #[intV n] w (Ret fun v w' => ∃ p, v = ptrV p 0 ∧ Sat w' [B0 p (List.replicate (min (max n 0) 4096).toNat false), F]) := by
 refine Qt Tryz.func59 rfl Tryz.ntmps59 rfl ?_
 refine Qd (Qa (Qe rfl rfl (Qf (Qc (Qd (Qa (Qb rfl rfl ?_)))))))
 refine JL rfl rfl rfl ?_
 refine HS rfl rfl rfl ?_
 refine BA hS (min (max n 0) 4096).toNat rfl rfl (by omega) Tryz.underlying186 ifo_199 rfl (by omega) (by omega) rfl ?_
 intro db w1 hS1a; have hS1 := hS1a.row_cast (l := List.replicate (min (max n 0) 4096).toNat ⟨false, false, false, 0⟩) (C := ckC) (by simp) rfl (ckrow rfl _)
 refine ZC Xd hS1 rfl ?_
 intro mb1 w2 hS2; rw [Vv] at hS2
 clear hS1
 refine ZC Xd hS2 rfl ?_
 intro mb2 w3 hS3; rw [Vv] at hS3
 clear hS2
 refine ZC Xd hS3 rfl ?_
 intro mb3 w4 hS4; rw [Vv] at hS4
 clear hS3
 refine Zy rfl RK asz_188 zr_188 rfl rfl ?_
 refine Zf hS4 rfl rfl rfl ?_
 intro bp wbp hSbp
 clear hS4
 refine Qe rfl rfl (Qf (Qc ?_))
 refine Qh (L' := [(2, _)]) (Hd rfl) ?_
 refine Q0 ?_
 refine QV (.inr rfl) rfl rfl ?_
 exact ⟨_, rfl, _, rfl, Sat.ex_intro (f := fun h : Int => KV bp _ h) 0 (XT (l := List.replicate (min (max n 0) 4096).toNat ⟨false, false, false, 0⟩) (by rw [List.map_replicate]) (by rw [List.length_replicate]; omega) (by omega) (by rw [List.length_replicate]; omega) (hSbp.pick [0, 4, 3, 2, 1, 5] rfl))⟩
end Go.Proofs.YtkcjfoaejijdoaaGreatDoor
/- The shelf's contract of sorting ints as a contract of things. Conditions: each one's own hypotheses. -/
namespace Go.Proofs.YtkcjfoaejijdoaaGreatDoor.M
open Go.RowKit Go.Sort
end Go.Proofs.YtkcjfoaejijdoaaGreatDoor.M
