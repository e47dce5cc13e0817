/- reclaim: victim, pass -/
import Derived.Test.YtkcjfoaejijdoaaGreatDoorCk1
import Derived.Test.YtkcjfoaejijdoaaGreatDoorRow
import Derived.Test.YtkcjfoaejijdoaaGreatDoorDk
namespace Go.Proofs.YtkcjfoaejijdoaaGreatDoor
open Go.RowKit M
set_option linter.unusedVariables false
def okK (ul : List Bool) (n : Int) : Prop := n = -1 ∨ (0 ≤ n ∧ ul[n.toNat]? = some true)
theorem clk_all {ul : List Bool} {hd : Int} (h0 : 0 ≤ hd) (h1 : hd < ul.length) (h : ∀ j : Nat, j < ul.length → ul[((hd + (j : Int)) % (ul.length : Int)).toNat]? = some false) : ∀ x ∈ ul, x = false := by
  intro x hx
  obtain ⟨k, hk⟩ := List.mem_iff_getElem?.1 hx
  have hkl := (List.getElem?_eq_some_iff.1 hk).1
  have h5 := Int.emod_lt_of_pos ((k : Int) - hd) (show (0 : Int) < ul.length by omega)
  have h6 := Int.emod_nonneg ((k : Int) - hd) (show (ul.length : Int) ≠ 0 by omega)
  have hj := h (((k : Int) - hd) % (ul.length : Int)).toNat (by omega)
  have e : ((hd + (((((k : Int) - hd) % (ul.length : Int)).toNat : Nat) : Int)) % (ul.length : Int)).toNat = k := by
    rw [Int.toNat_of_nonneg h6, Int.add_emod_emod, show hd + ((k : Int) - hd) = (k : Int) by omega, Int.emod_eq_of_lt (by omega) (by omega)]; omega
  rw [e, hk] at hj
  exact Option.some.inj hj
set_option maxRecDepth 100000 in
set_option maxHeartbeats 800000000 in
theorem M5 {w : World} {p : Nat} {ul : List Bool} {hd : Int} {F : Th} (hS : Sat w [KU p ul hd, F]) :
    Calls Tryz.prog 169 #[ptrV p 0] w (Ret fun v w' => (∃ k : Nat, ul[k]? = some true ∧ v = .tuple #[intV (k : Int), .bool true] ∧ Sat w' [KU p ul hd, F]) ∨ ((∀ x ∈ ul, x = false) ∧ v = .tuple #[intV 0, .bool false] ∧ Sat w' [KU p ul hd, F])) := by
 obtain ⟨ob, cap, l, b1, b2, b3, g1, g2, g3, hul, hl4, hh0, hh1, hS⟩ := W8 hS
 refine Qt Tryz.func169 rfl Tryz.ntmps169 rfl ?_
 refine Qd (Qa (Qe rfl rfl (Qe rfl rfl (Qf (Qc (Qd (Qa (Qe rfl rfl (Qe rfl rfl (Qf (Qc (Qd (Qd (Qa (Qb rfl rfl (Qj rfl rfl ?_))))))))))))))))
 refine Qg rfl Zw rfl ?_
 refine Qu rfl Wu (by exact hS.cell 0 rfl rfl) rfl ?_
 refine XT Tryz.underlying186 rfl rfl ?_
 refine Qb rfl rfl (Qf (Qc ?_))
 refine Qh (L' := [(14, _), (13, _), (5, _), (4, _), (3, _), (2, _), (0, _)]) (WJ rfl rfl rfl rfl rfl rfl rfl) ?_
 refine Q1 ?_
 refine Xv (fun K0 E0 W0 => ∃ (i : Nat) (um an : Int), K0 = l.length - i ∧ E0 = [(0, ptrV p 0), (4, intV um), (5, intV an), (13, intV (l.length : Int)), (14, intV (i : Int))] ∧ Sat W0 [QN p [.slice (some ⟨ob, 0, none⟩) l.length cap, intV hd, .map (some b1), .map (some b2), .map (some b3)], rowT ckC (.slice (some ⟨ob, 0, none⟩) l.length cap) l, QG Xc b1 (gI g1), QG Xc b2 (gI g2), QG Xc b3 (gI g3), F] ∧ (i ≤ l.length) ∧ (okK ul um) ∧ (okK ul an) ∧ (an = -1 → ∀ j : Nat, j < i → ul[((hd + (j : Int)) % (ul.length : Int)).toNat]? = some false)) (L0 := [(0, _), (4, _), (5, _), (13, _), (14, _)]) (l.length - 0) (ZG rfl rfl rfl rfl rfl) ⟨0, -1, -1, rfl, rfl, hS, by omega, .inl rfl, .inl rfl, fun _ j hj => by omega⟩ ?_
 rintro _ _ w1 ⟨i, um, an, rfl, rfl, hS1, hi, hum, han, hall⟩
 refine Qd (Qa ?_)
 refine Xr rfl rfl rfl ?_
 refine Qf (Qc (Qd ?_))
 refine Qx rfl (fun h2 => ?_) (fun h2 => ?_)
 ·refine Qy (Qc (Qd (Q1 (Qd (Qa (Qb rfl rfl (Qe rfl rfl (Qf (Qc (Qd ?_))))))))))
  have hS3 := hS1.drew
  refine QJ [0, 1, 2, 3, 4, 5, 6, 7, 8, 9, 10, 11, 12] [] ZS (by kernel_rfl) ?_
  refine Qk rfl rfl rfl (fun _ => (Qr rfl)) ?_
  refine Qk rfl rfl rfl (fun _ => (Qq rfl)) ?_
  refine Qk rfl rfl rfl (fun _ => (Qi rfl J7)) ?_
  refine QE rfl rfl rfl (Qm rfl QV (by exact hS3.cell 0 rfl rfl)) ?_
  refine Qk rfl rfl rfl (fun _ => (Qr rfl)) ?_
  refine Qk rfl rfl rfl (fun _ => (Kw rfl rfl (by omega) (by omega))) ?_
  refine Qk rfl rfl rfl (fun _ => (Qr rfl)) ?_
  refine Qk rfl rfl rfl (fun _ => (Qq rfl)) ?_
  refine Qk rfl rfl rfl (fun _ => (Qi rfl Zw)) ?_
  refine QE rfl rfl rfl (Qm rfl Wu (by exact hS3.cell 0 rfl rfl)) ?_
  refine Qk rfl rfl rfl (fun _ => (Up Tryz.underlying186 rfl)) ?_
  refine Qk rfl rfl rfl (fun _ => (Gf rfl rfl (by omega) (by omega))) ?_
  refine Qk rfl rfl rfl (fun _ => (Q6 rfl)) ?_
  refine VC.nil ?_
  have hm1 : 0 ≤ ((hd + (i : Int)) % (l.length : Int)) := Int.emod_nonneg _ (by omega)
  have hm2 : ((hd + (i : Int)) % (l.length : Int)) < (l.length : Int) := Int.emod_lt_of_pos _ (by omega)
  obtain ⟨x, hx⟩ : ∃ x, l[((hd + (i : Int)) % (l.length : Int)).toNat]? = some x := ⟨_, List.getElem?_eq_getElem (by omega)⟩
  have hulk : ul[((hd + (i : Int)) % (l.length : Int)).toNat]? = some x.u := by rw [hul]; exact ck_u hx
  have hulx : ul[((hd + (i : Int)) % (ul.length : Int)).toNat]? = some x.u := by rw [show (ul.length : Int) = (l.length : Int) by rw [hul, List.length_map]]; exact hulk
  refine Qc ?_
  refine Qh (L' := [(7, _), (0, _), (4, _), (5, _), (13, _), (14, _)]) (We rfl rfl rfl rfl rfl rfl) ?_
  refine Qd (Qa (Qb rfl rfl (Qj rfl rfl ?_)))
  refine Qg rfl Zw rfl ?_
  refine Qu rfl Wu (by exact hS3.cell 0 rfl rfl) rfl ?_
  refine Qb rfl rfl ?_
  refine Xo ckC 1 ((hd + (i : Int)) % (l.length : Int)).toNat hS3 rfl rfl rfl (by rw [Int.toNat_of_nonneg hm1]) hx JF rfl ?_
  intro bx4 capx4 hvx4
  refine Z9 1 ((hd + (i : Int)) % (l.length : Int)).toNat hS3 rfl hvx4 rfl hx Fa UC rfl rfl ?_
  refine Xk hS3 Rw rfl rfl ?_
  intro b5 w5 hS5
  clear hS3
  (refine QZ hS5 rfl rfl UC rfl (by rfl) (i := 0) rfl (by decide) ?_)
  intro w6 hS7; dsimp only [List.set] at hS7
  clear hS5
  refine Qf (Qc ?_)
  refine Qh (L' := [(8, _), (7, _), (0, _), (4, _), (5, _), (13, _), (14, _)]) (WJ rfl rfl rfl rfl rfl rfl rfl) ?_
  refine Qd (Q1 (Qd (Qa ?_)))
  refine Qg rfl V6 rfl ?_
  refine Qu rfl Gy (by exact hS7.cell 0 rfl rfl) rfl ?_
  refine QR rfl rfl ?_
  refine Qe rfl rfl (Qf (Qc ?_))
  refine Qh (L' := [(36, _), (8, _), (7, _), (0, _), (4, _), (5, _), (13, _), (14, _)]) (WR rfl rfl rfl rfl rfl rfl rfl rfl) ?_
  refine QQ rfl (fun h8 => ?_) (fun h8 => ?_)
  ·have hxu : x.u = false := by simpa using h8
   refine QY ?_
   refine GA rfl ?_
   refine Qv (Q4 (Qc (Qa ?_)))
   refine QM rfl rfl (by omega) (by omega) rfl ?_
   refine Qb rfl rfl (Qf ?_)
   exact QF (L1 := [(0, _), (4, intV um), (5, intV an), (13, _), (14, intV ((i + 1 : Nat) : Int))]) (ZG rfl rfl rfl rfl rfl) (k1 := l.length - (i + 1)) (by omega) ⟨i + 1, um, an, rfl, rfl, hS7.pick [1, 2, 3, 4, 5, 6] rfl, by omega, hum, han, fun e j hj => by by_cases q : j = i; (subst q; rw [hulx, hxu]); exact hall e j (by omega)⟩
  have hxu : x.u = true := by simpa using h8
  refine Qd (Qa ?_)
  refine Qg rfl YT rfl ?_
  refine Qu rfl Gy (by exact hS7.cell 0 rfl rfl) rfl ?_
  refine QR rfl rfl ?_
  refine Qb rfl rfl ?_
  refine Zc 44 rfl (fun h9 => ?_) (fun h9 => ?_)
  ·refine Qn rfl rfl h9 ?_
   refine Qb rfl rfl ?_
   refine Qn rfl rfl h9 ?_
   refine Qg rfl V5 rfl ?_
   refine Qn rfl rfl h9 ?_
   refine Qu rfl QV (by exact hS7.cell 0 rfl rfl) rfl ?_
   refine Qn rfl rfl h9 ?_
   have hC10 := hS7.split [1, 2, 3, 4, 5] [false, true, true, true, true, true, false] rfl; dsimp only [Q9, Qz, Q8, cap, Q7] at hC10
   refine Qo cal_203 rfl (NC hC10 x.o) rfl ?_
   rintro e w10 ⟨_, rfl, g0, rfl, hS10⟩; refine ⟨_, rfl, ?_⟩
   replace hS10 := hS10.join rfl; dsimp only [QT, QS, cap, Q7] at hS10; clear hC10
   clear hS7
   refine Xf rfl h9 rfl rfl ?_
   refine Qe rfl rfl (Qf (Qc ?_))
   refine Qh (L' := [(40, _), (8, _), (7, _), (0, _), (4, _), (5, _), (13, _), (14, _)]) (WR rfl rfl rfl rfl rfl rfl rfl rfl) ?_
   refine QQ rfl (fun h11 => ?_) (fun h11 => ?_)
   ·refine Qd (Qa (Qb rfl rfl (Qe rfl rfl (Qe rfl rfl (Qf (Qc ?_))))))
    refine Qh (L' := [(3, _), (2, _), (7, _), (0, _), (4, _), (5, _), (13, _), (14, _)]) (WR rfl rfl rfl rfl rfl rfl rfl rfl) ?_
    refine Q0 (QC (Qs (QC (Qs (Qs (QC (Qs ?_)))))))
    refine Wn (.inr rfl) rfl rfl rfl ?_
    exact ⟨_, rfl, .inl ⟨((hd + (i : Int)) % (l.length : Int)).toNat, by rw [hulk, hxu], by rw [Int.toNat_of_nonneg hm1], XS (hul) (hl4) (hh0) (hh1) (hS10.pick [0, 1, 2, 3, 4, 6] rfl)⟩⟩
   refine Qd (Qa ?_)
   refine Qg rfl YT rfl ?_
   refine Qu rfl Gy (by exact hS10.cell 5 rfl rfl) rfl ?_
   refine QR rfl rfl ?_
   refine Qb rfl rfl ?_
   refine Zc 55 rfl (fun h12 => ?_) (fun h12 => ?_)
   ·refine Qn rfl rfl h12 ?_
    refine Qb rfl rfl ?_
    refine Qn rfl rfl h12 ?_
    refine Xr rfl rfl rfl ?_
    refine Xf rfl h12 rfl rfl ?_
    refine Qe rfl rfl (Qf (Qc ?_))
    refine Qh (L' := [(51, _), (7, _), (0, _), (4, _), (5, _), (13, _), (14, _)]) (WJ rfl rfl rfl rfl rfl rfl rfl) ?_
    refine Qx rfl (fun h13 => ?_) (fun h13 => ?_)
    ·refine Qa (Qb rfl rfl (Qe rfl rfl (Qf (Qp (Qc (Qd (Qa (Qb rfl rfl ?_))))))))
     refine Xr rfl rfl rfl ?_
     refine Qf (Qc ?_)
     refine Qx rfl (fun h14 => ?_) (fun h14 => ?_)
     ·refine Qa (Qb rfl rfl (Qe rfl rfl (Qf (Qp (Qc ?_)))))
      refine Qh (L' := [(5, _), (4, _), (0, _), (13, _), (14, _)]) (ZG rfl rfl rfl rfl rfl) ?_
      refine Qa ?_
      refine QM rfl rfl (by omega) (by omega) rfl ?_
      refine Qb rfl rfl (Qf ?_)
      exact QF (L1 := [(0, _), (4, intV ((hd + (i : Int)) % (l.length : Int))), (5, intV ((hd + (i : Int)) % (l.length : Int))), (13, _), (14, intV ((i + 1 : Nat) : Int))]) (ZG rfl rfl rfl rfl rfl) (k1 := l.length - (i + 1)) (by omega) ⟨i + 1, ((hd + (i : Int)) % (l.length : Int)), ((hd + (i : Int)) % (l.length : Int)), rfl, rfl, hS10.pick [0, 1, 2, 3, 4, 6] rfl, by omega, .inr ⟨by omega, by rw [hulk, hxu]⟩, .inr ⟨by omega, by rw [hulk, hxu]⟩, fun e => by omega⟩
     refine Qy (Qp (Qc (Qa ?_)))
     refine QM rfl rfl (by omega) (by omega) rfl ?_
     refine Qb rfl rfl (Qf ?_)
     exact QF (L1 := [(0, _), (4, intV ((hd + (i : Int)) % (l.length : Int))), (5, intV an), (13, _), (14, intV ((i + 1 : Nat) : Int))]) (ZG rfl rfl rfl rfl rfl) (k1 := l.length - (i + 1)) (by omega) ⟨i + 1, ((hd + (i : Int)) % (l.length : Int)), an, rfl, rfl, hS10.pick [0, 1, 2, 3, 4, 6] rfl, by omega, .inr ⟨by omega, by rw [hulk, hxu]⟩, han, fun e => by omega⟩
    refine Qy (Qp (Qc (Qd (Qa (Qb rfl rfl ?_)))))
    refine Xr rfl rfl rfl ?_
    refine Qf (Qc ?_)
    refine Qx rfl (fun h15 => ?_) (fun h15 => ?_)
    ·refine Qa (Qb rfl rfl (Qe rfl rfl (Qf (Qp (Qc (Qa ?_))))))
     refine QM rfl rfl (by omega) (by omega) rfl ?_
     refine Qb rfl rfl (Qf ?_)
     exact QF (L1 := [(0, _), (4, intV um), (5, intV ((hd + (i : Int)) % (l.length : Int))), (13, _), (14, intV ((i + 1 : Nat) : Int))]) (ZG rfl rfl rfl rfl rfl) (k1 := l.length - (i + 1)) (by omega) ⟨i + 1, um, ((hd + (i : Int)) % (l.length : Int)), rfl, rfl, hS10.pick [0, 1, 2, 3, 4, 6] rfl, by omega, hum, .inr ⟨by omega, by rw [hulk, hxu]⟩, fun e => by omega⟩
    refine Qy (Qp (Qc (Qa ?_)))
    refine QM rfl rfl (by omega) (by omega) rfl ?_
    refine Qb rfl rfl (Qf ?_)
    exact QF (L1 := [(0, _), (4, intV um), (5, intV an), (13, _), (14, intV ((i + 1 : Nat) : Int))]) (ZG rfl rfl rfl rfl rfl) (k1 := l.length - (i + 1)) (by omega) ⟨i + 1, um, an, rfl, rfl, hS10.pick [0, 1, 2, 3, 4, 6] rfl, by omega, hum, han, fun e => by omega⟩
   refine Ql rfl rfl h12 rfl ?_
   refine Ql rfl rfl h12 rfl ?_
   refine QW rfl h12 rfl rfl ?_
   refine Qe rfl rfl (Qf (Qc ?_))
   refine Qh (L' := [(51, _), (7, _), (0, _), (4, _), (5, _), (13, _), (14, _)]) (WJ rfl rfl rfl rfl rfl rfl rfl) ?_
   refine Xl rfl ?_
   refine Qy (Qp (Qc (Qd (Qa (Qb rfl rfl ?_)))))
   refine Xr rfl rfl rfl ?_
   refine Qf (Qc ?_)
   refine Qx rfl (fun h16 => ?_) (fun h16 => ?_)
   ·refine Qa (Qb rfl rfl (Qe rfl rfl (Qf (Qp (Qc (Qa ?_))))))
    refine QM rfl rfl (by omega) (by omega) rfl ?_
    refine Qb rfl rfl (Qf ?_)
    exact QF (L1 := [(0, _), (4, intV um), (5, intV ((hd + (i : Int)) % (l.length : Int))), (13, _), (14, intV ((i + 1 : Nat) : Int))]) (ZG rfl rfl rfl rfl rfl) (k1 := l.length - (i + 1)) (by omega) ⟨i + 1, um, ((hd + (i : Int)) % (l.length : Int)), rfl, rfl, hS10.pick [0, 1, 2, 3, 4, 6] rfl, by omega, hum, .inr ⟨by omega, by rw [hulk, hxu]⟩, fun e => by omega⟩
   refine Qy (Qp (Qc (Qa ?_)))
   refine QM rfl rfl (by omega) (by omega) rfl ?_
   refine Qb rfl rfl (Qf ?_)
   exact QF (L1 := [(0, _), (4, intV um), (5, intV an), (13, _), (14, intV ((i + 1 : Nat) : Int))]) (ZG rfl rfl rfl rfl rfl) (k1 := l.length - (i + 1)) (by omega) ⟨i + 1, um, an, rfl, rfl, hS10.pick [0, 1, 2, 3, 4, 6] rfl, by omega, hum, han, fun e => by omega⟩
  refine Ql rfl rfl h9 rfl ?_
  refine Ql rfl rfl h9 rfl ?_
  refine Ql rfl rfl h9 rfl ?_
  refine Ql rfl rfl h9 rfl ?_
  refine QW rfl h9 rfl rfl ?_
  refine Qe rfl rfl (Qf (Qc ?_))
  refine Qh (L' := [(40, _), (8, _), (7, _), (0, _), (4, _), (5, _), (13, _), (14, _)]) (WR rfl rfl rfl rfl rfl rfl rfl rfl) ?_
  refine Xl rfl ?_
  refine Qd (Qa ?_)
  refine Qg rfl YT rfl ?_
  refine Qu rfl Gy (by exact hS7.cell 0 rfl rfl) rfl ?_
  refine QR rfl rfl ?_
  refine Qb rfl rfl ?_
  refine Zc 55 rfl (fun h17 => ?_) (fun h17 => ?_)
  ·refine Qn rfl rfl h17 ?_
   refine Qb rfl rfl ?_
   refine Qn rfl rfl h17 ?_
   refine Xr rfl rfl rfl ?_
   refine Xf rfl h17 rfl rfl ?_
   refine Qe rfl rfl (Qf (Qc ?_))
   refine Qh (L' := [(51, _), (7, _), (0, _), (4, _), (5, _), (13, _), (14, _)]) (WJ rfl rfl rfl rfl rfl rfl rfl) ?_
   refine Qx rfl (fun h18 => ?_) (fun h18 => ?_)
   ·refine Qa (Qb rfl rfl (Qe rfl rfl (Qf (Qp (Qc (Qd (Qa (Qb rfl rfl ?_))))))))
    refine Xr rfl rfl rfl ?_
    refine Qf (Qc ?_)
    refine Qx rfl (fun h19 => ?_) (fun h19 => ?_)
    ·refine Qa (Qb rfl rfl (Qe rfl rfl (Qf (Qp (Qc ?_)))))
     refine Qh (L' := [(5, _), (4, _), (0, _), (13, _), (14, _)]) (ZG rfl rfl rfl rfl rfl) ?_
     refine Qa ?_
     refine QM rfl rfl (by omega) (by omega) rfl ?_
     refine Qb rfl rfl (Qf ?_)
     exact QF (L1 := [(0, _), (4, intV ((hd + (i : Int)) % (l.length : Int))), (5, intV ((hd + (i : Int)) % (l.length : Int))), (13, _), (14, intV ((i + 1 : Nat) : Int))]) (ZG rfl rfl rfl rfl rfl) (k1 := l.length - (i + 1)) (by omega) ⟨i + 1, ((hd + (i : Int)) % (l.length : Int)), ((hd + (i : Int)) % (l.length : Int)), rfl, rfl, hS7.pick [1, 2, 3, 4, 5, 6] rfl, by omega, .inr ⟨by omega, by rw [hulk, hxu]⟩, .inr ⟨by omega, by rw [hulk, hxu]⟩, fun e => by omega⟩
    refine Qy (Qp (Qc (Qa ?_)))
    refine QM rfl rfl (by omega) (by omega) rfl ?_
    refine Qb rfl rfl (Qf ?_)
    exact QF (L1 := [(0, _), (4, intV ((hd + (i : Int)) % (l.length : Int))), (5, intV an), (13, _), (14, intV ((i + 1 : Nat) : Int))]) (ZG rfl rfl rfl rfl rfl) (k1 := l.length - (i + 1)) (by omega) ⟨i + 1, ((hd + (i : Int)) % (l.length : Int)), an, rfl, rfl, hS7.pick [1, 2, 3, 4, 5, 6] rfl, by omega, .inr ⟨by omega, by rw [hulk, hxu]⟩, han, fun e => by omega⟩
   refine Qy (Qp (Qc (Qd (Qa (Qb rfl rfl ?_)))))
   refine Xr rfl rfl rfl ?_
   refine Qf (Qc ?_)
   refine Qx rfl (fun h20 => ?_) (fun h20 => ?_)
   ·refine Qa (Qb rfl rfl (Qe rfl rfl (Qf (Qp (Qc (Qa ?_))))))
    refine QM rfl rfl (by omega) (by omega) rfl ?_
    refine Qb rfl rfl (Qf ?_)
    exact QF (L1 := [(0, _), (4, intV um), (5, intV ((hd + (i : Int)) % (l.length : Int))), (13, _), (14, intV ((i + 1 : Nat) : Int))]) (ZG rfl rfl rfl rfl rfl) (k1 := l.length - (i + 1)) (by omega) ⟨i + 1, um, ((hd + (i : Int)) % (l.length : Int)), rfl, rfl, hS7.pick [1, 2, 3, 4, 5, 6] rfl, by omega, hum, .inr ⟨by omega, by rw [hulk, hxu]⟩, fun e => by omega⟩
   refine Qy (Qp (Qc (Qa ?_)))
   refine QM rfl rfl (by omega) (by omega) rfl ?_
   refine Qb rfl rfl (Qf ?_)
   exact QF (L1 := [(0, _), (4, intV um), (5, intV an), (13, _), (14, intV ((i + 1 : Nat) : Int))]) (ZG rfl rfl rfl rfl rfl) (k1 := l.length - (i + 1)) (by omega) ⟨i + 1, um, an, rfl, rfl, hS7.pick [1, 2, 3, 4, 5, 6] rfl, by omega, hum, han, fun e => by omega⟩
  refine Ql rfl rfl h17 rfl ?_
  refine Ql rfl rfl h17 rfl ?_
  refine QW rfl h17 rfl rfl ?_
  refine Qe rfl rfl (Qf (Qc ?_))
  refine Qh (L' := [(51, _), (7, _), (0, _), (4, _), (5, _), (13, _), (14, _)]) (WJ rfl rfl rfl rfl rfl rfl rfl) ?_
  refine Xl rfl ?_
  refine Qy (Qp (Qc (Qd (Qa (Qb rfl rfl ?_)))))
  refine Xr rfl rfl rfl ?_
  refine Qf (Qc ?_)
  refine Qx rfl (fun h21 => ?_) (fun h21 => ?_)
  ·refine Qa (Qb rfl rfl (Qe rfl rfl (Qf (Qp (Qc (Qa ?_))))))
   refine QM rfl rfl (by omega) (by omega) rfl ?_
   refine Qb rfl rfl (Qf ?_)
   exact QF (L1 := [(0, _), (4, intV um), (5, intV ((hd + (i : Int)) % (l.length : Int))), (13, _), (14, intV ((i + 1 : Nat) : Int))]) (ZG rfl rfl rfl rfl rfl) (k1 := l.length - (i + 1)) (by omega) ⟨i + 1, um, ((hd + (i : Int)) % (l.length : Int)), rfl, rfl, hS7.pick [1, 2, 3, 4, 5, 6] rfl, by omega, hum, .inr ⟨by omega, by rw [hulk, hxu]⟩, fun e => by omega⟩
  refine Qy (Qp (Qc (Qa ?_)))
  refine QM rfl rfl (by omega) (by omega) rfl ?_
  refine Qb rfl rfl (Qf ?_)
  exact QF (L1 := [(0, _), (4, intV um), (5, intV an), (13, _), (14, intV ((i + 1 : Nat) : Int))]) (ZG rfl rfl rfl rfl rfl) (k1 := l.length - (i + 1)) (by omega) ⟨i + 1, um, an, rfl, rfl, hS7.pick [1, 2, 3, 4, 5, 6] rfl, by omega, hum, han, fun e => by omega⟩
 refine QY (Qv (Qv (Q4 (Qc (Qd (Qd (Qa (Qb rfl rfl ?_))))))))
 refine JD rfl rfl rfl ?_
 refine Qf (Qc ?_)
 refine Qx rfl (fun h22 => ?_) (fun h22 => ?_)
 ·refine Qd (Qa (Qb rfl rfl (Qe rfl rfl (Qe rfl rfl (Qf (Qc ?_))))))
  refine Qh (L' := [(3, _), (2, _), (5, _)]) (Y1 rfl rfl rfl) ?_
  refine Q0 (Qs ?_)
  refine Wn (.inr rfl) rfl rfl rfl ?_
  obtain ⟨h0, h1⟩ := hum.resolve_left (by omega); exact ⟨_, rfl, .inl ⟨um.toNat, h1, by rw [Int.toNat_of_nonneg h0], XS (hul) (hl4) (hh0) (hh1) (hS1.pick [0, 1, 2, 3, 4, 5] rfl)⟩⟩
 refine Qy (Qc (Qd (Qa (Qb rfl rfl ?_))))
 refine JJ rfl rfl rfl ?_
 refine Qb rfl rfl ?_
 refine JD rfl rfl rfl ?_
 refine Qe rfl rfl (Qe rfl rfl (Qf (Qc ?_)))
 refine Qh (L' := [(3, _), (2, _)]) (Hz rfl rfl) ?_
 refine Q0 ?_
 refine Wn (.inr rfl) rfl rfl rfl ?_
 rcases han with han | ⟨ha0, ha1⟩
 ·exact ⟨_, rfl, .inr ⟨clk_all hh0 (by rw [hul, List.length_map]; exact hh1) (fun j hj => hall han j (by rw [hul, List.length_map] at hj; omega)), by subst han; rfl, XS (hul) (hl4) (hh0) (hh1) (hS1.pick [0, 1, 2, 3, 4, 5] rfl)⟩⟩
 ·exact ⟨_, rfl, .inl ⟨an.toNat, ha1, by rw [Int.max_eq_left ha0, decide_eq_true (show an ≥ 0 from ha0), Int.toNat_of_nonneg ha0], XS (hul) (hl4) (hh0) (hh1) (hS1.pick [0, 1, 2, 3, 4, 5] rfl)⟩⟩
set_option maxRecDepth 100000 in
theorem YY {w : World} {p : Nat} {ul : List Bool} {hd : Int} {F : Th} (hS : Sat w [KU p ul hd, F]) :
    Calls Tryz.prog 170 #[ptrV p 0] w (Ret fun v w' => v = .tuple #[] ∧ Sat w' [KU p ul (if hd + 1 < (ul.length : Int) then hd + 1 else 0), F]) := by
 obtain ⟨ob, cap, l, b1, b2, b3, g1, g2, g3, hul, hl4, hh0, hh1, hS⟩ := W8 hS
 obtain ⟨x, hx⟩ : ∃ x, l[hd.toNat]? = some x := ⟨_, List.getElem?_eq_getElem (by omega)⟩
 refine Qt Tryz.func170 rfl Tryz.ntmps170 rfl ?_
 refine Qd ?_
 have hS1 := hS.drew
 refine QJ [0, 1, 2, 3, 4, 5, 6, 7, 8, 9, 10] [10] ZS (by kernel_rfl) ?_
 refine Qk rfl rfl rfl (fun _ => (Qr rfl)) ?_
 refine Qk rfl rfl rfl (fun _ => (Qq rfl)) ?_
 refine Qk rfl rfl rfl (fun _ => (Qi rfl Zw)) ?_
 refine QE rfl rfl rfl (Qm rfl Wu (by exact hS1.cell 0 rfl rfl)) ?_
 refine Qk rfl rfl rfl (fun _ => (Qr rfl)) ?_
 refine Qk rfl rfl rfl (fun _ => (Qq rfl)) ?_
 refine Qk rfl rfl rfl (fun _ => (Qi rfl J7)) ?_
 refine QE rfl rfl rfl (Qm rfl QV (by exact hS1.cell 0 rfl rfl)) ?_
 refine Qk rfl rfl rfl (fun _ => (JQ hd.toNat rfl rfl (by omega) (by omega) JF)) ?_
 refine Qk rfl rfl rfl (fun _ => (Qi rfl YT)) ?_
 refine Xm rfl rfl rfl rfl rfl rfl ?_
 refine WA 1 hd.toNat 1 { x with m := false } hS1 rfl rfl rfl (by show 0 + hd.toNat * 4 + 1 = hd.toNat * 4 + 1; omega) rfl Pd hx rfl (by decide) rfl rfl ?_
 intro w2 hS2; dsimp only [List.set] at hS2
 clear hS1
 refine Zh (.skip (by kernel_rfl) (.skip (by kernel_rfl) .nil)) ?_
 refine VC.nil (Qc ?_)
 refine Qh (L' := [(0, _)]) (Hc rfl) ?_
 refine Qd (Qa (Qb rfl rfl (Qj rfl rfl ?_)))
 refine Qg rfl J7 rfl ?_
 refine Qu rfl QV (by exact hS2.cell 0 rfl rfl) rfl ?_
 refine QM rfl rfl (by omega) (by omega) rfl ?_
 refine Qj rfl rfl ?_
 refine Qg rfl J7 rfl ?_
 first | (refine Xa hS2 rfl rfl YL (by rfl) (i := 0) rfl (by exact Nat.le_of_ble_eq_true rfl) ?_)
 intro w3 hS4; dsimp only [List.set] at hS4
 clear hS2
 refine Qf (Qc (Qd (Qd ?_)))
 have hS5 := hS4.drew
 refine QJ [0, 1, 2, 3, 4, 5, 6, 7, 8, 9] [] ZS (by kernel_rfl) ?_
 refine Qk rfl rfl rfl (fun _ => (Qr rfl)) ?_
 refine Qk rfl rfl rfl (fun _ => (Qq rfl)) ?_
 refine Qk rfl rfl rfl (fun _ => (Qi rfl J7)) ?_
 refine QE rfl rfl rfl (Qm rfl QV (by exact hS5.cell 0 rfl rfl)) ?_
 refine Qk rfl rfl rfl (fun _ => (Qr rfl)) ?_
 refine Qk rfl rfl rfl (fun _ => (Qq rfl)) ?_
 refine Qk rfl rfl rfl (fun _ => (Qi rfl Zw)) ?_
 refine QE rfl rfl rfl (Qm rfl Wu (by exact hS5.cell 0 rfl rfl)) ?_
 refine Qk rfl rfl rfl (fun _ => (Up Tryz.underlying186 rfl)) ?_
 refine Qk rfl rfl rfl (fun _ => (BW rfl rfl)) ?_
 refine VC.nil (Qc ?_)
 refine Qh (L' := [(29, _), (0, _)]) (Hz rfl rfl) ?_
 refine Qx rfl (fun h6 => ?_) (fun h6 => ?_)
 ·refine Q0 (Qs ?_)
  refine W3 (.inr rfl) rfl ?_
  exact ⟨_, rfl, rfl, by rw [if_pos (by rw [hul, List.length_map]; omega)]; exact XS (l := l.set hd.toNat { x with m := false }) (by rw [hul]; exact (Ur (y := { x with m := false }) hx rfl).symm) (by rw [List.length_set]; exact hl4) (by omega) (by rw [List.length_set]; omega) (hS5.pick [0, 1, 2, 3, 4, 5] rfl)⟩
 refine Qy (Qc (Qd (Qa (Qb rfl rfl (Qj rfl rfl ?_)))))
 refine Qg rfl J7 rfl ?_
 first | (refine Xa hS5 rfl rfl YL (by rfl) (i := 0) rfl (by exact Nat.le_of_ble_eq_true rfl) ?_)
 intro w7 hS8; dsimp only [List.set] at hS8
 clear hS5
 refine Qf (Qc (Qd (Qd (Qa (Qb rfl rfl (Qj rfl rfl ?_))))))
 refine Qg rfl Zw rfl ?_
 refine Qu rfl Wu (by exact hS8.cell 0 rfl rfl) rfl ?_
 refine XT Tryz.underlying186 rfl rfl ?_
 refine Qb rfl rfl (Qf (Qc ?_))
 refine Qh (L' := [(38, _), (37, _), (0, _)]) (Y1 rfl rfl rfl) ?_
 refine Q1 ?_
 have hSl := hS8.pick [0, 1, 2, 3, 4, 5] rfl
 have hls : (l.set hd.toNat { x with m := false }).length = l.length := List.length_set
 refine Xv (fun K0 E0 W0 => ∃ (l2 : List CkD) (i : Nat), K0 = l.length - i ∧ E0 = [(0, ptrV p 0), (37, intV (l2.length : Int)), (38, intV (i : Int))] ∧ Sat W0 [QN p [.slice (some ⟨ob, 0, none⟩) l2.length cap, intV 0, .map (some b1), .map (some b2), .map (some b3)], rowT ckC (.slice (some ⟨ob, 0, none⟩) l2.length cap) l2, QG Xc b1 (gI g1), QG Xc b2 (gI g2), QG Xc b3 (gI g3), F] ∧ (i ≤ l.length) ∧ (l2.length = l.length) ∧ (l2.map CkD.u = ul)) (L0 := [(0, _), (37, _), (38, _)]) (l.length - 0) (Y1 rfl rfl rfl) ⟨l.set hd.toNat { x with m := false }, 0, rfl, (by rw [hls]; rfl), by rw [hls]; exact hSl, by omega, hls, by rw [Ur (y := { x with m := false }) hx rfl]; exact hul.symm⟩ ?_
 rintro _ _ w9 ⟨l2, i, rfl, rfl, hS9, hi, hl2, hu2⟩
 refine Qd (Qa ?_)
 refine Xr rfl rfl rfl ?_
 refine Qf (Qc (Qd ?_))
 refine Qx rfl (fun h10 => ?_) (fun h10 => ?_)
 ·obtain ⟨x2, hx2⟩ : ∃ x, l2[i]? = some x := ⟨_, List.getElem?_eq_getElem (by omega)⟩
  refine Qy (Qc (Qd (Q1 (Qd (Qa (Qb rfl rfl (Qe rfl rfl (Qf (Qc (Qa (Qb rfl rfl (Qj rfl rfl ?_))))))))))))
  refine Qg rfl Zw rfl ?_
  refine Qu rfl Wu (by exact hS9.cell 0 rfl rfl) rfl ?_
  refine Qb rfl rfl ?_
  refine Xo ckC 1 i hS9 rfl rfl rfl (by rfl) hx2 JF rfl ?_
  intro bx11 capx11 hvx11
  refine Qg rfl RZ rfl ?_
  refine WA 1 i 2 { x2 with t := false } hS9 rfl hvx11 rfl rfl rfl Pd hx2 rfl (by decide) rfl (by rfl) ?_
  intro w12 hS13; dsimp only [List.set] at hS13
  clear hS9
  refine Qf (Qp (Qc ?_))
  refine Qh (L' := [(0, _), (37, _), (38, _)]) (Y1 rfl rfl rfl) ?_
  refine Qa ?_
  refine QM rfl rfl (by omega) (by omega) rfl ?_
  refine Qb rfl rfl (Qf ?_)
  have hSz := hS13.pick [0, 1, 2, 3, 4, 5] rfl
  exact QF (L1 := [(0, _), (37, intV ((l2.set i { x2 with t := false }).length : Int)), (38, intV ((i + 1 : Nat) : Int))]) (by rw [List.length_set]; exact (Y1 rfl rfl rfl)) (k1 := l.length - (i + 1)) (by omega) ⟨l2.set i { x2 with t := false }, i + 1, rfl, rfl, by rw [List.length_set]; exact hSz, by omega, by rw [List.length_set]; exact hl2, by rw [Ur (y := { x2 with t := false }) hx2 rfl]; exact hu2⟩
 refine QY (Qv (Qv (Q4 (Qc (Qd ?_)))))
 have hS14 := hS9.drew
 refine QJ [0, 1, 2, 3, 4, 5, 6, 7, 8, 9, 10, 11, 12, 13, 14, 15] [12, 15] ZS (by kernel_rfl) ?_
 refine Qk rfl rfl rfl (fun _ => (Qr rfl)) ?_
 refine Qk rfl rfl rfl (fun _ => (Qr rfl)) ?_
 refine Qk rfl rfl rfl (fun _ => (Qr rfl)) ?_
 refine Qk rfl rfl rfl (fun _ => (Qq rfl)) ?_
 refine Qk rfl rfl rfl (fun _ => (Qi rfl Gb)) ?_
 refine QE rfl rfl rfl (Qm rfl Wv (by exact hS14.cell 0 rfl rfl)) ?_
 refine Qk rfl rfl rfl (fun _ => (Qr rfl)) ?_
 refine Qk rfl rfl rfl (fun _ => (Qq rfl)) ?_
 refine Qk rfl rfl rfl (fun _ => (Qi rfl HE)) ?_
 refine QE rfl rfl rfl (Qm rfl Wv (by exact hS14.cell 0 rfl rfl)) ?_
 refine Qk rfl rfl rfl (fun _ => (Qq rfl)) ?_
 refine Qk rfl rfl rfl (fun _ => (Qi rfl HE)) ?_
 refine Xm rfl rfl rfl rfl rfl rfl ?_
 first | (refine Xa hS14 rfl rfl Pg (by rfl) (i := 0) rfl (by exact Nat.le_of_ble_eq_true rfl) ?_)
 intro w15 hS16; dsimp only [List.set] at hS16
 clear hS14
 refine Zh (.skip (by kernel_rfl) (.skip (by kernel_rfl) .nil)) ?_
 refine Qk rfl rfl rfl (fun _ => (Qq rfl)) ?_
 refine Qk rfl rfl rfl (fun _ => (Qi rfl Gb)) ?_
 refine Xm rfl rfl rfl rfl rfl rfl ?_
 first | (refine Xa hS16 rfl rfl Pg (by rfl) (i := 0) rfl (by exact Nat.le_of_ble_eq_true rfl) ?_)
 intro w17 hS18; dsimp only [List.set] at hS18
 clear hS16
 refine Zh (.skip (by kernel_rfl) (.skip (by kernel_rfl) .nil)) ?_
 refine VC.nil (Qc ?_)
 refine Qh (L' := [(0, _)]) (Hc rfl) ?_
 refine Qa (Qb rfl rfl (Qj rfl rfl ?_))
 refine Qg rfl HE rfl ?_
 refine Qu rfl Wv (by exact hS18.cell 0 rfl rfl) rfl ?_
 refine CC 4 hS18 Tryz.underlying109 rfl rfl rfl ?_
 intro w19 hS19; dsimp only [List.set] at hS19; rw [Vu] at hS19
 clear hS18
 refine Qf ?_
 refine W3 (.inl rfl) rfl ?_
 exact ⟨_, rfl, rfl, by rw [if_neg (by rw [hul, List.length_map]; omega)]; exact XS hu2.symm (by omega) (by omega) (by omega) (hS19.pick [0, 1, 2, 4, 3, 5] rfl)⟩
end Go.Proofs.YtkcjfoaejijdoaaGreatDoor
/- reclaim: Pick, New -/
namespace Go.Proofs.YtkcjfoaejijdoaaGreatDoor
open Go.RowKit M
set_option linter.unusedVariables false
set_option maxRecDepth 100000 in
set_option maxHeartbeats 800000000 in
theorem NB {w : World} {p : Nat} {ul : List Bool} {F : Th} (hS : Sat w [Bz p ul, F]) :
    Calls Tryz.prog 119 #[ptrV p 0] w (Ret fun v w' => (∃ k : Nat, ul[k]? = some true ∧ v = .tuple #[intV (k : Int), .bool true] ∧ Sat w' [Bz p ul, F]) ∨ ((∀ x ∈ ul, x = false) ∧ v = .tuple #[intV 0, .bool false] ∧ Sat w' [Bz p ul, F])) := by
 obtain ⟨hd, hS⟩ := hS.ex
 refine Qt Tryz.func119 rfl Tryz.ntmps119 rfl ?_
 refine Qd (Qa (Qe rfl rfl (Qe rfl rfl (Qf (Qc (Qd (Qa (Qb rfl rfl ?_))))))))
 have hC1 := hS.split [0] [true, false] rfl; dsimp only [Q9, Qz, Q8, cap, Q7] at hC1
 refine Qo cal_169 rfl (M5 hC1) rfl ?_
 rintro e w1 ⟨_, rfl, (⟨k, hk, rfl, hS1⟩ | ⟨hno, rfl, hS1⟩)⟩
 ·refine ⟨_, rfl, ?_⟩
  replace hS1 := hS1.join rfl; dsimp only [QT, QS, cap, Q7] at hS1; clear hC1
  refine Qb rfl rfl (Qw rfl rfl rfl (Qw rfl rfl rfl (Qe rfl rfl (Qe rfl rfl (Qf (Qc (Qd (Qd (Qa (Qb rfl rfl ?_))))))))))
  refine QR rfl rfl ?_
  refine Qf (Qc ?_)
  refine Qh (L' := [(12, _), (4, _), (3, _), (2, _), (0, _)]) (ZG rfl rfl rfl rfl rfl) ?_
  refine QQ rfl (fun h2 => ?_) (fun h2 => ?_)
  ·exact absurd h2 (by simp)
  refine Qy (Qc (Qd (Qd ?_)))
  obtain ⟨ob, cap, l, b1, b2, b3, g1, g2, g3, hul, hl4, hh0, hh1, hSo⟩ := W8 (hS1.pick [0, 1] rfl)
  have hull : ul.length = l.length := by rw [hul, List.length_map]
  obtain ⟨x, hx⟩ : ∃ x, l[k]? = some x := ⟨_, List.getElem?_eq_getElem (by have := (List.getElem?_eq_some_iff.1 hk).1; omega)⟩
  refine Qa (Qb rfl rfl (Qj rfl rfl ?_))
  refine Qg rfl Zw rfl ?_
  refine Qu rfl Wu (by exact hSo.cell 0 rfl rfl) rfl ?_
  refine Qb rfl rfl ?_
  refine Xo ckC 1 k hSo rfl rfl rfl (by rfl) hx JF rfl ?_
  intro bx3 capx3 hvx3
  refine Qg rfl YT rfl ?_
  refine Z3 1 k 1 hSo rfl hvx3 rfl rfl hx Gy rfl rfl ?_
  refine Qf (Qc ?_)
  refine Qh (L' := [(20, _), (4, _), (3, _), (2, _), (0, _)]) (ZG rfl rfl rfl rfl rfl) ?_
  refine QQ rfl (fun h4 => ?_) (fun h4 => ?_)
  ·refine Qd (Qa (Qb rfl rfl (Qj rfl rfl ?_)))
   refine Qg rfl Zw rfl ?_
   refine Qu rfl Wu (by exact hSo.cell 0 rfl rfl) rfl ?_
   refine XT Tryz.underlying186 rfl rfl ?_
   refine Qb rfl rfl (Qf (Qc ?_))
   refine Qh (L' := [(26, _), (25, _), (4, _), (3, _), (2, _), (0, _)]) (We rfl rfl rfl rfl rfl rfl) ?_
   refine Q1 ?_
   have hS5 := XS (hul) (hl4) (hh0) (hh1) (hSo.pick [0, 1, 2, 3, 4, 5] rfl)
   refine Xv (fun K0 E0 W0 => ∃ (i : Nat) (h : Int), K0 = ul.length - i ∧ E0 = [(0, ptrV p 0), (4, intV (k : Int)), (25, intV (ul.length : Int)), (26, intV (i : Int))] ∧ Sat W0 [KU p ul h, F] ∧ (i ≤ ul.length)) (L0 := [(0, _), (4, _), (25, _), (26, _)]) (ul.length - 0) (Jq rfl rfl rfl rfl) ⟨0, hd, rfl, (by rw [hull]; rfl), hS5, by omega⟩ ?_
   rintro _ _ w6 ⟨i, h, rfl, rfl, hS6, hi⟩
   refine Qd (Qa ?_)
   refine Xr rfl rfl rfl ?_
   refine Qf (Qc (Qd ?_))
   refine Qx rfl (fun h7 => ?_) (fun h7 => ?_)
   ·refine Qy (Qc (Qd (Q1 (Qa (Qb rfl rfl ?_)))))
    have hC8 := hS6.split [0] [true, false] rfl; dsimp only [Q9, Qz, Q8, cap, Q7] at hC8
    refine Qo VH rfl (YY hC8) rfl ?_
    rintro e w8 ⟨_, rfl, rfl, hS8⟩; refine ⟨_, rfl, ?_⟩
    replace hS8 := hS8.join rfl; dsimp only [QT, QS, cap, Q7] at hS8; clear hC8
    clear hS6
    refine Qf (Qp (Qc (Qa ?_)))
    refine QM rfl rfl (by omega) (by omega) rfl ?_
    refine Qb rfl rfl (Qf ?_)
    exact QF (L1 := [(0, _), (4, _), (25, _), (26, intV ((i + 1 : Nat) : Int))]) (Jq rfl rfl rfl rfl) (k1 := ul.length - (i + 1)) (by omega) ⟨i + 1, _, rfl, rfl, hS8.pick [0, 1] rfl, by omega⟩
   refine QY (Qv (Qv (Q4 (Qc (Qd (Q1 ?_))))))
   obtain ⟨hh, hhe⟩ : ∃ x : Int, x = h := ⟨_, rfl⟩
   rw [← hhe] at hS6
   refine Xv (fun K0 E0 W0 => ∃ (h : Int), K0 = (if h ≤ (k : Int) then (k : Int) - h else (ul.length : Int) - h + k).toNat ∧ E0 = [(0, ptrV p 0), (4, intV (k : Int))] ∧ Sat W0 [KU p ul h, F]) (L0 := [(0, _), (4, _)]) ((if hh ≤ (k : Int) then (k : Int) - hh else (ul.length : Int) - hh + k).toNat) (Hz rfl rfl) ⟨_, rfl, rfl, hS6⟩ ?_
   rintro _ _ w9 ⟨h, rfl, rfl, hS9⟩
   refine Qd (Qd ?_)
   obtain ⟨ob3, cap3, l3, b13, b23, b33, g13, g23, g33, hul3, hl43, hh03, hh13, hSo10⟩ := W8 (hS9.pick [0, 1] rfl)
   have hull3 : ul.length = l3.length := by rw [hul3, List.length_map]
   refine Qa (Qb rfl rfl (Qj rfl rfl ?_))
   refine Qg rfl J7 rfl ?_
   refine Qu rfl QV (by exact hSo10.cell 0 rfl rfl) rfl ?_
   refine Qb rfl rfl ?_
   refine Xg rfl rfl rfl ?_
   refine Qf ?_
   have hS11 := XS hul3 hl43 hh03 hh13 (hSo10.pick [0, 1, 2, 3, 4, 5] rfl)
   refine Qc ?_
   refine Qx rfl (fun h12 => ?_) (fun h12 => ?_)
   ·refine Qy (Qc (Q1 (Qa (Qb rfl rfl ?_))))
    have hC13 := hS11.split [0] [true, false] rfl; dsimp only [Q9, Qz, Q8, cap, Q7] at hC13
    refine Qo VH rfl (YY hC13) rfl ?_
    rintro e w13 ⟨_, rfl, rfl, hS13⟩; refine ⟨_, rfl, ?_⟩
    replace hS13 := hS13.join rfl; dsimp only [QT, QS, cap, Q7] at hS13; clear hC13
    clear hS11
    refine Qf (Qp ?_)
    have hkn := (List.getElem?_eq_some_iff.1 hk).1
    exact QF (L1 := [(0, _), (4, _)]) (Hz rfl rfl) (k1 := (if (if h + 1 < (ul.length : Int) then h + 1 else 0) ≤ (k : Int) then (k : Int) - (if h + 1 < (ul.length : Int) then h + 1 else 0) else (ul.length : Int) - (if h + 1 < (ul.length : Int) then h + 1 else 0) + k).toNat) (by split <;> split <;> split <;> omega) ⟨_, rfl, rfl, hS13.pick [0, 1] rfl⟩
   refine QY (Qv (Qv (Q4 (Qc (Qd (Qa (Qb rfl rfl ?_)))))))
   have hC14 := hS11.split [0] [true, false] rfl; dsimp only [Q9, Qz, Q8, cap, Q7] at hC14
   refine Qo VH rfl (YY hC14) rfl ?_
   rintro e w14 ⟨_, rfl, rfl, hS14⟩; refine ⟨_, rfl, ?_⟩
   replace hS14 := hS14.join rfl; dsimp only [QT, QS, cap, Q7] at hS14; clear hC14
   clear hS11
   refine Qf (Qc (Qd (Qa (Qb rfl rfl (Qe rfl rfl (Qe rfl rfl (Qf (Qc ?_))))))))
   refine Qh (L' := [(3, _), (2, _)]) (Hz rfl rfl) ?_
   refine Q0 ?_
   refine Wn (.inr rfl) rfl rfl rfl ?_
   exact ⟨_, rfl, .inl ⟨k, hk, rfl, Sat.ex_intro (f := fun h : Int => KU p ul h) _ (hS14.pick [0, 1] rfl)⟩⟩
  refine Qy (Qc (Qd (Q1 ?_)))
  have hS15 := XS (hul) (hl4) (hh0) (hh1) (hSo.pick [0, 1, 2, 3, 4, 5] rfl)
  obtain ⟨hh, hhe⟩ : ∃ x : Int, x = hd := ⟨_, rfl⟩
  rw [← hhe] at hS15
  refine Xv (fun K0 E0 W0 => ∃ (h : Int), K0 = (if h ≤ (k : Int) then (k : Int) - h else (ul.length : Int) - h + k).toNat ∧ E0 = [(0, ptrV p 0), (4, intV (k : Int))] ∧ Sat W0 [KU p ul h, F]) (L0 := [(0, _), (4, _)]) ((if hh ≤ (k : Int) then (k : Int) - hh else (ul.length : Int) - hh + k).toNat) (Hz rfl rfl) ⟨_, rfl, rfl, hS15⟩ ?_
  rintro _ _ w16 ⟨h, rfl, rfl, hS16⟩
  refine Qd (Qd ?_)
  obtain ⟨ob3, cap3, l3, b13, b23, b33, g13, g23, g33, hul3, hl43, hh03, hh13, hSo17⟩ := W8 (hS16.pick [0, 1] rfl)
  have hull3 : ul.length = l3.length := by rw [hul3, List.length_map]
  refine Qa (Qb rfl rfl (Qj rfl rfl ?_))
  refine Qg rfl J7 rfl ?_
  refine Qu rfl QV (by exact hSo17.cell 0 rfl rfl) rfl ?_
  refine Qb rfl rfl ?_
  refine Xg rfl rfl rfl ?_
  refine Qf ?_
  have hS18 := XS hul3 hl43 hh03 hh13 (hSo17.pick [0, 1, 2, 3, 4, 5] rfl)
  refine Qc ?_
  refine Qx rfl (fun h19 => ?_) (fun h19 => ?_)
  ·refine Qy (Qc (Q1 (Qa (Qb rfl rfl ?_))))
   have hC20 := hS18.split [0] [true, false] rfl; dsimp only [Q9, Qz, Q8, cap, Q7] at hC20
   refine Qo VH rfl (YY hC20) rfl ?_
   rintro e w20 ⟨_, rfl, rfl, hS20⟩; refine ⟨_, rfl, ?_⟩
   replace hS20 := hS20.join rfl; dsimp only [QT, QS, cap, Q7] at hS20; clear hC20
   clear hS18
   refine Qf (Qp ?_)
   have hkn := (List.getElem?_eq_some_iff.1 hk).1
   exact QF (L1 := [(0, _), (4, _)]) (Hz rfl rfl) (k1 := (if (if h + 1 < (ul.length : Int) then h + 1 else 0) ≤ (k : Int) then (k : Int) - (if h + 1 < (ul.length : Int) then h + 1 else 0) else (ul.length : Int) - (if h + 1 < (ul.length : Int) then h + 1 else 0) + k).toNat) (by split <;> split <;> split <;> omega) ⟨_, rfl, rfl, hS20.pick [0, 1] rfl⟩
  refine QY (Qv (Qv (Q4 (Qc (Qd (Qa (Qb rfl rfl ?_)))))))
  have hC21 := hS18.split [0] [true, false] rfl; dsimp only [Q9, Qz, Q8, cap, Q7] at hC21
  refine Qo VH rfl (YY hC21) rfl ?_
  rintro e w21 ⟨_, rfl, rfl, hS21⟩; refine ⟨_, rfl, ?_⟩
  replace hS21 := hS21.join rfl; dsimp only [QT, QS, cap, Q7] at hS21; clear hC21
  clear hS18
  refine Qf (Qc (Qd (Qa (Qb rfl rfl (Qe rfl rfl (Qe rfl rfl (Qf (Qc ?_))))))))
  refine Qh (L' := [(3, _), (2, _)]) (Hz rfl rfl) ?_
  refine Q0 ?_
  refine Wn (.inr rfl) rfl rfl rfl ?_
  exact ⟨_, rfl, .inl ⟨k, hk, rfl, Sat.ex_intro (f := fun h : Int => KU p ul h) _ (hS21.pick [0, 1] rfl)⟩⟩
 refine ⟨_, rfl, ?_⟩
 replace hS1 := hS1.join rfl; dsimp only [QT, QS, cap, Q7] at hS1; clear hC1
 refine Qb rfl rfl (Qw rfl rfl rfl (Qw rfl rfl rfl (Qe rfl rfl (Qe rfl rfl (Qf (Qc (Qd (Qd (Qa (Qb rfl rfl ?_))))))))))
 refine QR rfl rfl ?_
 refine Qf (Qc ?_)
 refine Qh (L' := [(12, _), (4, _), (3, _), (2, _), (0, _)]) (ZG rfl rfl rfl rfl rfl) ?_
 refine QQ rfl (fun h22 => ?_) (fun h22 => ?_)
 ·refine Qd (Qa (Qe rfl rfl (Qe rfl rfl (Qf (Qc (Q0 (Qs ?_)))))))
  refine Wn (.inr rfl) rfl rfl rfl ?_
  exact ⟨_, rfl, .inr ⟨hno, rfl, Sat.ex_intro (f := fun h : Int => KU p ul h) _ (hS1.pick [0, 1] rfl)⟩⟩
 exact absurd h22 (by simp)
theorem ckgoneT {w : World} {p : Nat} {ul : List Bool} {F : Th} (hS : Sat w [Bz p ul, F]) (f : Int) (hf : 0 ≤ f ∧ f < (ul.length : Int)) :
    Calls Tryz.prog 186 #[ptrV p 0, intV f] w (Ret fun v w' => v = .tuple #[] ∧ Sat w' [Bz p (ul.set f.toNat false), F]) := by
  obtain ⟨hd, hS⟩ := hS.ex
  exact (Kz hS f hf).mono fun e w1 h => h.mono fun v w2 ⟨h1, h2⟩ => ⟨h1, Sat.ex_intro (f := fun h : Int => KU p (ul.set f.toNat false) h) hd h2⟩
theorem SF {w : World} {p : Nat} {ul : List Bool} {F : Th} (hS : Sat w [Bz p ul, F]) (f : Int) (hf : 0 ≤ f ∧ f < (ul.length : Int)) (owner : Int) :
    Calls Tryz.prog 188 #[ptrV p 0, intV f, intV owner] w (Ret fun v w' => v = .tuple #[] ∧ Sat w' [Bz p (ul.set f.toNat true), F]) := by
  obtain ⟨hd, hS⟩ := hS.ex
  exact (SE hS f hf owner).mono fun e w1 h => h.mono fun v w2 ⟨h1, h2⟩ => ⟨h1, Sat.ex_intro (f := fun h : Int => KU p (ul.set f.toNat true) h) hd h2⟩
theorem ckrow {Z : List Value} (hZ : Z = ckC.enc ⟨false, false, false, 0⟩) (m : Nat) : (List.replicate m Z).flatten = ckC.cells (List.replicate m ⟨false, false, false, 0⟩) := by
  subst hZ
  induction m with
  | zero => rfl
  | succ m ih => rw [List.replicate_succ, List.flatten_cons, ih, List.replicate_succ]; rfl
set_option maxRecDepth 100000 in
theorem SG {w : World} {F : Th} (hS : Sat w [F]) (n : Int) (hn : 1 ≤ n) :
    Calls Tryz.prog 59 #[intV n] w (Ret fun v w' => ∃ p, v = ptrV p 0 ∧ Sat w' [Bz p (List.replicate (min (max n 0) 4096).toNat false), F]) := by
 refine Qt Tryz.func59 rfl Tryz.ntmps59 rfl ?_
 refine Qd (Qa (Qe rfl rfl (Qf (Qc (Qd (Qa (Qb rfl rfl ?_)))))))
 refine JJ rfl rfl rfl ?_
 refine HR rfl rfl rfl ?_
 refine B9 hS (min (max n 0) 4096).toNat rfl rfl (by omega) Tryz.underlying186 ifo_199 rfl (by omega) (by omega) rfl ?_
 intro db w1 hS1a; have hS1 := hS1a.row_cast (l := List.replicate (min (max n 0) 4096).toNat ⟨false, false, false, 0⟩) (C := ckC) (by simp) rfl (ckrow rfl _)
 refine ZB Xc hS1 rfl ?_
 intro mb1 w2 hS2; rw [Vu] at hS2
 clear hS1
 refine ZB Xc hS2 rfl ?_
 intro mb2 w3 hS3; rw [Vu] at hS3
 clear hS2
 refine ZB Xc hS3 rfl ?_
 intro mb3 w4 hS4; rw [Vu] at hS4
 clear hS3
 refine Zx rfl RJ asz_188 zr_188 rfl rfl ?_
 refine Ze hS4 rfl rfl rfl ?_
 intro bp wbp hSbp
 clear hS4
 refine Qe rfl rfl (Qf (Qc ?_))
 refine Qh (L' := [(2, _)]) (Hc rfl) ?_
 refine Q0 ?_
 refine QU (.inr rfl) rfl rfl ?_
 exact ⟨_, rfl, _, rfl, Sat.ex_intro (f := fun h : Int => KU bp _ h) 0 (XS (l := List.replicate (min (max n 0) 4096).toNat ⟨false, false, false, 0⟩) (by rw [List.map_replicate]) (by rw [List.length_replicate]; omega) (by omega) (by rw [List.length_replicate]; omega) (hSbp.pick [0, 4, 3, 2, 1, 5] rfl))⟩
end Go.Proofs.YtkcjfoaejijdoaaGreatDoor
/- The shelf's contract of sorting ints as a contract of things. Conditions: each one's own hypotheses. -/
namespace Go.Proofs.YtkcjfoaejijdoaaGreatDoor.M
open Go.RowKit Go.Sort
end Go.Proofs.YtkcjfoaejijdoaaGreatDoor.M
