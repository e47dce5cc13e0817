/- leaves: SetByte -/
import Derived.Test.YtkcjfoaejijdoaaGreatDoorLv5
import Derived.Shelf.Lays7
import Derived.Ground.Names7Prog
import Derived.Test.YtkcjfoaejijdoaaGreatDoorProg
import Derived.Test.YtkcjfoaejijdoaaGreatDoorSh13
import Derived.Test.YtkcjfoaejijdoaaGreatDoorCk2
namespace Go.Proofs.YtkcjfoaejijdoaaGreatDoor
open Go.RowKit M
set_option linter.unusedVariables false
def BD (A : LvA) (id : Int) : Bool := decide (id = 0) || (A.tr id).isSome
theorem CL {L : LvD} {V : VS} {id : Int} : BD (Q5 L V) id = ZY L id := by simp [BD, ZY, Q5]
theorem Ue {A : LvA} {id : Int} {k : KD} {x y : LfA} : Zt (Zt A id k x) id k y = Zt A id k y := by
  cases h : A.tr id with
  | none => unfold Zt; simp [h]
  | some t =>
    rw [ZI h, ZI (t := { t with lv := Xj t.lv k (some x) }) Q3, ZI h]
    simp only [Hh]
section
variable {L L1 L2 L' : LvD} {V V1 V2 V' : VS} {id : Int} {t t1 t2 : TrD} {k : KD} {x1 x2 : LfD} {m Fr : Nat} {s e a r : Int} {pg : Bs} {b : UInt8} {p : Pl}
theorem OwnI.tight_own (h : OwnI L V p m Fr L' V' s e) (he : e ≠ 0) : B8 V Fr := by
  rcases h.2.2.2.2 with ⟨_, _, hg⟩ | ⟨h0, _⟩
  · exact fun c q => by have := YC q hg; omega
  · exact absurd h0 he
theorem OwnI.tight_set (h : OwnI L V p m Fr L' V' s e) (he : e = 0) (ha : 0 ≤ a ∧ a < 64) (hb : V' s = none ∨ 1 < Za V' s ∨ a < 0 ∨ 64 ≤ a ∨ JW V' Fr) : B8 V Fr := by
  rcases h.2.2.2.2 with ⟨h1, _, hg⟩ | ⟨h0, h1, h2, h3⟩
  · omega
  · rcases hb with hb | hb | hb | hb | hb
    · rw [Hl hb] at h2; omega
    · omega
    · omega
    · omega
    · exact fun c q => by have := YC (h.2.2.1 c q) hb; omega
theorem OwnP.step (hO : OwnP L V k Fr L' V' s e) (hI : LvI m L V) : StepI m L V m 1 1 L' V' := by
  refine ⟨(hO.inv hI).1.1, ?_, (hO.inv hI).1.2.2.1, fun c q => hO.sz q⟩
  rcases hO with ⟨_, _, _, _, rfl, _⟩ | ⟨_, _, _, rfl, _⟩ | ⟨_, _, _, _, _, rfl⟩ <;> rfl
/-- what SetByte has done to the contents of the present -/
noncomputable def wrP (A : LvA) (k : KD) (a : Int) (b : UInt8) : LvA := { A with pres := HW A.pres k ((A.pres k).set a.toNat b) }
theorem P3 (hO : OwnP L V k Fr L' V' s 0) (hI : LvI m L V) (hs : V' s = some (r, pg)) (ha : 0 ≤ a ∧ a < 64) : StepI m L V m 1 1 L' (Xj V' s (some (r, pg.set a.toNat b))) ∧ Q5 L' (Xj V' s (some (r, pg.set a.toNat b))) = wrP (Q5 L V) k a b := by
  have h1 := (hO.inv hI).1
  have h2 := hO.step hI
  obtain ⟨c1, c2, c3⟩ : s ≠ 0 ∧ Za V' s = 1 ∧ Xf L' (.inl k) = s := by
    rcases h1.2.2.2.2 with ⟨q, _⟩ | ⟨_, q⟩
    · omega
    · exact q
  obtain ⟨d1, d2⟩ := P0 (b := b) h1.1 c2 hs c3 ha
  refine ⟨⟨d1, h2.sp, fun c q => (h2.al c q).sub fun j hj => ?_, h2.sz⟩, by rw [d2, h1.2.1]; rfl⟩
  by_cases e : j = s
  · subst e; rw [hs]; simp
  · rwa [QI e] at hj
theorem DG (hT : TouR L V id t k L1 V1 t1 x1) (ht : L.tr id = some t) (hI : LvI m L V) (hO : OwnT L1 V1 id t1 k x1 Fr L2 V2 s e) :
    StepI m L V m 1 1 L2 V2 ∧ OwnI L1 V1 (.inr (id, k, true)) m Fr L2 V2 s e ∧ Q5 L2 V2 = Zt (Q5 L V) id k (Zb (Q5 L V) id k) ∧ (B8 V1 Fr → B8 V Fr) := by
  obtain ⟨h1, h2, h3, h4, h5⟩ := hT.inv ht hI
  have h6 := (hO.inv (hT.tr ht) hT.lv h1).1
  exact ⟨⟨h6.1, hO.sp.trans hT.sp, fun c q => h6.2.2.1 c (h4 c q), fun c q => hO.sz (hT.tr ht) hT.lv (hT.sz ht q)⟩, h6, h6.2.1.trans h3, fun q c hc => q c (h4 c hc)⟩
/-- the leaf after a write -/
def wrX (x : LfA) (a : Int) (b : UInt8) : LfA := { x with own := x.own.set a.toNat b, wr := x.wr ||| (1#64 <<< a.toNat) }
theorem P1 (hT : TouR L V id t k L1 V1 t1 x1) (ht : L.tr id = some t) (hI : LvI m L V) (hO : OwnT L1 V1 id t1 k x1 Fr L2 V2 s 0) (ht2 : L2.tr id = some t2) (hx2 : t2.lv k = some x2) (hs : V2 s = some (r, pg)) (ha : 0 ≤ a ∧ a < 64) :
    StepI m L V m 1 1 (Zj L2 id t2 k { x2 with wr := x2.wr ||| (1#64 <<< a.toNat) }) (Xj V2 s (some (r, pg.set a.toNat b))) ∧
    Q5 (Zj L2 id t2 k { x2 with wr := x2.wr ||| (1#64 <<< a.toNat) }) (Xj V2 s (some (r, pg.set a.toNat b))) = Zt (Q5 L V) id k (wrX (Zb (Q5 L V) id k) a b) := by
  obtain ⟨h1, h2, h3, h4⟩ := DG hT ht hI hO
  obtain ⟨g1, g2, g3, g4, g5⟩ := hT.inv ht hI
  obtain ⟨c1, c2, c3⟩ : s ≠ 0 ∧ Za V2 s = 1 ∧ Xf L2 (.inr (id, k, true)) = s := by
    rcases h2.2.2.2.2 with ⟨q, _⟩ | ⟨_, q⟩
    · omega
    · exact q
  obtain ⟨d1, d2⟩ := Pz (b := b) h2.1 c2 hs c3 ht2 hx2 ha
  have d3 : ZG V2 x2 = Zb (Q5 L V) id k := (Fd h2.2.1 (hT.tr ht) hT.lv ht2 hx2).trans g2
  have d4 : x2.wr = (Zb (Q5 L V) id k).wr := by rw [← d3]; rfl
  refine ⟨⟨d1, h1.sp, fun c q => (h1.al c q).sub fun j hj => ?_, fun c q => (h1.sz c q).putOld ht2 hx2 rfl rfl⟩, ?_⟩
  · by_cases e : j = s
    · subst e; rw [hs]; simp
    · rwa [QI e] at hj
  · rw [d2, h3, Ue, d3, d4]; rfl
end
set_option maxRecDepth 100000 in
set_option maxHeartbeats 800000000 in
theorem Pu {w : World} {m : Nat} {b n Fr : Nat} {L : LvD} {V : VS} {F : Th} (hS : Sat w [ZV b L, Zv L.sp n Fr V, F]) (hn : n ≤ 600000000) (ob : Bs) (a : Int) (bt : UInt8) (hI : LvI m L V) (hm : m < Z9) (hr : 0 ≤ a ∧ a < 16384) :
    Calls Tryz.prog 10 #[ptrV b 0, intV 0, strV ob, intV a, WA bt] w (Ret fun v w' => ∃ L' V' e, v = intV e ∧ StepI m L V m 1 1 L' V' ∧ ((e = 0 ∧ Q5 L' V' = wrP (Q5 L V) (ob, a / 64) (a % 64) bt) ∨ (e ≠ 0 ∧ Q5 L' V' = Q5 L V ∧ B8 V Fr)) ∧ Sat w' [ZV b L', Zv L'.sp (n + 5) Fr V', F]) := by
 refine Qt Tryz.func10 rfl Tryz.ntmps10 rfl ?_
 refine Qd (Qa (Qe rfl rfl (Qf (Qc (Qd (Qa (Qb rfl rfl (Qb rfl rfl ?_))))))))
 have hC1 := hS.split [] [false, false, false] rfl; dsimp only [QC, Qz, Q9, Q8, Q7] at hC1
 refine Qo Dh rfl (Vl hC1 ob a) rfl ?_
 rintro e w1 ⟨_, rfl, rfl, hS1⟩; refine ⟨_, rfl, ?_⟩
 replace hS1 := hS1.join rfl; dsimp only [QU, QT, Q8, Q7] at hS1; clear hC1
 rw [Uh hr]
 refine Qb rfl rfl (Qw rfl rfl rfl (Qw rfl rfl rfl (Qw rfl rfl rfl ?_)))
 refine Xl hS1 Wp rfl rfl ?_
 intro kb w2 hS2
 clear hS1
 refine Xa hS2 rfl rfl Xc rfl (by rfl) (i := 0) rfl (by decide) ?_
 intro w3 hS3; dsimp only [List.set] at hS3
 clear hS2
 replace hS3 := XR (k := (ob, a / 64)) hS3
 refine Qe rfl rfl (Qe rfl rfl (Qf (Qc ?_)))
 refine Qh (L' := [(13, _), (12, _), (11, _), (10, _), (0, _), (1, _), (3, _), (4, _)]) (WT rfl rfl rfl rfl rfl rfl rfl rfl) ?_
 refine Qd (Q1 (Qd (Qa (Qb rfl rfl (Qb rfl rfl ?_)))))
 have hC4 := hS3.split [1] [false, true, false, false] rfl; dsimp only [QC, Qz, Q9, Q8, Q7] at hC4
 refine Qo UU rfl (Ym hC4 0) rfl ?_
 rintro e w4 ⟨_, rfl, rfl, hS4⟩; refine ⟨_, rfl, ?_⟩
 replace hS4 := hS4.join rfl; dsimp only [QU, QT, Q8, Q7] at hS4; clear hC4
 clear hS3
 refine QS rfl rfl ?_
 refine Qe rfl rfl (Qf (Qc ?_))
 refine Qh (L' := [(24, _), (13, _), (12, _), (11, _), (10, _), (0, _), (1, _), (3, _), (4, _)]) (G6 rfl rfl rfl rfl rfl rfl rfl rfl rfl) ?_
 refine QR rfl (fun h5 => ?_) (fun h5 => ?_)
 ·exact absurd h5 (by simp [ZY])
 refine Qd (Qa (Qb rfl rfl ?_))
 refine QS rfl rfl ?_
 refine Qe rfl rfl (Qf (Qc ?_))
 refine Qh (L' := [(29, _), (12, _), (11, _), (10, _), (0, _), (1, _), (3, _), (4, _)]) (WT rfl rfl rfl rfl rfl rfl rfl rfl) ?_
 refine QR rfl (fun h6 => ?_) (fun h6 => ?_)
 ·exact absurd h6 (by decide)
 refine Qy (Qp (Qc (Qd (Qa (Qb rfl rfl (Qb rfl rfl ?_))))))
 refine XX rfl XB Xc (by first | exact hS4.blk 1 rfl) (by exact Nat.le_of_ble_eq_true rfl) rfl rfl ?_
 have hC7 := hS4.split [0, 2] [true, false, true, false] rfl; dsimp only [QC, Qz, Q9, Q8, Q7] at hC7
 refine Qo SO rfl (own0_sp hC7 (by omega) (hI.rank.ends hm) (k := (ob, a / 64)) (hI.alive (.inl (ob, a / 64)))) rfl ?_
 rintro e w7 ⟨_, rfl, L1, V1, s, e, rfl, hO, hS7⟩; refine ⟨_, rfl, ?_⟩
 replace hS7 := hS7.join rfl; dsimp only [QU, QT, Q8, Q7] at hS7; clear hC7
 clear hS4
 have hOI := (hO.inv hI).1
 refine Qb rfl rfl (Qw rfl rfl rfl (Qw rfl rfl rfl (Qe rfl rfl (Qe rfl rfl (Qf (Qc ?_))))))
 refine Qh (L' := [(15, _), (14, _), (12, _), (11, _), (10, _), (0, _), (1, _), (3, _), (4, _)]) (G6 rfl rfl rfl rfl rfl rfl rfl rfl rfl) ?_
 refine Qd (Qd (Qa (Qb rfl rfl ?_)))
 refine Xh rfl rfl rfl ?_
 refine Qf (Qc ?_)
 refine Qx rfl (fun h8 => ?_) (fun h8 => ?_)
 ·have he : e ≠ 0 := h8
  refine Qd (Qa (Qb rfl rfl (Qe rfl rfl (Qf (Qc ?_)))))
  refine Qh (L' := [(10, _), (14, _), (12, _), (11, _), (0, _), (1, _), (3, _), (4, _)]) (WT rfl rfl rfl rfl rfl rfl rfl rfl) ?_
  refine Q0 (Qs ?_)
  refine QV (.inr rfl) rfl rfl ?_
  exact ⟨_, rfl, L1, V1, e, rfl, hO.step hI, .inr ⟨he, hOI.2.1, hOI.tight_own he⟩, (Xx (m := n + 5) (by omega) (hS7.pick [1, 0, 3] rfl)).reorder [1, 0, 2] rfl⟩
 have he : e = 0 := Decidable.not_not.1 h8
 refine Qy (Qc ?_)
 refine Qh (L' := [(14, _), (12, _), (11, _), (10, _), (0, _), (1, _), (3, _), (4, _)]) (WT rfl rfl rfl rfl rfl rfl rfl rfl) ?_
 refine Qd (Qd (Qa (Qb rfl rfl (Qj rfl rfl ?_))))
 refine Qg rfl XK rfl ?_
 refine Qu rfl Xe (YH hS7 0 rfl) rfl ?_
 refine Qb rfl rfl (Qb rfl rfl ?_)
 refine NW rfl rfl (by omega) (by omega) rfl ?_
 refine Qb rfl rfl ?_
 have hC9 := hS7.split [1] [false, true, false, false] rfl; dsimp only [QC, Qz, Q9, Q8, Q7] at hC9
 refine Qo SN rfl (stSet hC9 (by omega) s (a % 64) bt) rfl ?_
 rintro e w9 ⟨_, rfl, (⟨e2, rfl, he2, hbad, hS9⟩ | ⟨r, pg, hs, rfl, ha, hS9⟩)⟩
 ·refine ⟨_, rfl, ?_⟩
  replace hS9 := hS9.join rfl; dsimp only [QU, QT, Q8, Q7] at hS9; clear hC9
  clear hS7
  refine Qe rfl rfl (Qf (Qc ?_))
  refine Qh (L' := [(16, _), (12, _), (11, _), (10, _), (0, _), (1, _)]) (Wf rfl rfl rfl rfl rfl rfl) ?_
  refine Qd (Qa (Qb rfl rfl ?_))
  refine Xh rfl rfl rfl ?_
  refine Qf (Qc ?_)
  refine Qx rfl (fun h10 => ?_) (fun h10 => ?_)
  ·refine Qd (Qa (Qb rfl rfl (Qe rfl rfl (Qf (Qc (Q0 (Qs ?_)))))))
   refine QV (.inr rfl) rfl rfl ?_
   exact ⟨_, rfl, L1, V1, e2, rfl, hO.step hI, .inr ⟨he2, hOI.2.1, hOI.tight_set he (by omega) hbad⟩, (Xx (m := n + 5) (by omega) (hS9.pick [0, 1, 3] rfl)).reorder [1, 0, 2] rfl⟩
  exact absurd (Decidable.not_not.1 h10) he2
 refine ⟨_, rfl, ?_⟩
 replace hS9 := hS9.join rfl; dsimp only [QU, QT, Q8, Q7] at hS9; clear hC9
 clear hS7
 refine Qe rfl rfl (Qf (Qc ?_))
 refine Qh (L' := [(16, _), (12, _), (11, _), (10, _), (0, _), (1, _)]) (Wf rfl rfl rfl rfl rfl rfl) ?_
 refine Qd (Qa (Qb rfl rfl ?_))
 refine Xh rfl rfl rfl ?_
 refine Qf (Qc ?_)
 refine Qx rfl (fun h11 => ?_) (fun h11 => ?_)
 ·exact absurd rfl h11
 refine Qy (Qc (Qd (Qd (Qa (Qb rfl rfl ?_)))))
 refine Xh rfl rfl rfl ?_
 refine Qf (Qc ?_)
 refine Qx rfl (fun h12 => ?_) (fun h12 => ?_)
 ·exact absurd rfl h12
 refine Qy (Qc (Qd (Qa (Qe rfl rfl (Qf (Qc (Q0 ?_)))))))
 refine QV (.inr rfl) rfl rfl ?_
 subst he
 have hfin := P3 (b := bt) hO hI hs (by omega : 0 ≤ a % 64 ∧ a % 64 < 64)
 exact ⟨_, rfl, L1, _, 0, rfl, hfin.1, .inl ⟨rfl, hfin.2⟩, (Xx (m := n + 5) (by omega) (hS9.pick [0, 1, 3] rfl)).reorder [1, 0, 2] rfl⟩
set_option maxRecDepth 100000 in
set_option maxHeartbeats 800000000 in
theorem Pt {w : World} {m : Nat} {b n Fr : Nat} {L : LvD} {V : VS} {F : Th} (hS : Sat w [ZV b L, Zv L.sp n Fr V, F]) (hn : n ≤ 600000000) (ob : Bs) (a : Int) (bt : UInt8) (hI : LvI m L V) (hm : m < Z9) {id : Int} {t : TrD} (ht : L.tr id = some t) (hr : 0 ≤ a ∧ a < 16384) :
    Calls Tryz.prog 10 #[ptrV b 0, intV id, strV ob, intV a, WA bt] w (Ret fun v w' => ∃ L' V' e, v = intV e ∧ StepI m L V m 1 1 L' V' ∧ ((e = 0 ∧ Q5 L' V' = Zt (Q5 L V) id (ob, a / 64) (wrX (Zb (Q5 L V) id (ob, a / 64)) (a % 64) bt)) ∨ (e ≠ 0 ∧ Q5 L' V' = Zt (Q5 L V) id (ob, a / 64) (Zb (Q5 L V) id (ob, a / 64)) ∧ B8 V Fr)) ∧ Sat w' [ZV b L', Zv L'.sp (n + 5) Fr V', F]) := by
 have h0 : id ≠ 0 := hI.rank.none0 ht
 refine Qt Tryz.func10 rfl Tryz.ntmps10 rfl ?_
 refine Qd (Qa (Qe rfl rfl (Qf (Qc (Qd (Qa (Qb rfl rfl (Qb rfl rfl ?_))))))))
 have hC1 := hS.split [] [false, false, false] rfl; dsimp only [QC, Qz, Q9, Q8, Q7] at hC1
 refine Qo Dh rfl (Vl hC1 ob a) rfl ?_
 rintro e w1 ⟨_, rfl, rfl, hS1⟩; refine ⟨_, rfl, ?_⟩
 replace hS1 := hS1.join rfl; dsimp only [QU, QT, Q8, Q7] at hS1; clear hC1
 rw [Uh hr]
 refine Qb rfl rfl (Qw rfl rfl rfl (Qw rfl rfl rfl (Qw rfl rfl rfl ?_)))
 refine Xl hS1 Wp rfl rfl ?_
 intro kb w2 hS2
 clear hS1
 refine Xa hS2 rfl rfl Xc rfl (by rfl) (i := 0) rfl (by decide) ?_
 intro w3 hS3; dsimp only [List.set] at hS3
 clear hS2
 replace hS3 := XR (k := (ob, a / 64)) hS3
 refine Qe rfl rfl (Qe rfl rfl (Qf (Qc ?_)))
 refine Qh (L' := [(13, _), (12, _), (11, _), (10, _), (0, _), (1, _), (3, _), (4, _)]) (WT rfl rfl rfl rfl rfl rfl rfl rfl) ?_
 refine Qd (Q1 (Qd (Qa (Qb rfl rfl (Qb rfl rfl ?_)))))
 have hC4 := hS3.split [1] [false, true, false, false] rfl; dsimp only [QC, Qz, Q9, Q8, Q7] at hC4
 refine Qo UU rfl (Ym hC4 id) rfl ?_
 rintro e w4 ⟨_, rfl, rfl, hS4⟩; refine ⟨_, rfl, ?_⟩
 replace hS4 := hS4.join rfl; dsimp only [QU, QT, Q8, Q7] at hS4; clear hC4
 clear hS3
 refine QS rfl rfl ?_
 refine Qe rfl rfl (Qf (Qc ?_))
 refine Qh (L' := [(24, _), (13, _), (12, _), (11, _), (10, _), (0, _), (1, _), (3, _), (4, _)]) (G6 rfl rfl rfl rfl rfl rfl rfl rfl rfl) ?_
 refine QR rfl (fun h5 => ?_) (fun h5 => ?_)
 ·exact absurd h5 (by simp [ZY, ht])
 refine Qd (Qa (Qb rfl rfl ?_))
 refine QS rfl rfl ?_
 refine Qe rfl rfl (Qf (Qc ?_))
 refine Qh (L' := [(29, _), (12, _), (11, _), (10, _), (0, _), (1, _), (3, _), (4, _)]) (WT rfl rfl rfl rfl rfl rfl rfl rfl) ?_
 refine QR rfl (fun h6 => ?_) (fun h6 => ?_)
 ·exact absurd h6 (by decide)
 refine Qy (Qp (Qc (Qd (Qa (Qb rfl rfl (Qb rfl rfl ?_))))))
 refine XX rfl XB Xc (by first | exact hS4.blk 1 rfl) (by exact Nat.le_of_ble_eq_true rfl) rfl rfl ?_
 have hC7 := hS4.split [0, 2] [true, false, true, false] rfl; dsimp only [QC, Qz, Q9, Q8, Q7] at hC7
 refine Qo SO rfl (ownT_sp hC7 (by omega) (hI.rank.ends hm) ht (k := (ob, a / 64)) h0 (hI.aliveS id (ob, a / 64))) rfl ?_
 rintro e w7 ⟨_, rfl, L1, V1, t1, x1, L2, V2, s, e, rfl, hT, hO, hS7⟩; refine ⟨_, rfl, ?_⟩
 replace hS7 := hS7.join rfl; dsimp only [QU, QT, Q8, Q7] at hS7; clear hC7
 clear hS4
 have hW := DG hT ht hI hO
 refine Qb rfl rfl (Qw rfl rfl rfl (Qw rfl rfl rfl (Qe rfl rfl (Qe rfl rfl (Qf (Qc ?_))))))
 refine Qh (L' := [(15, _), (14, _), (12, _), (11, _), (10, _), (0, _), (1, _), (3, _), (4, _)]) (G6 rfl rfl rfl rfl rfl rfl rfl rfl rfl) ?_
 refine Qd (Qd (Qa (Qb rfl rfl ?_)))
 refine Xh rfl rfl rfl ?_
 refine Qf (Qc ?_)
 refine Qx rfl (fun h8 => ?_) (fun h8 => ?_)
 ·have he : e ≠ 0 := h8
  refine Qd (Qa (Qb rfl rfl (Qe rfl rfl (Qf (Qc ?_)))))
  refine Qh (L' := [(10, _), (14, _), (12, _), (11, _), (0, _), (1, _), (3, _), (4, _)]) (WT rfl rfl rfl rfl rfl rfl rfl rfl) ?_
  refine Q0 (Qs ?_)
  refine QV (.inr rfl) rfl rfl ?_
  exact ⟨_, rfl, L2, V2, e, rfl, hW.1, .inr ⟨he, hW.2.2.1, hW.2.2.2 (hW.2.1.tight_own he)⟩, (Xx (m := n + 5) (by omega) (hS7.pick [1, 0, 3] rfl)).reorder [1, 0, 2] rfl⟩
 have he : e = 0 := Decidable.not_not.1 h8
 refine Qy (Qc ?_)
 refine Qh (L' := [(14, _), (12, _), (11, _), (10, _), (0, _), (1, _), (3, _), (4, _)]) (WT rfl rfl rfl rfl rfl rfl rfl rfl) ?_
 refine Qd (Qd (Qa (Qb rfl rfl (Qj rfl rfl ?_))))
 refine Qg rfl XK rfl ?_
 refine Qu rfl Xe (YH hS7 0 rfl) rfl ?_
 refine Qb rfl rfl (Qb rfl rfl ?_)
 refine NW rfl rfl (by omega) (by omega) rfl ?_
 refine Qb rfl rfl ?_
 have hC9 := hS7.split [1] [false, true, false, false] rfl; dsimp only [QC, Qz, Q9, Q8, Q7] at hC9
 refine Qo SN rfl (stSet hC9 (by omega) s (a % 64) bt) rfl ?_
 rintro e w9 ⟨_, rfl, (⟨e2, rfl, he2, hbad, hS9⟩ | ⟨r, pg, hs, rfl, ha, hS9⟩)⟩
 ·refine ⟨_, rfl, ?_⟩
  replace hS9 := hS9.join rfl; dsimp only [QU, QT, Q8, Q7] at hS9; clear hC9
  clear hS7
  refine Qe rfl rfl (Qf (Qc ?_))
  refine Qh (L' := [(16, _), (12, _), (11, _), (10, _), (0, _), (1, _)]) (Wf rfl rfl rfl rfl rfl rfl) ?_
  refine Qd (Qa (Qb rfl rfl ?_))
  refine Xh rfl rfl rfl ?_
  refine Qf (Qc ?_)
  refine Qx rfl (fun h10 => ?_) (fun h10 => ?_)
  ·refine Qd (Qa (Qb rfl rfl (Qe rfl rfl (Qf (Qc (Q0 (Qs ?_)))))))
   refine QV (.inr rfl) rfl rfl ?_
   exact ⟨_, rfl, L2, V2, e2, rfl, hW.1, .inr ⟨he2, hW.2.2.1, hW.2.2.2 (hW.2.1.tight_set he (by omega) hbad)⟩, (Xx (m := n + 5) (by omega) (hS9.pick [0, 1, 3] rfl)).reorder [1, 0, 2] rfl⟩
  exact absurd (Decidable.not_not.1 h10) he2
 refine ⟨_, rfl, ?_⟩
 replace hS9 := hS9.join rfl; dsimp only [QU, QT, Q8, Q7] at hS9; clear hC9
 clear hS7
 refine Qe rfl rfl (Qf (Qc ?_))
 refine Qh (L' := [(16, _), (12, _), (11, _), (10, _), (0, _), (1, _)]) (Wf rfl rfl rfl rfl rfl rfl) ?_
 refine Qd (Qa (Qb rfl rfl ?_))
 refine Xh rfl rfl rfl ?_
 refine Qf (Qc ?_)
 refine Qx rfl (fun h11 => ?_) (fun h11 => ?_)
 ·exact absurd rfl h11
 refine Qy (Qc (Qd (Qd (Qa (Qb rfl rfl ?_)))))
 refine Xh rfl rfl rfl ?_
 refine Qf (Qc ?_)
 refine Qx rfl (fun h12 => ?_) (fun h12 => ?_)
 ·obtain ⟨t2, x2, ht2, hx2, _⟩ := hO.leaf (hT.tr ht) hT.lv
  have hS13 := JO ht2 hx2 (hS9.pick [1, 0, 2, 3] rfl)
  have hS14 := hS13.drew
  refine QK [0, 1, 2, 3, 4, 5, 6, 7, 8, 9, 10, 11, 12, 13, 14, 15, 16, 17, 18] [18] ZT (by kernel_rfl) ?_
  refine Qk rfl rfl rfl (fun _ => (Qr rfl)) ?_
  refine Qk rfl rfl rfl (fun _ => (Qq rfl)) ?_
  refine Qk rfl rfl rfl (fun _ => (Qi rfl Wz)) ?_
  refine QF rfl rfl rfl (Qm rfl YD (by exact hS14.cell 6 rfl rfl)) ?_
  refine Qk rfl rfl rfl (fun _ => (Qr rfl)) ?_
  refine QF rfl rfl rfl (Xz (k := id) 8 hS14 keysInt Tryz.underlying82 rfl rfl rfl H1 (u := ptrV t2.ad 0) (Zs ht2)) ?_
  refine Qk rfl rfl rfl (fun _ => (Qq rfl)) ?_
  refine Qk rfl rfl rfl (fun _ => (Qi rfl ZN)) ?_
  refine QF rfl rfl rfl (Qm rfl Jq (by exact hS14.cell 2 rfl rfl)) ?_
  refine QF rfl rfl rfl (X9 rfl XB Xc (by exact hS14.blk 11 rfl) (by exact Nat.le_of_ble_eq_true rfl) rfl) ?_
  refine QF rfl rfl rfl (Xz (k := (ob, a / 64)) 3 hS14 keysKey Tryz.underlying90 rfl rfl rfl Hz (u := ptrV x2.ad 0) (Zs hx2)) ?_
  refine Qk rfl rfl rfl (fun _ => (Qq rfl)) ?_
  refine Qk rfl rfl rfl (fun _ => (Qi rfl Wn)) ?_
  refine QF rfl rfl rfl (Qm rfl JB (by exact hS14.cell 0 rfl rfl)) ?_
  refine Qk rfl rfl rfl (fun _ => (Qr rfl)) ?_
  refine Qk rfl rfl rfl (fun _ => (Rn rfl rfl)) ?_
  refine Qk rfl rfl rfl (fun _ => (Qq rfl)) ?_
  refine Qk rfl rfl rfl (fun _ => (Qi rfl Wn)) ?_
  refine Xn rfl rfl rfl rfl rfl rfl ?_
  refine Xb hS14 rfl rfl GZ rfl (i := 0) rfl (by exact Nat.le_of_ble_eq_true rfl) ?_
  intro w15 hS15; dsimp only [List.set] at hS15
  clear hS14
  refine Zi (.skip (by kernel_rfl) (.skip (by kernel_rfl) (.skip (by kernel_rfl) (.skip (by kernel_rfl) (.skip (by kernel_rfl) (.skip (by kernel_rfl) .nil)))))) ?_
  refine VC.nil (Qc ?_)
  refine Qh (L' := [(10, _)]) (Hd rfl) ?_
  refine Qd (Qa (Qe rfl rfl (Qf (Qc (Q0 ?_)))))
  refine QV (.inr rfl) rfl rfl ?_
  have hS16 := WD (L := _) (y := { x2 with wr := x2.wr ||| (1#64 <<< (a % 64).toNat) }) ht2 hx2 rfl (hS15.pick [0, 1, 2, 3, 4, 5, 6, 7, 8, 9, 10, 11, 12] rfl)
  subst he
  have hfin := P1 (b := bt) hT ht hI hO ht2 hx2 hs (by omega : 0 ≤ a % 64 ∧ a % 64 < 64)
  exact ⟨_, rfl, _, _, 0, rfl, hfin.1, .inl ⟨rfl, hfin.2⟩, (Xx (m := n + 5) (by omega) (hS16.pick [1, 0, 3] rfl)).reorder [1, 0, 2] rfl⟩
 exact absurd (Decidable.not_not.1 h12) h0
end Go.Proofs.YtkcjfoaejijdoaaGreatDoor
/- leaves: Byte, Begin, Sheet -/
namespace Go.Proofs.YtkcjfoaejijdoaaGreatDoor
open Go.RowKit M
set_option linter.unusedVariables false
section
variable {L L1 L' : LvD} {V V1 V' : VS} {id : Int} {t t1 t' : TrD} {k : KD} {x y x1 : LfD} {m Fr : Nat} {a : Int}
/-- the sets of a leaf are changed -/
theorem P9 (hI : LvI m L V) (ht : L.tr id = some t) (hx : t.lv k = some x) (hb : y.base = x.base) (ho : y.own = x.own) (hg : NR (ZG V y)) :
    LvI m (Zj L id t k y) V ∧ Q5 (Zj L id t k y) V = Zt (Q5 L V) id k (ZG V y) := by
  generalize hL' : Zj L id t k y = L'
  have hP : L'.pres = L.pres := by subst hL'; rfl
  have hT : L'.tr = Xj L.tr id (some { t with lv := Xj t.lv k (some y) }) := by subst hL'; rfl
  have hf : ∀ q, Xf L' q = Xf L q := fun q => by
    rw [Ye (x := y) hP hT ht rfl, hb, ho]
    rw [Yj (f := Xf L) (v := x.base) (by rw [X3 ht hx]; rfl), Yj (by rw [X3 ht hx]; rfl)]
  have e1 : Q5 L' V = Zt (Q5 L V) id k (ZG V y) := J1 hP hT ht rfl fun _ _ _ => rfl
  exact ⟨⟨hI.ref.fn hf, by rw [hT]; exact hI.rank.same (Wk ht rfl), by rw [e1]; exact hI.agree.put hg⟩, e1⟩
theorem TouR.step (hT : TouR L V id t k L1 V1 t1 x1) (ht : L.tr id = some t) (hI : LvI m L V) : StepI m L V m 0 1 L1 V1 := by
  obtain ⟨h1, h2, h3, h4, h5⟩ := hT.inv ht hI
  exact ⟨h1, hT.sp, fun c q => (h4 c q).mono (by omega), fun c q => hT.sz ht q⟩
/-- after touch the sets of the leaf are changed -/
theorem Pd (hT : TouR L V id t k L1 V1 t1 x1) (ht : L.tr id = some t) (hI : LvI m L V) {rd wr : BitVec 64} (hw : ∀ j, j < 64 → wr.getLsbD j = false → x1.wr.getLsbD j = false) :
    StepI m L V m 0 1 (Zj L1 id t1 k { x1 with rd := rd, wr := wr }) V1 ∧ Q5 (Zj L1 id t1 k { x1 with rd := rd, wr := wr }) V1 = Zt (Q5 L V) id k { Zb (Q5 L V) id k with rd := rd, wr := wr } := by
  obtain ⟨h1, h2, h3, h4, h5⟩ := hT.inv ht hI
  obtain ⟨a1, a2⟩ := P9 (y := { x1 with rd := rd, wr := wr }) h1 (hT.tr ht) hT.lv rfl rfl (fun j hj h => (h1.agree id _ k _ (Zr (hT.tr ht)) (Zq hT.lv)) j hj (hw j hj h))
  refine ⟨⟨a1, hT.sp, fun c q => (h4 c q).mono (by omega), fun c q => (hT.sz ht q).putOld (hT.tr ht) hT.lv rfl rfl⟩, ?_⟩
  rw [a2, h3, Ue]
  congr 1
  rw [← h2]; rfl
/-- the leaf after a read -/
def rdX (x : LfA) (a : Int) : LfA := { x with rd := x.rd ||| ((1#64 <<< a.toNat) &&& ~~~x.wr) }
def btA (c : Bs) (a : Int) : UInt8 := c.getD a.toNat 0
theorem ST {s : Int} (ha : 0 ≤ a ∧ a < 64) : btV V s a = btA (XM V s) a := by unfold btV btA; rw [if_pos ha]
theorem NG (hT : TouR L V id t k L1 V1 t1 x1) (ht : L.tr id = some t) (hI : LvI m L V) (ha : 0 ≤ a ∧ a < 64) :
    StepI m L V m 0 1 (Zj L1 id t1 k { x1 with rd := x1.rd ||| ((1#64 <<< a.toNat) &&& ~~~x1.wr) }) V1 ∧ Q5 (Zj L1 id t1 k { x1 with rd := x1.rd ||| ((1#64 <<< a.toNat) &&& ~~~x1.wr) }) V1 = Zt (Q5 L V) id k (rdX (Zb (Q5 L V) id k) a) ∧ btV V1 x1.own a = btA (Zb (Q5 L V) id k).own a := by
  obtain ⟨h1, h2, h3, h4, h5⟩ := hT.inv ht hI
  obtain ⟨a1, a2⟩ := Pd hT ht hI (rd := x1.rd ||| ((1#64 <<< a.toNat) &&& ~~~x1.wr)) (wr := x1.wr) fun _ _ h => h
  have e : x1.wr = (Zb (Q5 L V) id k).wr := by rw [← h2]; rfl
  have e2 : x1.rd = (Zb (Q5 L V) id k).rd := by rw [← h2]; rfl
  refine ⟨a1, ?_, by rw [ST ha, ← h2]; rfl⟩
  rw [a2, e, e2]; rfl
theorem RankI.beg {T : Int → Option TrD} (h : RankI T m) {i p : Int} {u : TrD} (hi : 1 ≤ i) (hn : T i = none) (hp : u.parent = 0 ∨ T u.parent ≠ none) : RankI (Xj T i (some u)) (m + 1) := by
  obtain ⟨h0, r, a, b⟩ := h
  refine ⟨by rw [QI (by omega)]; exact h0, HW r i (r u.parent + 1), fun j => ?_, fun j v hj => ?_⟩
  · by_cases e : j = i
    · subst e; rw [X7]; have := a u.parent; omega
    · rw [XL e]; have := a j; omega
  · have hsome : ∀ q, T q ≠ none → Xj T i (some u) q ≠ none ∧ q ≠ i := fun q hq => by
      have : q ≠ i := fun e => hq (e ▸ hn)
      exact ⟨by rw [QI this]; exact hq, this⟩
    by_cases e : j = i
    · subst e
      rw [Q3] at hj
      cases hj
      rcases hp with hp | hp
      · exact .inl hp
      · obtain ⟨h1, h2⟩ := hsome _ hp
        exact .inr ⟨h1, by rw [X7, XL h2]; omega⟩
    · rw [QI e] at hj
      rcases b j v hj with h1 | ⟨h1, h2⟩
      · exact .inl h1
      · obtain ⟨h3, h4⟩ := hsome _ h1
        exact .inr ⟨h3, by rw [XL e, XL h4]; exact h2⟩
def MI (A : LvA) (id parent : Int) : Int := if id < 1 then 1 else if (A.tr id).isSome = true then 5 else if BD A parent = false then 4 else 0
noncomputable def MJ (A : LvA) (id parent : Int) : LvA := if MI A id parent = 0 then { A with tr := Xj A.tr id (some ⟨parent, fun _ => none, fun _ => false⟩) } else A
theorem MH {parent : Int} : MI (Q5 L V) id parent = WJ L id parent := by unfold MI WJ; rw [CL]; simp [Q5]
theorem beg_fin (hI : LvI m L V) {parent : Int} {ad ml md : Nat} : StepI m L V (m + 1) 0 0 (MG L id parent ad ml md) V ∧ Q5 (MG L id parent ad ml md) V = MJ (Q5 L V) id parent := by
  unfold MJ
  rw [MH]
  unfold MG
  by_cases he : WJ L id parent = 0
  · rw [if_pos he, if_pos he]
    have h1 : ¬ id < 1 := fun q => by unfold WJ at he; rw [if_pos q] at he; omega
    have h2 : L.tr id = none := by
      unfold WJ at he; rw [if_neg h1] at he
      cases q : L.tr id with
      | none => rfl
      | some u => rw [q] at he; simp at he
    have h3 : ZY L parent = true := by
      unfold WJ at he; rw [if_neg h1, h2] at he
      cases q : ZY L parent with
      | true => rfl
      | false => rw [q] at he; simp at he
    have h4 : parent = 0 ∨ L.tr parent ≠ none := by
      unfold ZY at h3
      simp only [Bool.or_eq_true, decide_eq_true_eq] at h3
      exact h3.imp_right fun q e => by rw [e] at q; cases q
    generalize hL' : ({ L with tr := Xj L.tr id (some ⟨ad, ml, md, parent, fun _ => none, fun _ => false⟩) } : LvD) = L'
    have hP : L'.pres = L.pres := by subst hL'; rfl
    have hT : L'.tr = Xj L.tr id (some ⟨ad, ml, md, parent, fun _ => none, fun _ => false⟩) := by subst hL'; rfl
    have hf : ∀ q, Xf L' q = Xf L q := fun q => by
      cases q with
      | inl j => simp [Xf, hP]
      | inr q =>
        obtain ⟨i, j, o⟩ := q
        simp only [Xf, hT]
        by_cases e : i = id
        · subst e; rw [Q3, h2]
        · rw [QI e]
    have e1 : Q5 L' V = { Q5 L V with tr := Xj (Q5 L V).tr id (some ⟨parent, fun _ => none, fun _ => false⟩) } := by
      unfold Q5
      rw [hP, hT]
      congr 1
      funext i
      by_cases e : i = id
      · subst e; rw [Q3, Q3]; rfl
      · rw [QI e, QI e]
    refine ⟨⟨⟨hI.ref.fn hf, by rw [hT]; exact hI.rank.beg (p := parent) (by omega) h2 h4, ?_⟩, by subst hL'; rfl, fun _ q => q, fun c q => ?_⟩, e1⟩
    · rw [e1]
      intro i u k x hi hk
      dsimp only at hi
      by_cases e : i = id
      · subst e; rw [Q3] at hi; cases hi; cases hk
      · rw [QI e] at hi; exact hI.agree i u k x hi hk
    · obtain ⟨l, a, b, d⟩ := q
      refine ⟨l, a, fun k hk => b k (by rwa [hP] at hk), fun j u k x hj hk => ?_⟩
      rw [hT] at hj
      by_cases e : j = id
      · subst e; rw [Q3] at hj; cases hj; cases hk
      · rw [QI e] at hj; exact d j u k x hj hk
  · rw [if_neg he, if_neg he]
    exact ⟨⟨⟨hI.ref, (by obtain ⟨h0, r, a, b⟩ := hI.rank; exact ⟨h0, r, fun i => Nat.le_succ_of_le (a i), b⟩), hI.agree⟩, rfl, fun _ q => q, fun _ q => q⟩, rfl⟩
/-- what Sheet gives -/
def TZ (L : LvD) (id : Int) (k : KD) : Bool := match L.tr id with | none => false | some t => (t.lv k).isSome
def GD (L : LvD) (V : VS) (id : Int) (k : KD) : Bool := decide (Xo L id k ≠ 0) && (decide (Za V (Xo L id k) = 1) && (decide (id = 0) || TZ L id k))
def Ub (L : LvD) (id page : Int) : Bool := decide (0 ≤ page ∧ page < 256) && ZY L id
end
theorem NH {w : World} {m : Nat} {b n Fr : Nat} {L : LvD} {V : VS} {F : Th} (hS : Sat w [ZV b L, Zv L.sp n Fr V, F]) (hn : n ≤ 600000000) (ob : Bs) (a : Int) (hI : LvI m L V) (hm : m < Z9) {id : Int} {t : TrD} (ht : L.tr id = some t) (hr : 0 ≤ a ∧ a < 16384) :
    Calls Tryz.prog 12 #[ptrV b 0, intV id, strV ob, intV a] w (Ret fun v w' => ∃ L' V', v = WA (btA (Zb (Q5 L V) id (ob, a / 64)).own (a % 64)) ∧ StepI m L V m 0 1 L' V' ∧ Q5 L' V' = Zt (Q5 L V) id (ob, a / 64) (rdX (Zb (Q5 L V) id (ob, a / 64)) (a % 64)) ∧ Sat w' [ZV b L', Zv L'.sp (n + 2) Fr V', F]) := by
  refine (SQ hS hn (hI.rank.ends hm) ht (hI.rank.none0 ht) ob a hr).mono fun e w h => h.mono fun v w h => ?_
  obtain ⟨L1, V1, t1, x1, hT, rfl, h⟩ := h
  obtain ⟨h1, h2, h3⟩ := NG hT ht hI (by omega : 0 ≤ a % 64 ∧ a % 64 < 64)
  exact ⟨_, _, by rw [h3], h1, h2, h⟩
theorem NI {w : World} {m : Nat} {b n Fr : Nat} {L : LvD} {V : VS} {F : Th} (hS : Sat w [ZV b L, Zv L.sp n Fr V, F]) (hn : n ≤ 600000000) (ob : Bs) (a : Int) (hI : LvI m L V) (hm : m < Z9) (hr : 0 ≤ a ∧ a < 16384) :
    Calls Tryz.prog 12 #[ptrV b 0, intV 0, strV ob, intV a] w (Ret fun v w' => v = WA (btA ((Q5 L V).pres (ob, a / 64)) (a % 64)) ∧ Sat w' [ZV b L, Zv L.sp n Fr V, F]) := by
  refine (SR hS hn ob a (hI.rank.ends hm) hr).mono fun e w h => h.mono fun v w h => ?_
  exact ⟨by rw [h.1, ST (by omega)]; rfl, h.2⟩
theorem begI_sp {w : World} {m b n Fr : Nat} {L : LvD} {V : VS} {F : Th} (hS : Sat w [ZV b L, Zv L.sp n Fr V, F]) (hI : LvI m L V) (id parent : Int) :
    Calls Tryz.prog 11 #[ptrV b 0, intV id, intV parent] w (Ret fun v w' => ∃ L', v = intV (MI (Q5 L V) id parent) ∧ StepI m L V (m + 1) 0 0 L' V ∧ Q5 L' V = MJ (Q5 L V) id parent ∧ Sat w' [ZV b L', Zv L'.sp n Fr V, F]) := by
  refine (SY (hS.split [0] [true, false, false] rfl) id parent).mono fun e w h => h.mono fun v w h => ?_
  obtain ⟨rfl, ad, ml, md, h⟩ := h
  have h1 := h.join rfl
  obtain ⟨h2, h3⟩ := beg_fin (id := id) (parent := parent) (ad := ad) (ml := ml) (md := md) hI
  refine ⟨_, by rw [MH], h2, h3, ?_⟩
  rw [h2.sp]; exact h1
set_option maxRecDepth 100000 in
theorem Bc {w : World} {b n Fr : Nat} {L : LvD} {V : VS} {F : Th} (hS : Sat w [ZV b L, Zv L.sp n Fr V, F]) (hE : ∀ i, JI L.tr Z9 i) (ob : Bs) (page : Int) (hok : Ub L 0 page = true) :
    Calls Tryz.prog 33 #[ptrV b 0, intV 0, strV ob, intV page] w (Ret fun v w' => v = .tuple #[intV (Xo L 0 (ob, page)), .bool (GD L V 0 (ob, page))] ∧ Sat w' [ZV b L, Zv L.sp n Fr V, F]) := by
 refine Qt Tryz.func33 rfl Tryz.ntmps33 rfl ?_
 refine Qd (Qa (Qe rfl rfl (Qe rfl rfl (Qf (Qc (Qd (Qd (Qa (Qb rfl rfl ?_)))))))))
 refine Xt rfl rfl rfl ?_
 refine Qb rfl rfl ?_
 refine Xk 14 rfl (fun h1 => ?_) (fun h1 => ?_)
 ·exact absurd hok (by unfold Ub; rw [decide_eq_false (by omega : ¬ (0 ≤ page ∧ page < 256))]; simp)
 refine Qn rfl rfl (decide_eq_false h1) ?_
 refine Qb rfl rfl ?_
 refine Qn rfl rfl (decide_eq_false h1) ?_
 refine JE rfl rfl rfl ?_
 refine QX rfl (decide_eq_false h1) rfl rfl ?_
 refine Qb rfl rfl ?_
 refine Xk 18 rfl (fun h2 => ?_) (fun h2 => ?_)
 ·exact absurd hok (by unfold Ub; rw [decide_eq_false (by omega : ¬ (0 ≤ page ∧ page < 256))]; simp)
 refine Qn rfl rfl (decide_eq_false h2) ?_
 refine Qb rfl rfl ?_
 refine Qn rfl rfl (decide_eq_false h2) ?_
 refine Qb rfl rfl ?_
 refine Qn rfl rfl (decide_eq_false h2) ?_
 have hC3 := hS.split [0] [true, false, false] rfl; dsimp only [QC, Qz, Q9, Q8, Q7] at hC3
 refine Qo UU rfl (Ym hC3 0) rfl ?_
 rintro e w3 ⟨_, rfl, rfl, hS3⟩; refine ⟨_, rfl, ?_⟩
 replace hS3 := hS3.join rfl; dsimp only [QU, QT, Q8, Q7] at hS3; clear hC3
 refine Qn rfl rfl (decide_eq_false h2) ?_
 refine QS rfl rfl ?_
 refine QX rfl (decide_eq_false h2) rfl rfl ?_
 refine Qf (Qc ?_)
 refine Qh (L' := [(23, _), (9, _), (8, _), (0, _), (1, _), (2, _), (3, _)]) (WK rfl rfl rfl rfl rfl rfl rfl) ?_
 refine QR rfl (fun h4 => ?_) (fun h4 => ?_)
 ·exact absurd hok (by unfold Ub; simp at h4; simp [h4])
 refine Qy (Qc (Qd (Qa (Qb rfl rfl (Qb rfl rfl ?_)))))
 refine Zy rfl Ui K5 Wp rfl rfl ?_
 refine Xl hS3 Wp rfl rfl ?_
 intro kb w5 hS5
 clear hS3
 refine Xa hS5 rfl rfl Xc rfl (by rfl) (i := 0) rfl (by decide) ?_
 intro w6 hS6; dsimp only [List.set] at hS6
 clear hS5
 replace hS6 := XR (k := (ob, page)) hS6
 refine Qf (Qc ?_)
 refine Qh (L' := [(10, _), (9, _), (8, _), (0, _), (1, _)]) (ZH rfl rfl rfl rfl rfl) ?_
 refine Qd (Qa (Qb rfl rfl (Qb rfl rfl ?_)))
 refine XX rfl XB Xc (by first | exact hS6.blk 0 rfl) (by exact Nat.le_of_ble_eq_true rfl) rfl rfl ?_
 have hC7 := hS6.split [1] [false, true, false, false] rfl; dsimp only [QC, Qz, Q9, Q8, Q7] at hC7
 refine Qo Ht rfl (Hk hC7 hE 0 (ob, page)) rfl ?_
 rintro e w7 ⟨_, rfl, rfl, hS7⟩; refine ⟨_, rfl, ?_⟩
 replace hS7 := hS7.join rfl; dsimp only [QU, QT, Q8, Q7] at hS7; clear hC7
 clear hS6
 refine Qe rfl rfl (Qf (Qc (Qd ?_)))
 have hS8 := XQ (hS7.pick [0, 1, 2, 3] rfl)
 have hS9 := hS8.drew
 refine QK [0, 1, 2, 3, 4, 5, 6, 7, 8, 9, 10, 11, 12, 13, 14, 15, 16, 17, 18, 19, 20, 21, 22, 23, 24, 25, 26, 27, 28, 29, 30, 31] [9] ZT (by kernel_rfl) ?_
 refine Qk rfl rfl rfl (fun _ => (Qr rfl)) ?_
 refine Qk rfl rfl rfl (fun _ => (Qr rfl)) ?_
 refine Qk rfl rfl rfl (fun _ => (BW rfl rfl)) ?_
 refine Qk rfl rfl rfl (fun _ => (Qr rfl)) ?_
 refine YL 34 rfl (fun h10 => ?_) (fun h10 => ?_)
 ·refine Qk rfl rfl (Xy rfl rfl (decide_eq_true h10)) (fun _ => (Ev.gd (Qr rfl))) ?_
  refine Qk rfl rfl (Xy rfl rfl (decide_eq_true h10)) (fun _ => (Ev.gd (Qq rfl))) ?_
  refine Qk rfl rfl (Xy rfl rfl (decide_eq_true h10)) (fun _ => (Ev.gd (Qi rfl XK))) ?_
  refine QF rfl rfl (Xy rfl rfl (decide_eq_true h10)) (Ev.gd (Qm rfl Xe (by exact hS9.cell 0 rfl rfl))) ?_
  refine Qk rfl rfl (Xy rfl rfl (decide_eq_true h10)) (fun _ => (Ev.gd (Qr rfl))) ?_
  refine Xn rfl rfl (Xy rfl rfl (decide_eq_true h10)) rfl rfl rfl ?_
  have hC11 := hS9.split [6] [false, false, false, false, false, false, true, false] rfl; dsimp only [QC, Qz, Q9, Q8, Q7] at hC11
  refine Qo Di rfl (BG hC11 (Xo L 0 (ob, page))) rfl ?_
  rintro e w11 ⟨_, rfl, rfl, hS11⟩; refine ⟨_, rfl, ?_⟩
  replace hS11 := hS11.join rfl; dsimp only [QU, QT, Q8, Q7] at hS11; clear hC11
  clear hS9
  refine XJ (.skip (by kernel_rfl) .nil) ?_
  refine Qk rfl rfl (Xy rfl rfl (decide_eq_true h10)) (fun _ => (Ev.gd (Gh rfl rfl))) ?_
  refine Qk rfl rfl rfl (fun _ => (HI rfl (decide_eq_true h10) rfl)) ?_
  refine Qk rfl rfl rfl (fun _ => (Qr rfl)) ?_
  refine YL 43 rfl (fun h12 => ?_) (fun h12 => ?_)
  ·refine Qk rfl rfl (Xy rfl rfl (decide_eq_true h12)) (fun _ => (Ev.gd (Qr rfl))) ?_
   refine Qk rfl rfl (Xy rfl rfl (decide_eq_true h12)) (fun _ => (Ev.gd (Gh rfl rfl))) ?_
   refine Qk rfl rfl (Xy rfl rfl (decide_eq_true h12)) (fun _ => (Ev.gd (Qr rfl))) ?_
   refine YL 46 rfl (fun h13 => ?_) (fun h13 => ?_)
   ·refine Xi rfl rfl (Xv rfl rfl (decide_eq_true h13)) ?_
    refine Xi rfl rfl (Xv rfl rfl (decide_eq_true h13)) ?_
    refine Xi rfl rfl (Xv rfl rfl (decide_eq_true h13)) ?_
    refine Xi rfl rfl (Xv rfl rfl (decide_eq_true h13)) ?_
    refine Xi rfl rfl (Xv rfl rfl (decide_eq_true h13)) ?_
    refine Xi rfl rfl (Xv rfl rfl (decide_eq_true h13)) ?_
    refine Xi rfl rfl (Xv rfl rfl (decide_eq_true h13)) ?_
    refine Xi rfl rfl (Xv rfl rfl (decide_eq_true h13)) ?_
    refine Xi rfl rfl (Xv rfl rfl (decide_eq_true h13)) ?_
    refine Xi rfl rfl (Xv rfl rfl (decide_eq_true h13)) ?_
    refine Xi rfl rfl (Xv rfl rfl (decide_eq_true h13)) ?_
    refine Xi rfl rfl (Xv rfl rfl (decide_eq_true h13)) ?_
    refine Qk rfl rfl (Xy rfl rfl (decide_eq_true h12)) (fun _ => (Ev.gd (HI rfl (decide_eq_true h13) rfl))) ?_
    refine Qk rfl rfl rfl (fun _ => (HI rfl (decide_eq_true h12) rfl)) ?_
    refine Qk rfl rfl rfl (fun _ => (Q6 rfl)) ?_
    refine Qk rfl rfl rfl (fun _ => (Q6 rfl)) ?_
    refine VC.nil (Qc ?_)
    refine Qh (L' := [(9, _), (8, _)]) (H0 rfl rfl) ?_
    refine Q0 ?_
    refine Wo (.inr rfl) rfl rfl rfl ?_
    exact ⟨_, rfl, by simp [GD, TZ, *], QY (hS11.pick [1, 2, 3, 4, 5, 0, 7] rfl)⟩
   exact absurd rfl h13
  refine Xi rfl rfl (Xv rfl rfl (decide_eq_false h12)) ?_
  refine Xi rfl rfl (Xv rfl rfl (decide_eq_false h12)) ?_
  refine Xi rfl rfl (Xv rfl rfl (decide_eq_false h12)) ?_
  refine Xi rfl rfl (Xr rfl rfl) ?_
  refine Xi rfl rfl (Xr rfl rfl) ?_
  refine Xi rfl rfl (Xr rfl rfl) ?_
  refine Xi rfl rfl (Xr rfl rfl) ?_
  refine Xi rfl rfl (Xr rfl rfl) ?_
  refine Xi rfl rfl (Xr rfl rfl) ?_
  refine Xi rfl rfl (Xr rfl rfl) ?_
  refine Xi rfl rfl (Xr rfl rfl) ?_
  refine Xi rfl rfl (Xr rfl rfl) ?_
  refine Xi rfl rfl (Xr rfl rfl) ?_
  refine Xi rfl rfl (Xr rfl rfl) ?_
  refine Xi rfl rfl (Xr rfl rfl) ?_
  refine Xi rfl rfl (Xv rfl rfl (decide_eq_false h12)) ?_
  refine Qk rfl rfl rfl (fun _ => (YW rfl (decide_eq_false h12) rfl)) ?_
  refine Qk rfl rfl rfl (fun _ => (Q6 rfl)) ?_
  refine Qk rfl rfl rfl (fun _ => (Q6 rfl)) ?_
  refine VC.nil (Qc ?_)
  refine Qh (L' := [(9, _), (8, _)]) (H0 rfl rfl) ?_
  refine Q0 ?_
  refine Wo (.inr rfl) rfl rfl rfl ?_
  exact ⟨_, rfl, by simp [GD, TZ, *], QY (hS11.pick [1, 2, 3, 4, 5, 0, 7] rfl)⟩
 refine Xi rfl rfl (Xv rfl rfl (decide_eq_false h10)) ?_
 refine Xi rfl rfl (Xv rfl rfl (decide_eq_false h10)) ?_
 refine Xi rfl rfl (Xv rfl rfl (decide_eq_false h10)) ?_
 refine Xi rfl rfl (Xv rfl rfl (decide_eq_false h10)) ?_
 refine Xi rfl rfl (Xv rfl rfl (decide_eq_false h10)) ?_
 refine VC.spineNot rfl rfl (Xv rfl rfl (decide_eq_false h10)) ?_
 refine Xi rfl rfl (Xv rfl rfl (decide_eq_false h10)) ?_
 refine Qk rfl rfl rfl (fun _ => (YW rfl (decide_eq_false h10) rfl)) ?_
 refine Qk rfl rfl rfl (fun _ => (Qr rfl)) ?_
 refine Xi rfl rfl (Xv rfl rfl rfl) ?_
 refine Xi rfl rfl (Xv rfl rfl rfl) ?_
 refine Xi rfl rfl (Xv rfl rfl rfl) ?_
 refine Xi rfl rfl (Xr rfl rfl) ?_
 refine Xi rfl rfl (Xr rfl rfl) ?_
 refine Xi rfl rfl (Xr rfl rfl) ?_
 refine Xi rfl rfl (Xr rfl rfl) ?_
 refine Xi rfl rfl (Xr rfl rfl) ?_
 refine Xi rfl rfl (Xr rfl rfl) ?_
 refine Xi rfl rfl (Xr rfl rfl) ?_
 refine Xi rfl rfl (Xr rfl rfl) ?_
 refine Xi rfl rfl (Xr rfl rfl) ?_
 refine Xi rfl rfl (Xr rfl rfl) ?_
 refine Xi rfl rfl (Xr rfl rfl) ?_
 refine Xi rfl rfl (Xr rfl rfl) ?_
 refine Xi rfl rfl (Xv rfl rfl rfl) ?_
 refine Qk rfl rfl rfl (fun _ => (YW rfl rfl rfl)) ?_
 refine Qk rfl rfl rfl (fun _ => (Q6 rfl)) ?_
 refine Qk rfl rfl rfl (fun _ => (Q6 rfl)) ?_
 refine VC.nil (Qc ?_)
 refine Qh (L' := [(9, _), (8, _)]) (H0 rfl rfl) ?_
 refine Q0 ?_
 refine Wo (.inr rfl) rfl rfl rfl ?_
 exact ⟨_, rfl, by simp [GD, TZ, *], QY (hS9.pick [0, 1, 2, 3, 4, 6, 7] rfl)⟩
end Go.Proofs.YtkcjfoaejijdoaaGreatDoor
/-
  DERIVED: THE SHELF's CONTRACTS AT THIS DUMP, IN PLAIN WORDS (tools/lay-plain.mjs out of 'TryzTz.lean', which tools/lay-shelf.mjs wrote): THE SAME DECLARATIONS UNDER THE SAME NAMES: 'import', 'namespace', 'open', 'def', 'theorem' AND NOTHING ELSE: no command of the shelf's: FOR A HAND-IN. Each laying: the table of numbers ('.._ren') and one theorem, a field a fact of the dump's own or the kernel's comparison; each contract: ONE APPLICATION.
-/
namespace Go.Proofs
open Go.Shelf
def Tryz.tz64_ren : Go.Shelf.Ren := ⟨fun | 29 => 56 | n => n, fun | 22 => 22 | 3 => 3 | 4 => 4 | 25 => 31 | 54 => 166 | 0 => 0 | 5 => 5 | n => n, fun | 1 => 0 | n => n⟩
theorem Tryz.tz64 : Go.Proofs.Lays7.n29 Tryz.prog Tryz.tz64_ren := {
  mixed := by kernel_rfl
  f29 := Tryz.func56.trans (congrArg some (by kernel_rfl))
  t0 := Tryz.underlying0
  a0 := Tryz.isAgg0
  z0 := Tryz.sizeOf0
  v0 := Tryz.zeroValue0
  i0 := by kernel_rfl
  t3 := Tryz.underlying3
  a3 := Tryz.isAgg3
  z3 := Tryz.sizeOf3
  v3 := Tryz.zeroValue3
  i3 := by kernel_rfl
  t4 := Tryz.underlying4
  a4 := Tryz.isAgg4
  z4 := Tryz.sizeOf4
  v4 := Tryz.zeroValue4
  i4 := by kernel_rfl
  t5 := Tryz.underlying5
  a5 := Tryz.isAgg5
  z5 := Tryz.sizeOf5
  v5 := Tryz.zeroValue5
  i5 := by kernel_rfl
  t22 := Tryz.underlying22
  a22 := Tryz.isAgg22
  z22 := Tryz.sizeOf22
  v22 := Tryz.zeroValue22
  i22 := by kernel_rfl
  t25 := Tryz.underlying31
  a25 := Tryz.isAgg31
  z25 := Tryz.sizeOf31
  v25 := Tryz.zeroValue31
  i25 := by kernel_rfl
  t54 := Tryz.underlying166
  a54 := Tryz.isAgg166
  z54 := Tryz.sizeOf166
  g1 := by kernel_rfl }
end Go.Proofs
/- A walk that keeps how the world has grown. Conditions: each rule's own hypotheses. -/
namespace Go.Proofs.YtkcjfoaejijdoaaGreatDoor.M
open Go.RowKit Go.Sort
def kC : RowC (Bs × Int) := ⟨fun x => [strV x.1, intV x.2], 2, by decide, fun _ => rfl, fun _ => rfl⟩
/-! how a world has grown -/
def GrW (W w : World) : Prop := ∃ q os, w = grow (W.drewN q) os
theorem GrW.refl (W : World) : GrW W W := ⟨0, #[], by rw [grow_empty]; rfl⟩
theorem GrW.trans {W w w' : World} (h : GrW W w) (h' : GrW w w') : GrW W w' := by
  obtain ⟨q, os, rfl⟩ := h
  obtain ⟨q', os', rfl⟩ := h'
  exact ⟨q + q', os ++ os', by show grow (grow ((W.drewN q).drewN q') os) os' = _; rw [grow_grow, World.drewN_drewN]⟩
theorem GrW.drew {W : World} : GrW W W.drew := ⟨1, #[], by rw [grow_empty]; rfl⟩
theorem GrW.alloc {W : World} {o : Obj} : GrW W (W.alloc o) := ⟨0, #[o], by rw [alloc_eq_grow]; rfl⟩
section
variable {P : Program} {n : Nat} {ops : Array Oper} {Q : Exit → Act → World → Prop} {rest : List Oper} {L : Env} {w : World} {d : Nat} {ty : TypeId} {pos : String} {aft : Array Edge}
theorem KZ {t : Nat} {x : Operand} {v : Value} {As : List Th} (hS : Sat w As) (hx : look L x = some v) {cs : List Value} (hcs : v.cells.toList = cs) (hd : Nat.blt d n = true) (hk : ∀ b w', GrW w w' → Sat w' (QO b cs :: As) → wl P n ops Q rest ((d, ptrV b 0) :: L) w') : wl P n ops Q (⟨some d, .box t x, ty, pos, aft, none⟩ :: rest) L w := by
  subst hcs
  refine XI rfl hd (R := fun u w' => u = ptrV w.heap.size 0 ∧ w' = w.alloc (.cells v.cells t)) (fun a ha => ⟨_, _, .inl ?_, rfl, rfl⟩) (fun u w' ⟨e1, e2⟩ => ?_)
  · simp [execOp, ha.eval hx, Instr.box, newVar, newRow]
  · subst e1 e2
    exact hk _ _ .alloc (hS.blk_new (Blk.new' w _ t) ((Only.refl _ _).alloc _) (Nat.le_refl _))
theorem R2 {As : List Th} (hS : Sat w As) {t e size len : Nat} {z : Value} {parts : List (Nat × Operand)} {vs : List Value} (hx : Wd L (parts.map (·.2)) = some vs) (hu : P.underlying t = some (.slice e)) (hi : (P.info? e).map (fun i => (i.zero, i.size)) = some (some z, size)) (hlen : Nat.ble (len * size) 1000 = true) (hzs : z.cells.size = size)
    (hok : WI (len * size) ((parts.map (·.1)).map fun i => (i * size, size)) vs = true) (hd : Nat.blt d n = true)
    (hk : ∀ b w', GrW w w' → Sat w' (Wl (.slice (some ⟨b, 0, none⟩) len len) len size (JJ (List.replicate len z.cells.toList).flatten ((parts.map (·.1)).map fun i => (i * size, size)) vs) :: As) → wl P n ops Q rest ((d, .slice (some ⟨b, 0, none⟩) len len) :: L) w') : wl P n ops Q (⟨some d, .buildSlice t len parts.toArray, ty, pos, aft, none⟩ :: rest) L w := by
  obtain ⟨ii, hi1, hi2⟩ := Option.map_eq_some_iff.1 hi
  simp only [Prod.mk.injEq] at hi2
  have hle : len * size ≤ 1000 := Nat.le_of_ble_eq_true hlen
  have hzl : ((Array.range (len * size)).map (z.cells[· % z.cells.size]!)).toList = (List.replicate len z.cells.toList).flatten := by
    rw [← hzs]; exact WC z.cells len
  have hzsz : ((Array.range (len * size)).map (z.cells[· % z.cells.size]!)).size = len * size := by simp
  have hf := Hq (fun i => some (i * size, size)) (parts.map (·.1)) ((parts.map (·.1)).map fun i => (i * size, size)) vs ((Array.range (len * size)).map (z.cells[· % z.cells.size]!)) (by simp [Function.comp_def]) (by rw [hzsz]; exact hok)
  rw [hzl] at hf
  generalize hcs : JJ (List.replicate len z.cells.toList).flatten ((parts.map (·.1)).map fun i => (i * size, size)) vs = cells at hf hk
  have hcl : cells.length = len * size := by
    have hgen : ∀ (pls : List (Nat × Nat)) (vs : List Value) (zz : List Value), WI zz.length pls vs = true → (JJ zz pls vs).length = zz.length := by
      intro pls
      induction pls with
      | nil => intro vs zz _; cases vs <;> rfl
      | cons p pls ih =>
        intro vs zz h
        cases vs with
        | nil => rfl
        | cons v vs =>
          simp only [WI, Bool.and_eq_true] at h
          have h1 := Nat.eq_of_beq_eq_true h.1.1
          have h2 := Nat.le_of_ble_eq_true h.1.2
          have hl : (XC zz p.1 v.cells.toList).length = zz.length := Wq (by simp [h1]; omega)
          simp only [JJ]
          rw [ih vs _ (by rw [hl]; exact h.2), hl]
    have hzl2 : (List.replicate len z.cells.toList).flatten.length = len * size := by simp [hzs]
    rw [← hcs, hgen _ _ _ (by rw [hzl2]; exact hok), hzl2]
  refine XI rfl hd (R := fun v w' => v = .slice (some ⟨w.heap.size, 0, none⟩) len len ∧ w' = w.alloc (.cells cells.toArray e)) (fun a ha => ⟨_, _, .inl ?_, rfl, rfl⟩) ?_
  · have hzv : (zeroValue e).run P w = .ok z w := by simp [zeroValue, typeInfo, hi1, hi2.1]
    have hso : (sizeOf e).run P w = .ok size w := by simp [sizeOf, typeInfo, hi1, hi2.2]
    have hev := ha.evals hx
    have hp : (parts.toArray.map fun (i, x) => (i, a.eval x)).toList = (parts.map (·.1)).zip vs := by
      rw [← hev]
      simp
      clear hev hx hf hcs hok
      induction parts with
      | nil => rfl
      | cons p ps ih => simp [ih]
    have hno : ¬ (2 ^ 24 < len * size) := by omega
    by_cases hz0 : len * size = 0
    · have hf' : Instr.fill (fun i => some (i * size, size)) #[] ((parts.map (·.1)).zip vs) = some cells.toArray := by
        rw [hz0, show Array.range 0 = #[] from rfl] at hf; simpa using hf
      simp only [execOp, Instr.buildSlice]
      have hr0 : Array.range 0 = #[] := rfl
      simp [run_underlying hu, hso, hz0, newRow, hr0]
      simp at hp
      rw [hp, hf']
      simp
    · simp only [execOp, Instr.buildSlice]
      simp [run_underlying hu, hso, hz0, hno, hzv, newRow]
      simp at hp
      rw [hp, hf]
      simp
  · rintro v w' ⟨rfl, rfl⟩
    exact hk _ _ .alloc (hS.new ((Only.refl _ _).alloc _) (F' := fun k => k ∈ [w.heap.size]) (A := Wl _ _ _ _) ⟨[w.heap.size], rfl, Ho (sp := []) (by simpa using Blk.new w cells e) (by simpa using hcl) (Nat.le_refl _) (by simpa using hcl)⟩ (fun k hk => by simp at hk; omega))
theorem Vb {α : Type} {As : List Th} (C : RowC α) (l : List α) (hS : Sat w As) {t e len : Nat} {z : Value} {parts : List (Nat × Operand)} {vs : List Value} (hx : Wd L (parts.map (·.2)) = some vs) (hu : P.underlying t = some (.slice e)) (hi : (P.info? e).map (fun i => (i.zero, i.size)) = some (some z, C.size)) (hlen : Nat.ble (len * C.size) 1000 = true) (hzs : z.cells.size = C.size)
    (hok : WI (len * C.size) ((parts.map (·.1)).map fun i => (i * C.size, C.size)) vs = true) (hl : l.length = len) (he : JJ (List.replicate len z.cells.toList).flatten ((parts.map (·.1)).map fun i => (i * C.size, C.size)) vs = C.cells l) (hd : Nat.blt d n = true)
    (hk : ∀ b w', GrW w w' → Sat w' (rowT C (.slice (some ⟨b, 0, none⟩) len len) l :: As) → wl P n ops Q rest ((d, .slice (some ⟨b, 0, none⟩) len len) :: L) w') : wl P n ops Q (⟨some d, .buildSlice t len parts.toArray, ty, pos, aft, none⟩ :: rest) L w := by
  refine R2 hS hx hu hi hlen hzs hok hd ?_
  intro b w' hg h
  exact hk b w' hg (h.row_cast hl.symm rfl he)
section
variable {P : Program} {n : Nat} {ops : Array Oper} {Q : Exit → Act → World → Prop} {rest : List Oper} {L : Env} {w : World} {d : Nat} {ty : TypeId} {pos : String} {aft : Array Edge} {t t2 : TypeId} {x y : Operand}
theorem Sq {a b : BitVec 64} (hx : look L x = some (XG a)) (hy : look L y = some (XG b)) : Ev P L w ⟨some d, .binOp .sub t x y t2, ty, pos, aft, none⟩ (XG (a - b)) :=
  Rm hx hy (by
    rw [IntKind.wrap_u64, BitVec.toNat_sub]
    have := a.isLt; have := b.isLt
    omega)
theorem NV {a b : BitVec 64} (hx : look L x = some (XG a)) (hy : look L y = some (XG b)) (hd : Nat.blt d n = true) (hk : wl P n ops Q rest ((d, XG (a - b)) :: L) w) : wl P n ops Q (⟨some d, .binOp .sub t x y t2, ty, pos, aft, none⟩ :: rest) L w := Xq hd (Sq hx hy) hk
end
end
end Go.Proofs.YtkcjfoaejijdoaaGreatDoor.M
