/- leaves: maps.Keys, slices.Collect of keys -/
import Derived.Test.YtkcjfoaejijdoaaGreatDoorLv2
import Derived.Test.YtkcjfoaejijdoaaGreatDoorWbl
import Derived.Test.YtkcjfoaejijdoaaGreatDoorLv9
import Derived.Test.YtkcjfoaejijdoaaGreatDoorLv1
import Derived.Test.YtkcjfoaejijdoaaGreatDoorSh3
import Derived.Shelf.SlSortCmp.NoneTotal
import Derived.Lib.Bytealg
import Derived.Lib.Small
import Derived.Shelf.SlLaysF0
import Derived.Ground.SlsfProg
import Derived.Test.YtkcjfoaejijdoaaGreatDoorProg
import Derived.Test.YtkcjfoaejijdoaaGreatDoorDl
namespace Go.Proofs.YtkcjfoaejijdoaaGreatDoor
open Go.RowKit M
set_option linter.unusedVariables false
set_option maxRecDepth 100000 in
theorem kl_it {w : World} {l c b : Nat} {g : KD → Option Value} {J : List KD → Th} {F : Th} (hS : Sat w [J [], QO c [.map (some b)], QH Xu b g, F]) (hY : VX Tryz.prog l Xu (okC g) J) :
    Calls Tryz.prog 163 #[.func (.yield l) #[] #[], ptrV c 0] w (Ret fun v w' => ∃ ks, AllC g ks ∧ Sat w' [J ks, QO c [.map (some b)], QH Xu b g, F]) := by
 refine Qt Tryz.func163 rfl Tryz.ntmps163 rfl ?_
 refine Qd (Qa ?_)
 refine Qu rfl Jq (by exact hS.cell 1 rfl rfl) rfl ?_
 refine H3 2 hS Tryz.underlying90 rfl rfl rfl ?_
 intro RR left0 wR hSR; dsimp only [List.set] at hSR
 refine Qf (Qc (Q1 ?_))
 refine Xw (fun K0 E0 W0 => ∃ (dn : KD → Prop) (cur : Option KD) (left : Nat) (ks : List KD), K0 = 1 * left ∧ E0 = [(0, .func (.yield l) #[] #[]), (5, ptrV RR 0)] ∧ Sat W0 [J ks, Yp Xu b RR g dn cur left, QO c [.map (some b)], F] ∧ (CSt g dn ks)) (L0 := [(0, _), (5, _)]) (1 * left0) (H0 rfl rfl) ⟨_, _, _, _, rfl, rfl, hSR.reorder [0, 2, 1, 3] rfl, CSt.start g⟩ ?_
 rintro _ _ w1 ⟨dn, cur, left, ks, rfl, rfl, hS1, hcs⟩
 refine Qd (Qa ?_)
 refine Vc 1 hS1 keysKey.inj rfl rfl rfl (fun hdone => ?_) (fun k v left2 w2 hleft hgk hnd hS2 => ?_)
 ·refine Qw rfl rfl rfl (Qf (Qc (Qd ?_)))
  refine Xm rfl ?_
  refine QZ (Qv (Qv (Q4 ?_)))
  refine W4 (.inl rfl) rfl ?_
  exact ⟨_, rfl, ks, hcs.all hdone, by have hSz := Yd (hS1.reorder [1, 0, 2, 3] rfl); exact hSz.reorder [1, 2, 0, 3] rfl⟩
 dsimp only [List.set] at hS2
 refine Qw rfl rfl rfl (Qf (Qc (Qd ?_)))
 refine XP rfl ?_
 refine Qy (Qc (Q1 (Qd (Qa ?_))))
 refine H4 1 hS2 rfl hgk rfl rfl ?_
 refine Qw rfl rfl rfl ?_
 refine Xl hS2 Wp rfl rfl ?_
 intro bk wq1 hq1
 refine Xa hq1 rfl rfl Xc rfl (by rfl) (i := 0) rfl (by decide) ?_
 intro wq2 hq2; dsimp only [List.set] at hq2
 replace hq2 := XR (k := k) hq2
 refine Qf (Qc (Qd ?_))
 refine Js ?_
 refine XD rfl (Qr rfl) ?_
 refine XD rfl (X9 rfl XB Xc (hq2.blk 0 rfl) (by exact Nat.le_of_ble_eq_true rfl) rfl) ?_
 have hSy := (hq2.split [1] [false, true, false, false, false] rfl); dsimp only [QC, Qz, Q9, Q8, Q7] at hSy
 refine Ke rfl rfl rfl (hY _ _ _ _ (hcs.ok hnd hgk) hSy) ?_
 intro w5 hS5; replace hS5 := hS5.join rfl; dsimp only [QU, QT, Q8, Q7] at hS5
 refine XD rfl (UR rfl) ?_
 refine HT ?_
 refine Qc ?_
 refine Qh (L' := [(13, _), (0, _), (5, _)]) (Y2 rfl rfl rfl) ?_
 refine Xm rfl ?_
 refine Qy (Qp ?_)
 have hSz := hS5.pick [0, 2, 3, 4] rfl; dsimp only [Qz, Q9] at hSz
 exact QG (L1 := [(0, _), (5, _)]) (H0 rfl rfl) (k1 := 1 * left2) (by omega) ⟨_, _, _, _, rfl, rfl, hSz, hcs.step hnd hgk⟩
theorem kl_sp {w : World} {v0 : Value} {F : Th} (hS : Sat w [F]) (h0 : v0.oneCell' = true) :
    Calls Tryz.prog 110 #[v0] w (Ret fun v w' => ∃ c, v = .func (.func 163) #[] #[ptrV c 0] ∧ Sat w' [QO c v0.cells.toList, F]) := by
 refine Qt Tryz.func110 rfl Tryz.ntmps110 rfl ?_
 refine Qd (Qa ?_)
 refine Zf hS rfl rfl rfl ?_
 intro b1 w1 hS1
 refine Qe rfl rfl (Qf (Qc (Qd (Qa ?_))))
 refine ZL rfl rfl ?_
 refine Qe rfl rfl (Qf (Qc (Q0 ?_)))
 refine QV (.inr rfl) rfl rfl ?_
 exact ⟨_, rfl, _, rfl, hS1⟩
set_option maxRecDepth 100000 in
theorem kp_it {w : World} {l c b : Nat} {g : KD → Option Value} {J : List KD → Th} {F : Th} (hS : Sat w [J [], QO c [.map (some b)], QH Xu b g, F]) (hY : VX Tryz.prog l Xu (okC g) J) :
    Calls Tryz.prog 175 #[.func (.yield l) #[] #[], ptrV c 0] w (Ret fun v w' => ∃ ks, AllC g ks ∧ Sat w' [J ks, QO c [.map (some b)], QH Xu b g, F]) := by
 refine Qt Tryz.func175 rfl Tryz.ntmps175 rfl ?_
 refine Qd (Qa ?_)
 refine Qu rfl Gy (by exact hS.cell 1 rfl rfl) rfl ?_
 refine H3 2 hS Tryz.underlying81 rfl rfl rfl ?_
 intro RR left0 wR hSR; dsimp only [List.set] at hSR
 refine Qf (Qc (Q1 ?_))
 refine Xw (fun K0 E0 W0 => ∃ (dn : KD → Prop) (cur : Option KD) (left : Nat) (ks : List KD), K0 = 1 * left ∧ E0 = [(0, .func (.yield l) #[] #[]), (5, ptrV RR 0)] ∧ Sat W0 [J ks, Yp Xu b RR g dn cur left, QO c [.map (some b)], F] ∧ (CSt g dn ks)) (L0 := [(0, _), (5, _)]) (1 * left0) (H0 rfl rfl) ⟨_, _, _, _, rfl, rfl, hSR.reorder [0, 2, 1, 3] rfl, CSt.start g⟩ ?_
 rintro _ _ w1 ⟨dn, cur, left, ks, rfl, rfl, hS1, hcs⟩
 refine Qd (Qa ?_)
 refine Vc 1 hS1 keysKey.inj rfl rfl rfl (fun hdone => ?_) (fun k v left2 w2 hleft hgk hnd hS2 => ?_)
 ·refine Qw rfl rfl rfl (Qf (Qc (Qd ?_)))
  refine Xm rfl ?_
  refine QZ (Qv (Qv (Q4 ?_)))
  refine W4 (.inl rfl) rfl ?_
  exact ⟨_, rfl, ks, hcs.all hdone, by have hSz := Yd (hS1.reorder [1, 0, 2, 3] rfl); exact hSz.reorder [1, 2, 0, 3] rfl⟩
 dsimp only [List.set] at hS2
 refine Qw rfl rfl rfl (Qf (Qc (Qd ?_)))
 refine XP rfl ?_
 refine Qy (Qc (Q1 (Qd (Qa ?_))))
 refine H4 1 hS2 rfl hgk rfl rfl ?_
 refine Qw rfl rfl rfl ?_
 refine Xl hS2 Wp rfl rfl ?_
 intro bk wq1 hq1
 refine Xa hq1 rfl rfl Xc rfl (by rfl) (i := 0) rfl (by decide) ?_
 intro wq2 hq2; dsimp only [List.set] at hq2
 replace hq2 := XR (k := k) hq2
 refine Qf (Qc (Qd ?_))
 refine Js ?_
 refine XD rfl (Qr rfl) ?_
 refine XD rfl (X9 rfl XB Xc (hq2.blk 0 rfl) (by exact Nat.le_of_ble_eq_true rfl) rfl) ?_
 have hSy := (hq2.split [1] [false, true, false, false, false] rfl); dsimp only [QC, Qz, Q9, Q8, Q7] at hSy
 refine Ke rfl rfl rfl (hY _ _ _ _ (hcs.ok hnd hgk) hSy) ?_
 intro w5 hS5; replace hS5 := hS5.join rfl; dsimp only [QU, QT, Q8, Q7] at hS5
 refine XD rfl (UR rfl) ?_
 refine HT ?_
 refine Qc ?_
 refine Qh (L' := [(13, _), (0, _), (5, _)]) (Y2 rfl rfl rfl) ?_
 refine Xm rfl ?_
 refine Qy (Qp ?_)
 have hSz := hS5.pick [0, 2, 3, 4] rfl; dsimp only [Qz, Q9] at hSz
 exact QG (L1 := [(0, _), (5, _)]) (H0 rfl rfl) (k1 := 1 * left2) (by omega) ⟨_, _, _, _, rfl, rfl, hSz, hcs.step hnd hgk⟩
theorem kp_sp {w : World} {v0 : Value} {F : Th} (hS : Sat w [F]) (h0 : v0.oneCell' = true) :
    Calls Tryz.prog 125 #[v0] w (Ret fun v w' => ∃ c, v = .func (.func 175) #[] #[ptrV c 0] ∧ Sat w' [QO c v0.cells.toList, F]) := by
 refine Qt Tryz.func125 rfl Tryz.ntmps125 rfl ?_
 refine Qd (Qa ?_)
 refine Zf hS rfl rfl rfl ?_
 intro b1 w1 hS1
 refine Qe rfl rfl (Qf (Qc (Qd (Qa ?_))))
 refine ZL rfl rfl ?_
 refine Qe rfl rfl (Qf (Qc (Q0 ?_)))
 refine QV (.inr rfl) rfl rfl ?_
 exact ⟨_, rfl, _, rfl, hS1⟩
set_option maxRecDepth 100000 in
theorem kd_it {w : World} {l c b : Nat} {g : Bs → Option Value} {J : List Bs → Th} {F : Th} (hS : Sat w [J [], QO c [.map (some b)], QH WM b g, F]) (hY : VX Tryz.prog l WM (okC g) J) :
    Calls Tryz.prog 118 #[.func (.yield l) #[] #[], ptrV c 0] w (Ret fun v w' => ∃ ks, AllC g ks ∧ Sat w' [J ks, QO c [.map (some b)], QH WM b g, F]) := by
 refine Qt Tryz.func118 rfl Tryz.ntmps118 rfl ?_
 refine Qd (Qa ?_)
 refine Qu rfl B7 (by exact hS.cell 1 rfl rfl) rfl ?_
 refine H3 2 hS Tryz.underlying91 rfl rfl rfl ?_
 intro RR left0 wR hSR; dsimp only [List.set] at hSR
 refine Qf (Qc (Q1 ?_))
 refine Xw (fun K0 E0 W0 => ∃ (dn : Bs → Prop) (cur : Option Bs) (left : Nat) (ks : List Bs), K0 = 1 * left ∧ E0 = [(0, .func (.yield l) #[] #[]), (5, ptrV RR 0)] ∧ Sat W0 [J ks, Yp WM b RR g dn cur left, QO c [.map (some b)], F] ∧ (CSt g dn ks)) (L0 := [(0, _), (5, _)]) (1 * left0) (H0 rfl rfl) ⟨_, _, _, _, rfl, rfl, hSR.reorder [0, 2, 1, 3] rfl, CSt.start g⟩ ?_
 rintro _ _ w1 ⟨dn, cur, left, ks, rfl, rfl, hS1, hcs⟩
 refine Qd (Qa ?_)
 refine Vc 1 hS1 keysStr.inj rfl rfl rfl (fun hdone => ?_) (fun k v left2 w2 hleft hgk hnd hS2 => ?_)
 ·refine Qw rfl rfl rfl (Qf (Qc (Qd ?_)))
  refine Xm rfl ?_
  refine QZ (Qv (Qv (Q4 ?_)))
  refine W4 (.inl rfl) rfl ?_
  exact ⟨_, rfl, ks, hcs.all hdone, by have hSz := Yd (hS1.reorder [1, 0, 2, 3] rfl); exact hSz.reorder [1, 2, 0, 3] rfl⟩
 dsimp only [List.set] at hS2
 refine Qw rfl rfl rfl (Qf (Qc (Qd ?_)))
 refine XP rfl ?_
 refine Qy (Qc (Q1 (Qd (Qa ?_))))
 refine H4 1 hS2 rfl hgk rfl rfl ?_
 refine Qw rfl rfl rfl (Qe rfl rfl (Qf (Qc (Qd ?_))))
 refine Js ?_
 refine XD rfl (Qr rfl) ?_
 refine XD rfl (Qr rfl) ?_
 have hSy := (hS2.split [0] [true, false, false, false] rfl); dsimp only [QC, Qz, Q9, Q8, Q7] at hSy
 refine Ke rfl rfl rfl (hY _ _ _ _ (hcs.ok hnd hgk) hSy) ?_
 intro w5 hS5; replace hS5 := hS5.join rfl; dsimp only [QU, QT, Q8, Q7] at hS5
 refine XD rfl (UR rfl) ?_
 refine HT ?_
 refine Qc ?_
 refine Qh (L' := [(13, _), (0, _), (5, _)]) (Y2 rfl rfl rfl) ?_
 refine Xm rfl ?_
 refine Qy (Qp ?_)
 have hSz := hS5.reorder [0, 1, 2, 3] rfl; dsimp only [Qz, Q9] at hSz
 exact QG (L1 := [(0, _), (5, _)]) (H0 rfl rfl) (k1 := 1 * left2) (by omega) ⟨_, _, _, _, rfl, rfl, hSz, hcs.step hnd hgk⟩
theorem kd_sp {w : World} {v0 : Value} {F : Th} (hS : Sat w [F]) (h0 : v0.oneCell' = true) :
    Calls Tryz.prog 52 #[v0] w (Ret fun v w' => ∃ c, v = .func (.func 118) #[] #[ptrV c 0] ∧ Sat w' [QO c v0.cells.toList, F]) := by
 refine Qt Tryz.func52 rfl Tryz.ntmps52 rfl ?_
 refine Qd (Qa ?_)
 refine Zf hS rfl rfl rfl ?_
 intro b1 w1 hS1
 refine Qe rfl rfl (Qf (Qc (Qd (Qa ?_))))
 refine ZL rfl rfl ?_
 refine Qe rfl rfl (Qf (Qc (Q0 ?_)))
 refine QV (.inr rfl) rfl rfl ?_
 exact ⟨_, rfl, _, rfl, hS1⟩
def ItK (g : KD → Option Value) (gf : Nat) (caps : List Value) (It : Th) : Prop := ∀ (l : Nat) (J : List KD → Th) (X : Th) (w : World), Sat w [J [], It, X] → VX Tryz.prog l Xu (okC g) J → Calls Tryz.prog gf (.func (.yield l) #[] #[] :: caps).toArray w (Ret fun _ w' => ∃ ks, AllC g ks ∧ Sat w' [J ks, It, X])
def JK (l D b : Nat) (rec : Loop) (ks : List KD) : Th := Tt fun v : Value => starL [Jl l rec, Wu D, QO b [v], rowT kC v ks]
set_option maxRecDepth 100000 in
theorem appK {w : World} {g : KD → Option Value} {It F : Th} {gf : Nat} {caps : List Value} (hS : Sat w [It, F]) (hcal : QM Tryz.prog gf = true) (hIt : ItK g gf caps It) (hlen : ∀ ks, Came g ks → ks.length ≤ 1000000000) :
    Calls Tryz.prog 189 [.slice none 0 0, .func (.func gf) #[] caps.toArray].toArray w (Ret fun v w' => ∃ ks, AllC g ks ∧ Sat w' [rowT kC v ks, It, F]) := by
 refine Hs Tryz.func189 rfl Tryz.ntmps189 rfl ?_
 refine Qd (Qa ?_)
 refine Zf hS rfl rfl rfl ?_
 intro b1 w1 hS1
 refine Qe rfl rfl (Qf (Qc (Qd (Qd (Qa (Qb rfl rfl (Qf (Qc (Q1 ?_)))))))))
 refine He (caps := caps) rfl hcal ?_
 intro rec hr1 hr2 hr3 hr4 hr5 htn htf
 have hE := ((hS1.enter_loop rec).row_nil kC)
 have hE2 := (hE.split [1, 2, 3, 0] [true, true, true, true, false, false] rfl); dsimp only [QC, Qz, Q9, Q8, Q7] at hE2
 have hJ0 := Sat.ex_intro (f := fun v : Value => starL [Jl _ _, Wu _, QO _ [v], rowT kC v []]) _ (Sat.fold (As := [Jl _ _, Wu _, QO _ [_], rowT kC _ []]) hE2)
 refine (hIt _ (JK _ _ _ _) _ _ (hJ0.join rfl) ?_).mono ?_
 ·intro ks k R w2 hok hw2
  obtain ⟨v, hw3⟩ := hw2.ex
  have hw4 := hw3.flat; dsimp only [Q8, Q7] at hw4
  have hl1 := hlen _ hok
  simp only [List.length_append, List.length_cons, List.length_nil] at hl1
  refine Dz (hw4.loop 0 rfl) hr1 hr2 hr3 hr4 hr5 htn htf rfl (by intro o ho c; simp at ho; rcases ho with rfl | rfl <;> simp) (by intro o ho c; simp at ho; rcases ho with rfl | rfl | rfl | rfl | rfl <;> simp) ?_
  intro QA hA
  refine Xl hw4 Wp rfl rfl ?_
  intro bk wk1 hq1
  refine Xa hq1 rfl rfl Xc rfl (by rfl) (i := 0) rfl (by decide) ?_
  intro wk2 hq2; dsimp only [List.set] at hq2
  replace hq2 := XR (k := k) hq2
  refine Qf ?_
  refine hA _ _ (hq2.loop 1 rfl) ?_
  intro QB hB
  have h1v : v.oneCell' = true := hq2.own_one 4 rfl
  have hw5 := hq2.loop_put 1 rfl (rec' := { rec with state := .busy }); dsimp only [List.set] at hw5
  refine Qu rfl ag_98 (hw5.cell 3 rfl rfl) rfl ?_
  refine XX rfl XB Xc (hw5.blk 0 rfl) (by exact Nat.le_of_ble_eq_true rfl) rfl rfl ?_
  refine ZK kC [k] hw5 rfl Tryz.underlying98 ifz_76 rfl rfl rfl rfl (by rfl) rfl ?_
  intro b3 w3 hw6
  refine WY kC 5 hw6 rfl rfl rfl (hw6.rd 0 rfl (by simp)) Tryz.underlying98 Tryz.underlying98 (by intro k hk; cases hk) ifo_76 rfl (by simp; omega) rfl (by simp; omega) ?_
  intro v4 w4 hw7; dsimp only [List.set] at hw7
  have h1v4 : v4.oneCell' = true := hw7.own_one 5 rfl
  refine Xb hw7 rfl rfl sz_98 h1v4 (i := 4) rfl (by simp) ?_
  intro w5 hw8; dsimp only [List.set] at hw8
  refine Qf ?_
  refine hB _ _ (hw8.loop 2 rfl) ?_
  have hw9 := hw8.loop_put 2 rfl (rec' := rec); dsimp only [List.set] at hw9
  exact (Sat.ex_intro (f := fun v : Value => starL [Jl _ _, Wu _, QO _ [v], rowT kC v (ks ++ [k])]) v4 (Sat.fold (As := [Jl _ _, Wu _, QO _ [_], rowT kC _ _]) (hw9.pick [2, 3, 4, 5, 6] rfl)))
 ·rintro e w3 ⟨v0, rfl, ks, hall, hw3⟩
  obtain ⟨v, hw4⟩ := hw3.ex
  have hw5 := hw4.flat; dsimp only [Q8, Q7] at hw5
  refine ⟨⟨v0, rfl⟩, rec, hw5.loop 0 rfl, by rw [hr1]; simp, hr2, ?_⟩
  intro a ha1 ha2
  have hw6 := hw5.loop_put 0 rfl (rec' := { rec with state := .exhausted }); dsimp only [List.set] at hw6
  obtain ⟨hD, hw7⟩ := hw6.defer_put (o := .deferred none) 1 rfl
  dsimp only [List.eraseIdx] at hw7
  refine D7 (n := 13) (by rw [ha1]; exact htn) (by rw [ha1]; exact htf) ha2 rfl ag_98 (hw6.cell 2 rfl rfl) hD rfl rfl rfl ?_
  exact ⟨_, rfl, ks, hall, hw7.pick [2, 3, 4] rfl⟩
def keysTkl (c b : Nat) (g : KD → Option Value) : Th := starL [QO c [.map (some b)], QH Xu b g]
theorem itkl (c b : Nat) (g : KD → Option Value) : ItK g 163 [ptrV c 0] (keysTkl c b g) := fun l J X w hS hY => by
  have h1 := (hS.perm (List.Perm.swap _ _ _)).flat; dsimp only [Q8, Q7] at h1
  refine (kl_it (h1.reorder [2, 0, 1, 3] rfl) hY).mono fun e w' h => h.mono fun v w' ⟨ks, h2, h3⟩ => ⟨ks, h2, ?_⟩
  exact (Sat.fold (As := [QO c [.map (some b)], QH Xu b g]) (h3.reorder [1, 2, 0, 3] rfl)).perm (List.Perm.swap _ _ _)
def keysTkp (c b : Nat) (g : KD → Option Value) : Th := starL [QO c [.map (some b)], QH Xu b g]
theorem itkp (c b : Nat) (g : KD → Option Value) : ItK g 175 [ptrV c 0] (keysTkp c b g) := fun l J X w hS hY => by
  have h1 := (hS.perm (List.Perm.swap _ _ _)).flat; dsimp only [Q8, Q7] at h1
  refine (kp_it (h1.reorder [2, 0, 1, 3] rfl) hY).mono fun e w' h => h.mono fun v w' ⟨ks, h2, h3⟩ => ⟨ks, h2, ?_⟩
  exact (Sat.fold (As := [QO c [.map (some b)], QH Xu b g]) (h3.reorder [1, 2, 0, 3] rfl)).perm (List.Perm.swap _ _ _)
theorem colK {w : World} {g : KD → Option Value} {It F : Th} {gf : Nat} {caps : List Value} (hS : Sat w [It, F]) (hcal : QM Tryz.prog gf = true) (hIt : ItK g gf caps It) (hlen : ∀ ks, Came g ks → ks.length ≤ 1000000000) :
    Calls Tryz.prog 161 #[.func (.func gf) #[] caps.toArray] w (Ret fun v w' => ∃ ks, AllC g ks ∧ Sat w' [rowT kC v ks, It, F]) := by
 refine Qt Tryz.func161 rfl Tryz.ntmps161 rfl ?_
 refine Qd (Qa (Qe rfl rfl (Qf (Qc (Qd (Qa (Qb rfl rfl ?_)))))))
 have hC1 := hS.split [0] [true, false] rfl; dsimp only [QC, Qz, Q9, Q8, Q7] at hC1
 refine Qo cal_189 rfl (appK hC1 hcal hIt hlen) rfl ?_
 rintro e w1 ⟨_, rfl, ks, hks, hS1⟩; refine ⟨_, rfl, ?_⟩
 replace hS1 := hS1.join rfl; dsimp only [QU, QT, Q8, Q7] at hS1; clear hC1
 have h1v := hS1.own_one 0 rfl
 refine Qe rfl rfl (Qf (Qc (Q0 ?_)))
 refine QV (.inr rfl) rfl rfl ?_
 exact ⟨_, rfl, ks, hks, hS1⟩
end Go.Proofs.YtkcjfoaejijdoaaGreatDoor
/- leaves: comparing keys -/
namespace Go.Proofs.YtkcjfoaejijdoaaGreatDoor
open Go.RowKit M
set_option linter.unusedVariables false
def orI (a b : Int) : Int := if a ≠ 0 then a else b
theorem or_step {l : List Int} {i : Nat} {x : Int} (hz : ∀ q, q < i → l[q]? = some 0) (hx : l[i]? = some x) (h0 : x = 0) : ∀ q, q < i + 1 → l[q]? = some 0 := fun q hq => by
  rcases Nat.lt_or_ge q i with h | h
  · exact hz q h
  · have : q = i := by omega
    subst this; rw [hx, h0]
set_option maxRecDepth 100000 in
theorem or_sp {w : World} {c : Nat} {a b : Int} {F : Th} (hS : Sat w [rowT inC (.slice (some ⟨c, 0, none⟩) 2 2) [a, b], F]) :
    Calls Tryz.prog 112 #[.slice (some ⟨c, 0, none⟩) 2 2] w (Ret fun v w' => v = intV (orI a b) ∧ w' = w) := by
 refine Qt Tryz.func112 rfl Tryz.ntmps112 rfl ?_
 refine Qd (Qa (Qe rfl rfl (Qf (Qc (Qd (Qa (Qe rfl rfl (Qf (Qc (Qd (Qd (Qa (Qb rfl rfl ?_)))))))))))))
 refine XU Tryz.underlying47 rfl rfl ?_
 refine Qb rfl rfl (Qf (Qc (Q1 ?_)))
 refine Xw (fun K0 E0 W0 => ∃ (i : Nat), K0 = 2 - i ∧ E0 = [(3, intV 0), (6, .slice (some ⟨c, 0, none⟩) 2 2), (7, intV 2), (8, intV (i : Int))] ∧ Sat W0 [rowT inC (.slice (some ⟨c, 0, none⟩) 2 2) [a, b], F] ∧ (W0 = w) ∧ (i ≤ 2) ∧ (∀ q, q < i → [a, b][q]? = some 0)) (L0 := [(3, _), (6, _), (7, _), (8, _)]) (2) (Jr rfl rfl rfl rfl) ⟨0, by omega, rfl, hS, rfl, by omega, fun q hq => absurd hq (by omega)⟩ ?_
 rintro _ _ w1 ⟨i, rfl, rfl, hS1, hw0, hi, hz⟩
 refine Qd (Qa ?_)
 refine Xt rfl rfl rfl ?_
 refine Qf (Qc (Qd ?_))
 refine Qx rfl (fun h2 => ?_) (fun h2 => ?_)
 ·obtain ⟨xi, hxi⟩ : ∃ xi, [a, b][i]? = some xi := ⟨_, List.getElem?_eq_getElem (by simp; omega)⟩
  refine Qy (Qc (Qd (Q1 (Qd (Qa ?_)))))
  refine Xp inC 0 i hS1 rfl rfl rfl (by rfl) hxi KK rfl ?_
  intro bx3 capx3 hvx3
  refine Z4 0 i 0 hS1 rfl hvx3 rfl rfl hxi QW rfl rfl ?_
  refine Qe rfl rfl (Qf (Qc (Qd (Qa (Qb rfl rfl (Qb rfl rfl ?_))))))
  refine Xh rfl rfl rfl ?_
  refine Qf (Qc ?_)
  refine Qh (L' := [(14, _), (5, _), (3, _), (6, _), (7, _), (8, _)]) (Wf rfl rfl rfl rfl rfl rfl) ?_
  refine Qx rfl (fun h4 => ?_) (fun h4 => ?_)
  ·have hx0 : xi ≠ 0 := h4
   refine Qd (Qa (Qb rfl rfl (Qe rfl rfl (Qf (Qc (Q0 (QE (Qs (Qs (QE (Qs ?_)))))))))))
   refine QV (.inr rfl) rfl rfl ?_
   refine ⟨_, rfl, ?_, hw0⟩
   have h2 : i = 0 ∨ i = 1 := by omega
   rcases h2 with rfl | rfl
   ·have e : a = xi := (by simpa using hxi); subst e; unfold orI; rw [if_pos hx0]
   ·have e : b = xi := (by simpa using hxi); have e0 : a = 0 := (by simpa using hz 0 (by omega)); subst e; unfold orI; rw [if_neg (by omega)]
  have hx0 : xi = 0 := Decidable.not_not.1 h4
  refine Qy (Qp (Qc (Qa ?_)))
  refine QN rfl rfl (by omega) (by omega) rfl ?_
  refine Qb rfl rfl (Qf ?_)
  exact QG (L1 := [(3, intV 0), (6, _), (7, intV 2), (8, intV ((i + 1 : Nat) : Int))]) (Jr rfl rfl rfl rfl) (k1 := 2 - (i + 1)) (by omega) ⟨i + 1, by omega, rfl, hS1.pick [0, 1] rfl, hw0, by omega, or_step hz hxi hx0⟩
 refine QZ (Qv (Qv (Q4 (Qc (Qd (Qa (Qb rfl rfl (Qe rfl rfl (Qf (Qc (Q0 ?_)))))))))))
 refine QV (.inr rfl) rfl rfl ?_
 have h2 : i = 2 := by omega
 subst h2; have e0 : a = 0 := by simpa using hz 0 (by omega)
 have e1 : b = 0 := by simpa using hz 1 (by omega)
 exact ⟨_, rfl, by unfold orI; rw [if_neg (by omega), e1], hw0⟩
end Go.Proofs.YtkcjfoaejijdoaaGreatDoor
/- leaves: the closures of keys -/
namespace Go.Proofs.YtkcjfoaejijdoaaGreatDoor
open Go.RowKit M
set_option linter.unusedVariables false
def SE (x y : KD) : Int := orI (Lib.compareBytes x.1 y.1) (Lib.compareInt x.2 y.2)
theorem TK (a b : Bs) (w : World) : Calls Tryz.prog 113 #[strV a, strV b] w (Ret fun v w' => v = intV (Lib.compareBytes a b) ∧ w' = w) :=
  (Tryz.strings_Compare ⟨a.toArray⟩ ⟨b.toArray⟩ w).mono fun e w' ⟨h1, h2⟩ => ⟨_, h1, rfl, h2⟩
theorem Cc (a b : Int) (w : World) : Calls Tryz.prog 114 #[intV a, intV b] w (Ret fun v w' => v = intV (Lib.compareInt a b) ∧ w' = w) :=
  (Tryz.cmp_Compare_int a b w).mono fun e w' ⟨h1, h2⟩ => ⟨_, h1, rfl, h2⟩
set_option maxRecDepth 100000 in
theorem cmpL_sp {w : World} {F : Th} (hS : Sat w [F]) (x y : KD) :
    Calls Tryz.prog 111 #[Xu x, Xu y] w (Ret fun v w' => v = intV (SE x y) ∧ GrW w w') := by
 refine Qt Tryz.func111 rfl Tryz.ntmps111 rfl ?_
 refine Qd (Qa ?_)
 refine KZ hS rfl rfl rfl ?_
 intro ka w1 hG1 hS1
 replace hS1 := XR (k := x) hS1
 refine KZ hS1 rfl rfl rfl ?_
 intro kb w2 hG2 hS2
 replace hS2 := XR (k := y) hS2
 clear hS1
 refine Qe rfl rfl (Qf (Qc (Qd ?_)))
 have hS3 := hS2.drew
 refine QK [0, 1, 2, 3, 5, 6, 7, 8, 4, 9, 10, 11, 12] [4, 9, 10, 11] ZT (by kernel_rfl) ?_
 refine Qk rfl rfl rfl (fun _ => (Qi rfl JQ)) ?_
 refine QF rfl rfl rfl (Qm rfl Yz (by exact hS3.cell 1 rfl rfl)) ?_
 refine Qk rfl rfl rfl (fun _ => (Qi rfl JQ)) ?_
 refine QF rfl rfl rfl (Qm rfl Yz (by exact hS3.cell 0 rfl rfl)) ?_
 refine Qk rfl rfl rfl (fun _ => (Qi rfl Rl)) ?_
 refine QF rfl rfl rfl (Qm rfl QW (by exact hS3.cell 1 rfl rfl)) ?_
 refine Qk rfl rfl rfl (fun _ => (Qi rfl Rl)) ?_
 refine QF rfl rfl rfl (Qm rfl QW (by exact hS3.cell 0 rfl rfl)) ?_
 refine Xn rfl rfl rfl rfl rfl rfl ?_
 refine Qo Cz rfl (TK x.1 y.1 _) rfl ?_
 rintro e _ ⟨_, rfl, rfl, rfl⟩; refine ⟨_, rfl, ?_⟩
 refine XJ (.cons (.inl ⟨rfl, (Qm rfl QW (by exact hS3.cell 0 rfl rfl))⟩) (.cons (.inl ⟨rfl, (Qm rfl QW (by exact hS3.cell 1 rfl rfl))⟩) (.skip (by kernel_rfl) (.skip (by kernel_rfl) .nil)))) ?_
 refine Xn rfl rfl rfl rfl rfl rfl ?_
 refine Qo Cy rfl (Cc x.2 y.2 _) rfl ?_
 rintro e _ ⟨_, rfl, rfl, rfl⟩; refine ⟨_, rfl, ?_⟩
 refine XJ (.skip (by kernel_rfl) (.skip (by kernel_rfl) (.skip (by kernel_rfl) (.skip (by kernel_rfl) .nil)))) ?_
 refine Xn rfl rfl rfl rfl rfl rfl ?_
 refine Vb inC [Lib.compareBytes x.1 y.1, Lib.compareInt x.2 y.2] hS3 rfl Tryz.underlying47 KF rfl rfl rfl rfl (by rfl) rfl ?_
 intro cc w4 hG4 hS4
 clear hS3
 refine XJ (.skip (by kernel_rfl) (.skip (by kernel_rfl) (.skip (by kernel_rfl) (.skip (by kernel_rfl) .nil)))) ?_
 refine Xn rfl rfl rfl rfl rfl rfl ?_
 refine Qo C0 rfl (or_sp (hS4.split [0] [true, false, false, false] rfl)) rfl ?_
 rintro e _ ⟨_, rfl, rfl, rfl⟩; refine ⟨_, rfl, ?_⟩
 refine XJ (.skip (by kernel_rfl) (.skip (by kernel_rfl) (.skip (by kernel_rfl) (.skip (by kernel_rfl) .nil)))) ?_
 refine Qk rfl rfl rfl (fun _ => (Q6 rfl)) ?_
 refine VC.nil (Qc ?_)
 refine Qh (L' := [(4, _)]) (Hd rfl) ?_
 refine Q0 ?_
 refine QV (.inr rfl) rfl rfl ?_
 exact ⟨_, rfl, rfl, (hG1.trans hG2).trans (GrW.drew.trans hG4)⟩
set_option maxRecDepth 100000 in
theorem cmpI_sp {w : World} {F : Th} (hS : Sat w [F]) (x y : KD) :
    Calls Tryz.prog 126 #[Xu x, Xu y] w (Ret fun v w' => v = intV (SE x y) ∧ GrW w w') := by
 refine Qt Tryz.func126 rfl Tryz.ntmps126 rfl ?_
 refine Qd (Qa ?_)
 refine KZ hS rfl rfl rfl ?_
 intro ka w1 hG1 hS1
 replace hS1 := XR (k := x) hS1
 refine KZ hS1 rfl rfl rfl ?_
 intro kb w2 hG2 hS2
 replace hS2 := XR (k := y) hS2
 clear hS1
 refine Qe rfl rfl (Qf (Qc (Qd ?_)))
 have hS3 := hS2.drew
 refine QK [0, 1, 2, 3, 5, 6, 7, 8, 4, 9, 10, 11, 12] [4, 9, 10, 11] ZT (by kernel_rfl) ?_
 refine Qk rfl rfl rfl (fun _ => (Qi rfl JQ)) ?_
 refine QF rfl rfl rfl (Qm rfl Yz (by exact hS3.cell 1 rfl rfl)) ?_
 refine Qk rfl rfl rfl (fun _ => (Qi rfl JQ)) ?_
 refine QF rfl rfl rfl (Qm rfl Yz (by exact hS3.cell 0 rfl rfl)) ?_
 refine Qk rfl rfl rfl (fun _ => (Qi rfl Rl)) ?_
 refine QF rfl rfl rfl (Qm rfl QW (by exact hS3.cell 1 rfl rfl)) ?_
 refine Qk rfl rfl rfl (fun _ => (Qi rfl Rl)) ?_
 refine QF rfl rfl rfl (Qm rfl QW (by exact hS3.cell 0 rfl rfl)) ?_
 refine Xn rfl rfl rfl rfl rfl rfl ?_
 refine Qo Cz rfl (TK x.1 y.1 _) rfl ?_
 rintro e _ ⟨_, rfl, rfl, rfl⟩; refine ⟨_, rfl, ?_⟩
 refine XJ (.cons (.inl ⟨rfl, (Qm rfl QW (by exact hS3.cell 0 rfl rfl))⟩) (.cons (.inl ⟨rfl, (Qm rfl QW (by exact hS3.cell 1 rfl rfl))⟩) (.skip (by kernel_rfl) (.skip (by kernel_rfl) .nil)))) ?_
 refine Xn rfl rfl rfl rfl rfl rfl ?_
 refine Qo Cy rfl (Cc x.2 y.2 _) rfl ?_
 rintro e _ ⟨_, rfl, rfl, rfl⟩; refine ⟨_, rfl, ?_⟩
 refine XJ (.skip (by kernel_rfl) (.skip (by kernel_rfl) (.skip (by kernel_rfl) (.skip (by kernel_rfl) .nil)))) ?_
 refine Xn rfl rfl rfl rfl rfl rfl ?_
 refine Vb inC [Lib.compareBytes x.1 y.1, Lib.compareInt x.2 y.2] hS3 rfl Tryz.underlying47 KF rfl rfl rfl rfl (by rfl) rfl ?_
 intro cc w4 hG4 hS4
 clear hS3
 refine XJ (.skip (by kernel_rfl) (.skip (by kernel_rfl) (.skip (by kernel_rfl) (.skip (by kernel_rfl) .nil)))) ?_
 refine Xn rfl rfl rfl rfl rfl rfl ?_
 refine Qo C0 rfl (or_sp (hS4.split [0] [true, false, false, false] rfl)) rfl ?_
 rintro e _ ⟨_, rfl, rfl, rfl⟩; refine ⟨_, rfl, ?_⟩
 refine XJ (.skip (by kernel_rfl) (.skip (by kernel_rfl) (.skip (by kernel_rfl) (.skip (by kernel_rfl) .nil)))) ?_
 refine Qk rfl rfl rfl (fun _ => (Q6 rfl)) ?_
 refine VC.nil (Qc ?_)
 refine Qh (L' := [(4, _)]) (Hd rfl) ?_
 refine Q0 ?_
 refine QV (.inr rfl) rfl rfl ?_
 exact ⟨_, rfl, rfl, (hG1.trans hG2).trans (GrW.drew.trans hG4)⟩
end Go.Proofs.YtkcjfoaejijdoaaGreatDoor
/- The shelf's contract of sorting rows of keys (structs of a string and an integer) as a contract of things; a walk that keeps how the world has grown. Conditions: each one's own hypotheses. -/
namespace Go.Proofs.YtkcjfoaejijdoaaGreatDoor.M
open Go.RowKit Go.Sort
def cfK (x y : Bs × Int) : Int := if Lib.compareBytes x.1 y.1 ≠ 0 then Lib.compareBytes x.1 y.1 else Lib.compareInt x.2 y.2
def QL (l : List (Bs × Int)) : List (Bs × Int) := l.mergeSort fun x y => !ltOf cfK y x
theorem Ju (l : List (Bs × Int)) : (QL l).Perm l := List.mergeSort_perm _ _
theorem ZZ (l : List (Bs × Int)) : (QL l).length = l.length := (Ju l).length_eq
theorem cmpB : ∀ a b : Bs, (Lib.compareBytes a b < 0 ↔ a < b) ∧ (Lib.compareBytes a b = 0 ↔ a = b)
  | [], [] => by simp [Lib.compareBytes]
  | [], y :: ys => by simp [Lib.compareBytes]
  | x :: xs, [] => by simp [Lib.compareBytes]
  | x :: xs, y :: ys => by
    have ih := cmpB xs ys
    unfold Lib.compareBytes
    rw [List.cons_lt_cons_iff]
    by_cases h1 : x < y
    · have : x ≠ y := fun e => by subst e; exact absurd h1 (UInt8.lt_irrefl _)
      simp [h1, this]
    · by_cases h2 : y < x
      · have : x ≠ y := fun e => by subst e; exact absurd h2 (UInt8.lt_irrefl _)
        simp [h1, h2, this]
      · have e : x = y := UInt8.le_antisymm (UInt8.not_lt.1 h2) (UInt8.not_lt.1 h1)
        subst e
        simp [h1, ih.1, ih.2]
theorem ltK (x y : Bs × Int) : ltOf cfK x y = true ↔ x.1 < y.1 ∨ x.1 = y.1 ∧ x.2 < y.2 := by
  have h := cmpB x.1 y.1
  unfold ltOf cfK Lib.compareInt
  by_cases e : x.1 = y.1
  · rw [if_neg (by simpa using h.2.2 e)]
    have : ¬ x.1 < y.1 := by rw [e]; exact List.lt_irrefl _
    by_cases a : x.2 < y.2
    · simp [a, e]
    · by_cases b : x.2 > y.2 <;> simp [a, b, e, List.lt_irrefl]
  · rw [if_pos (by simpa using fun q => e (h.2.1 q))]
    simp [h.1, e]
theorem ltKf (x y : Bs × Int) : ltOf cfK x y = false ↔ ¬ x.1 < y.1 ∧ (x.1 = y.1 → ¬ x.2 < y.2) := by
  rw [← Bool.not_eq_true, ltK]
  exact ⟨fun h => ⟨fun a => h (.inl a), fun e a => h (.inr ⟨e, a⟩)⟩, fun ⟨h1, h2⟩ h => h.elim h1 fun ⟨e, a⟩ => h2 e a⟩
theorem bs_nlt {a b c : Bs} (h : ¬ a < b) (h' : ¬ b < c) : ¬ a < c := List.not_lt.2 (List.le_trans (List.not_lt.1 h') (List.not_lt.1 h))
theorem swoK : SWO (ltOf cfK) where
  irrefl x := by rw [ltKf]; exact ⟨List.lt_irrefl _, fun _ => by omega⟩
  trans x y z h1 h2 := by
    rw [ltK] at *
    rcases h1 with h1 | ⟨e1, h1⟩ <;> rcases h2 with h2 | ⟨e2, h2⟩
    · exact .inl (List.lt_trans h1 h2)
    · exact .inl (e2 ▸ h1)
    · exact .inl (e1 ▸ h2)
    · exact .inr ⟨e1.trans e2, by omega⟩
  ntrans x y z h1 h2 := by
    rw [ltKf] at *
    refine ⟨bs_nlt h1.1 h2.1, fun e => ?_⟩
    have h3 : ¬ z.1 < y.1 := e ▸ h1.1
    have h4 : y.1 = z.1 := List.le_antisymm (List.not_lt.1 h3) (List.not_lt.1 h2.1)
    have := h1.2 (e.trans h4.symm)
    have := h2.2 h4
    omega
theorem totK (x y : Bs × Int) (h1 : ltOf cfK x y = false) (h2 : ltOf cfK y x = false) : x = y := by
  rw [ltKf] at *
  have e : x.1 = y.1 := List.le_antisymm (List.not_lt.1 h2.1) (List.not_lt.1 h1.1)
  exact Prod.ext e (by have := h1.2 e; have := h2.2 e.symm; omega)
theorem kC_get (l : List (Bs × Int)) : ∀ t, t < l.length * 2 → (kC.cells l)[t]! = (kC.enc l[t / 2]!)[t % 2]! := by
  induction l with
  | nil => intro t h; simp at h
  | cons a l ih =>
    intro t h
    have e : kC.cells (a :: l) = strV a.1 :: intV a.2 :: kC.cells l := rfl
    rw [e]
    match t with
    | 0 => rfl
    | 1 => rfl
    | t + 2 =>
      have h1 := ih t (by simp at h; omega)
      have h2 : (t + 2) / 2 = t / 2 + 1 := by omega
      have h3 : (t + 2) % 2 = t % 2 := by omega
      rw [h2, h3]
      simpa using h1
theorem Cb (l : List (Bs × Int)) : flatK kC.enc 2 l.toArray = (kC.cells l).toArray := by
  refine ext_get! (by simp [RowC.cells_len]; rfl) fun t ht => ?_
  have ht' : t < l.length * 2 := by simpa using ht
  rw [get_flatK _ _ _ _ (by simpa using ht')]
  have := kC_get l t ht'
  simpa using this.symm
theorem DT (d xs sp : List Value) (h : d.length = xs.length) : (putCells id 0 d.toArray (xs ++ sp).toArray) = (d ++ sp).toArray := by
  apply Array.ext_getElem?
  intro k
  unfold putCells
  simp only [Array.getElem?_mapIdx, List.getElem?_toArray, Nat.zero_le, true_and, Nat.zero_add, Nat.sub_zero, List.size_toArray]
  by_cases hk : k < d.length
  · rw [List.getElem?_append_left (by simpa [← h] using hk), List.getElem?_append_left (by simpa using hk)]
    simp [hk, h ▸ hk]
  · rw [List.getElem?_append_right (by omega), List.getElem?_append_right (by omega)]
    have hk' : ¬ k < xs.length := by omega
    simp only [h, hk', if_false, Option.map_id']
theorem KO {P : Program} {f : Nat} {fv : Value}
    (hsome : ∀ (blk off cap : Nat) (ss : List (Bs × Int)) (w : World), HoldsK kC.enc 2 w blk off ss.toArray → blk < w.heap.size → ss.length < 4611686018427387904 → Calls P f #[.slice (some ⟨blk, off, none⟩) ss.length cap, fv] w fun e w' => e = .returned (.tuple #[]) ∧ ∃ n os, w' = sortWorldK kC.enc 2 w blk off n (QL ss).toArray os)
    (hnone : ∀ (p : Option Addr) (cap : Nat) (w : World), Calls P f #[.slice p 0 cap, fv] w fun e w' => e = .returned (.tuple #[]) ∧ w' = w)
    {w : World} {v : Value} {l : List (Bs × Int)} {As : List Th} (hS : Sat w (rowT kC v l :: As)) (hl : l.length < 4611686018427387904) : Calls P f #[v, fv] w (Ret fun u w' => u = .tuple #[] ∧ Sat w' (rowT kC v (QL l) :: As)) := by
  obtain ⟨foot, hlen, h⟩ := hS.own 0 rfl
  rcases h with ⟨rfl, hn, hf⟩ | ⟨b, cap, sp, rfl, hcap, hb, hsz, hf⟩
  · have : l = [] := List.eq_nil_of_length_eq_zero hn
    subst this
    exact (hnone none 0 w).mono fun e w' ⟨h1, h2⟩ => ⟨_, h1, rfl, by rw [h2]; simpa [QL] using hS⟩
  · have hH : HoldsK kC.enc 2 w b 0 l.toArray := fun j hj => by
      rw [Cb] at hj ⊢
      have hj' : j < (kC.cells l).length := by simpa using hj
      refine ⟨?_, ?_⟩
      · rw [Nat.zero_add]
        refine hb.cell ?_
        rw [List.getElem?_append_left (by simpa using hj')]
        simp [hj']
      · exact hb.free _ (by simp; omega)
    refine (hsome b 0 cap l w hH hb.lt hl).mono fun e w' ⟨h1, n, os, h2⟩ => ⟨_, h1, rfl, ?_⟩
    have hlt := hb.lt
    have hcl : (kC.cells (QL l)).length = (kC.cells l).length := by rw [RowC.cells_len, RowC.cells_len, ZZ]
    unfold sortWorldK putRowK at h2
    rw [Cb] at h2
    have hheap : ∀ k, k < w.heap.size → k ≠ b → w'.heap[k]? = w.heap[k]? := fun k hk hne => by
      rw [h2, heap_grow_old _ _ (by simpa using hk)]
      simp only [putRow, mapBlock, heap_ahead, Array.getElem?_modify]
      rw [if_neg (fun q => hne q.symm)]
    obtain ⟨T, lo, hi, hc, hfz⟩ := hb
    have hnew : w'.heap[b]? = some (.cells (kC.cells (QL l) ++ sp).toArray T (lo, hi)) := by
      rw [h2, heap_grow_old _ _ (by simpa using hlt)]
      simp only [putRow, mapBlock, heap_ahead, Array.getElem?_modify, if_pos, hc, Option.map_some, onCells]
      rw [DT _ _ _ hcl]
    have ho : Only [b] w w' := by
      refine ⟨?_, ?_, ?_, ?_, fun k hk hn => hheap k hk (by simpa using hn)⟩
      · rw [h2]; rfl
      · rw [h2]; rfl
      · rw [h2]; rfl
      · rw [h2]; simp
    have hfin := hS.own_set (w' := w') 0 rfl (v' := .slice (some ⟨b, 0, none⟩) l.length cap) (n' := l.length) (size' := 2) (xs' := kC.cells (QL l)) (fun foot' g => by
      obtain ⟨_, g⟩ := g
      rcases g with ⟨g0, _⟩ | ⟨b', cap', sp', g0, g1, g2, g3, g4⟩
      · cases g0
      · simp only [Value.slice.injEq, Option.some.injEq, Addr.mk.injEq, and_true, true_and] at g0
        obtain ⟨rfl, rfl⟩ := g0
        refine ⟨[b], ⟨?_, .inr ⟨b, cap, sp, rfl, hcap, ⟨T, lo, hi, ?_, ?_⟩, ?_, rfl⟩⟩, ?_, ?_⟩
        · rw [kC.cells_len, ZZ]; rfl
        · exact hnew
        · rcases hfz with q | q
          · exact .inl q
          · refine .inr ?_
            simp only [List.length_append, kC.cells_len, ZZ] at q ⊢; exact q
        · simp only [List.length_append, kC.cells_len, ZZ] at hsz ⊢; exact hsz
        · rw [g4]; exact ho
        · rw [g4]; intro k hk; exact .inl hk)
    have e : (QL l).length = l.length := ZZ l
    show Sat w' (Wl _ (QL l).length 2 _ :: As)
    rw [e]; exact hfin
end Go.Proofs.YtkcjfoaejijdoaaGreatDoor.M
/-
  DERIVED: THE SHELF's CONTRACTS AT THIS DUMP, IN PLAIN WORDS (tools/lay-plain.mjs out of 'TryzKs.lean', which tools/lay-shelf.mjs wrote): THE SAME DECLARATIONS UNDER THE SAME NAMES: 'import', 'namespace', 'open', 'def', 'theorem' AND NOTHING ELSE: no command of the shelf's: FOR A HAND-IN. Each laying: the table of numbers ('.._ren') and one theorem, a field a fact of the dump's own or the kernel's comparison; each contract: ONE APPLICATION.
-/
namespace Go.Proofs
open Go.Shelf
def Tryz.sortKeys_ren : Go.Shelf.Ren := ⟨fun | 6 => 162 | 15 => 168 | 14 => 190 | 28 => 201 | 29 => 202 | 20 => 224 | 21 => 225 | 22 => 226 | 23 => 227 | 24 => 228 | 25 => 229 | 26 => 230 | 27 => 231 | 46 => 245 | 47 => 233 | 48 => 234 | 49 => 246 | 50 => 247 | 57 => 255 | n => n, fun | 22 => 98 | 24 => 76 | 25 => 178 | 3 => 3 | 39 => 31 | 0 => 0 | 53 => 252 | 55 => 22 | 4 => 4 | 46 => 245 | 45 => 244 | 50 => 63 | 5 => 5 | 9 => 9 | 66 => 274 | 70 => 132 | 76 => 285 | 77 => 286 | n => n, fun | n => n⟩
theorem Tryz.sortKeys : Go.Proofs.SlLaysF0.n6 Tryz.prog Tryz.sortKeys_ren := {
  mixed := by kernel_rfl
  f6 := ⟨Tryz.f162.name, by decide, Tryz.func162.trans (congrArg some (by kernel_rfl))⟩
  f14 := ⟨Tryz.f190.name, by decide, Tryz.func190.trans (congrArg some (by kernel_rfl))⟩
  f15 := Tryz.func168.trans (congrArg some (by kernel_rfl))
  f20 := ⟨Tryz.f224.name, by decide, Tryz.func224.trans (congrArg some (by kernel_rfl))⟩
  f21 := ⟨Tryz.f225.name, by decide, Tryz.func225.trans (congrArg some (by kernel_rfl))⟩
  f22 := ⟨Tryz.f226.name, by decide, Tryz.func226.trans (congrArg some (by kernel_rfl))⟩
  f23 := ⟨Tryz.f227.name, by decide, Tryz.func227.trans (congrArg some (by kernel_rfl))⟩
  f24 := ⟨Tryz.f228.name, by decide, Tryz.func228.trans (congrArg some (by kernel_rfl))⟩
  f25 := ⟨Tryz.f229.name, by decide, Tryz.func229.trans (congrArg some (by kernel_rfl))⟩
  f26 := ⟨Tryz.f230.name, by decide, Tryz.func230.trans (congrArg some (by kernel_rfl))⟩
  f27 := ⟨Tryz.f231.name, by decide, Tryz.func231.trans (congrArg some (by kernel_rfl))⟩
  f28 := Tryz.func201.trans (congrArg some (by kernel_rfl))
  f29 := Tryz.func202.trans (congrArg some (by kernel_rfl))
  f46 := ⟨Tryz.f245.name, by decide, Tryz.func245.trans (congrArg some (by kernel_rfl))⟩
  f47 := Tryz.func233.trans (congrArg some (by kernel_rfl))
  f48 := Tryz.func234.trans (congrArg some (by kernel_rfl))
  f49 := ⟨Tryz.f246.name, by decide, Tryz.func246.trans (congrArg some (by kernel_rfl))⟩
  f50 := ⟨Tryz.f247.name, by decide, Tryz.func247.trans (congrArg some (by kernel_rfl))⟩
  f57 := ⟨Tryz.f255.name, by decide, Tryz.func255.trans (congrArg some (by kernel_rfl))⟩
  t0 := Tryz.underlying0
  a0 := Tryz.isAgg0
  z0 := Tryz.sizeOf0
  v0 := Tryz.zeroValue0
  t3 := Tryz.underlying3
  a3 := Tryz.isAgg3
  z3 := Tryz.sizeOf3
  v3 := Tryz.zeroValue3
  t4 := Tryz.underlying4
  a4 := Tryz.isAgg4
  z4 := Tryz.sizeOf4
  v4 := Tryz.zeroValue4
  t5 := Tryz.underlying5
  a5 := Tryz.isAgg5
  z5 := Tryz.sizeOf5
  v5 := Tryz.zeroValue5
  t9 := Tryz.underlying9
  a9 := Tryz.isAgg9
  z9 := Tryz.sizeOf9
  v9 := Tryz.zeroValue9
  t22 := Tryz.underlying98
  a22 := Tryz.isAgg98
  z22 := Tryz.sizeOf98
  v22 := Tryz.zeroValue98
  t25 := Tryz.underlying178
  a25 := Tryz.isAgg178
  z25 := Tryz.sizeOf178
  v25 := Tryz.zeroValue178
  t39 := Tryz.underlying31
  a39 := Tryz.isAgg31
  z39 := Tryz.sizeOf31
  v39 := Tryz.zeroValue31
  t45 := Tryz.underlying244
  a45 := Tryz.isAgg244
  z45 := Tryz.sizeOf244
  v45 := Tryz.zeroValue244
  t46 := Tryz.underlying245
  a46 := Tryz.isAgg245
  z46 := Tryz.sizeOf245
  v46 := Tryz.zeroValue245
  t50 := Tryz.underlying63
  a50 := Tryz.isAgg63
  z50 := Tryz.sizeOf63
  v50 := Tryz.zeroValue63
  t53 := Tryz.underlying252
  a53 := Tryz.isAgg252
  z53 := Tryz.sizeOf252
  v53 := Tryz.zeroValue252
  t55 := Tryz.underlying22
  a55 := Tryz.isAgg22
  z55 := Tryz.sizeOf22
  v55 := Tryz.zeroValue22
  t66 := Tryz.underlying274
  a66 := Tryz.isAgg274
  z66 := Tryz.sizeOf274
  v66 := Tryz.zeroValue274
  t70 := Tryz.underlying132
  a70 := Tryz.isAgg132
  z70 := Tryz.sizeOf132
  v70 := Tryz.zeroValue132
  t76 := Tryz.underlying285
  a76 := Tryz.isAgg285
  z76 := Tryz.sizeOf285
  v76 := Tryz.zeroValue285
  t77 := Tryz.underlying286
  a77 := Tryz.isAgg286
  z77 := Tryz.sizeOf286
  v77 := Tryz.zeroValue286 }
end Go.Proofs
/- maps.Keys -/
namespace Go.Proofs.YtkcjfoaejijdoaaGreatDoor
open Go.RowKit M
set_option linter.unusedVariables false
end Go.Proofs.YtkcjfoaejijdoaaGreatDoor
/- sheets: Live -/
namespace Go.Proofs.YtkcjfoaejijdoaaGreatDoor
open Go.RowKit M
set_option linter.unusedVariables false
theorem Came.of_all {κ : Type} {g : κ → Option Value} {ks : List κ} (h : AllC g ks) : Came g ks := ⟨h.nodup, fun k hk => (h.mem k).1 hk⟩
end Go.Proofs.YtkcjfoaejijdoaaGreatDoor
/- leaves: keys in order -/
namespace Go.Proofs.YtkcjfoaejijdoaaGreatDoor
open Go.RowKit M
set_option linter.unusedVariables false
theorem M4 (x y : KD) : SE x y = cfK x y := rfl
theorem DM (w : World) : Sat w [] := ⟨fun _ => False, rfl⟩
theorem sortL0 {w : World} {v : Value} {l : List KD} {F : Th} (hS : Sat w [rowT kC v l, F]) (hl : l.length < 4611686018427387904) : Calls Tryz.prog 162 #[v, .func (.func 111) #[] #[]] w (Ret fun u w' => u = .tuple #[] ∧ Sat w' [rowT kC v (QL l), F]) :=
  KO (fun blk off cap ss w hH hb hz => AnyQ.slices_SortFunc_total Tryz.sortKeys 2 Tryz.isAgg76 Tryz.sizeOf76 kC.enc (fun _ => rfl) (fun x v hv => by simp [kC] at hv; rcases hv with rfl | rfl <;> rfl) cfK swoK 111 #[] blk off cap ss.toArray w (enters_of Tryz.func111 (by kernel_rfl) rfl)
    (fun m os dk _ x y => by
      rw [Array.append_empty]
      exact (cmpL_sp (DM _).emp_intro x y).mono fun e w' h => by
        obtain ⟨v, rfl, rfl, h⟩ := h
        exact ⟨by rw [M4], h⟩) hH hb (by simpa using hz) totK)
    (fun p cap w => AnyF.slices_SortFunc_none Tryz.sortKeys p cap _ w) hS hl
theorem sortP0 {w : World} {v : Value} {l : List KD} {F : Th} (hS : Sat w [rowT kC v l, F]) (hl : l.length < 4611686018427387904) : Calls Tryz.prog 162 #[v, .func (.func 126) #[] #[]] w (Ret fun u w' => u = .tuple #[] ∧ Sat w' [rowT kC v (QL l), F]) :=
  KO (fun blk off cap ss w hH hb hz => AnyQ.slices_SortFunc_total Tryz.sortKeys 2 Tryz.isAgg76 Tryz.sizeOf76 kC.enc (fun _ => rfl) (fun x v hv => by simp [kC] at hv; rcases hv with rfl | rfl <;> rfl) cfK swoK 126 #[] blk off cap ss.toArray w (enters_of Tryz.func126 (by kernel_rfl) rfl)
    (fun m os dk _ x y => by
      rw [Array.append_empty]
      exact (cmpI_sp (DM _).emp_intro x y).mono fun e w' h => by
        obtain ⟨v, rfl, rfl, h⟩ := h
        exact ⟨by rw [M4], h⟩) hH hb (by simpa using hz) totK)
    (fun p cap w => AnyF.slices_SortFunc_none Tryz.sortKeys p cap _ w) hS hl
theorem Td {w : World} {g : KD → Option Value} {It F : Th} {gf : Nat} {caps : List Value} (hS : Sat w [It, F]) (hcal : QM Tryz.prog gf = true) (hIt : ItK g gf caps It) (hlen : ∀ ks, Came g ks → ks.length ≤ 1000000000) :
    Calls Tryz.prog 109 #[.func (.func gf) #[] caps.toArray, .func (.func 111) #[] #[]] w (Ret fun v w' => ∃ ks, AllC g ks ∧ Sat w' [rowT kC v (QL ks), It, F]) := by
 refine Qt Tryz.func109 rfl Tryz.ntmps109 rfl ?_
 refine Qd (Qa (Qe rfl rfl (Qf (Qc (Qd (Qa (Qb rfl rfl ?_)))))))
 have hC1 := hS.split [0] [true, false] rfl; dsimp only [QC, Qz, Q9, Q8, Q7] at hC1
 refine Qo Ct rfl (colK hC1 hcal hIt hlen) rfl ?_
 rintro e w1 ⟨_, rfl, ks, hks, hS1⟩; refine ⟨_, rfl, ?_⟩
 replace hS1 := hS1.join rfl; dsimp only [QU, QT, Q8, Q7] at hS1; clear hC1
 have h1v := hS1.own_one 0 rfl
 have hln := hlen _ (Came.of_all hks)
 refine Qe rfl rfl (Qf (Qc (Qd (Qa (Qb rfl rfl (Qb rfl rfl ?_))))))
 have hC2 := hS1.split [0] [true, false, false] rfl; dsimp only [QC, Qz, Q9, Q8, Q7] at hC2
 refine Qo Cs rfl (sortL0 hC2 (by omega)) rfl ?_
 rintro e w2 ⟨_, rfl, rfl, hS2⟩; refine ⟨_, rfl, ?_⟩
 replace hS2 := hS2.join rfl; dsimp only [QU, QT, Q8, Q7] at hS2; clear hC2
 clear hS1
 refine Qf (Qc (Qd (Qa (Qb rfl rfl (Qe rfl rfl (Qf (Qc (Q0 ?_))))))))
 refine QV (.inr rfl) rfl rfl ?_
 exact ⟨_, rfl, ks, hks, hS2⟩
theorem Tc {w : World} {g : KD → Option Value} {It F : Th} {gf : Nat} {caps : List Value} (hS : Sat w [It, F]) (hcal : QM Tryz.prog gf = true) (hIt : ItK g gf caps It) (hlen : ∀ ks, Came g ks → ks.length ≤ 1000000000) :
    Calls Tryz.prog 109 #[.func (.func gf) #[] caps.toArray, .func (.func 126) #[] #[]] w (Ret fun v w' => ∃ ks, AllC g ks ∧ Sat w' [rowT kC v (QL ks), It, F]) := by
 refine Qt Tryz.func109 rfl Tryz.ntmps109 rfl ?_
 refine Qd (Qa (Qe rfl rfl (Qf (Qc (Qd (Qa (Qb rfl rfl ?_)))))))
 have hC1 := hS.split [0] [true, false] rfl; dsimp only [QC, Qz, Q9, Q8, Q7] at hC1
 refine Qo Ct rfl (colK hC1 hcal hIt hlen) rfl ?_
 rintro e w1 ⟨_, rfl, ks, hks, hS1⟩; refine ⟨_, rfl, ?_⟩
 replace hS1 := hS1.join rfl; dsimp only [QU, QT, Q8, Q7] at hS1; clear hC1
 have h1v := hS1.own_one 0 rfl
 have hln := hlen _ (Came.of_all hks)
 refine Qe rfl rfl (Qf (Qc (Qd (Qa (Qb rfl rfl (Qb rfl rfl ?_))))))
 have hC2 := hS1.split [0] [true, false, false] rfl; dsimp only [QC, Qz, Q9, Q8, Q7] at hC2
 refine Qo Cs rfl (sortP0 hC2 (by omega)) rfl ?_
 rintro e w2 ⟨_, rfl, rfl, hS2⟩; refine ⟨_, rfl, ?_⟩
 replace hS2 := hS2.join rfl; dsimp only [QU, QT, Q8, Q7] at hS2; clear hC2
 clear hS1
 refine Qf (Qc (Qd (Qa (Qb rfl rfl (Qe rfl rfl (Qf (Qc (Q0 ?_))))))))
 refine QV (.inr rfl) rfl rfl ?_
 exact ⟨_, rfl, ks, hks, hS2⟩
set_option maxRecDepth 100000 in
theorem RV {w : World} {b : Nat} {g : KD → Option Value} {F : Th} (hS : Sat w [QH Xu b g, F]) (hlen : ∀ ks, Came g ks → ks.length ≤ 1000000000) :
    Calls Tryz.prog 49 #[.map (some b)] w (Ret fun v w' => ∃ ks, AllC g ks ∧ Sat w' [rowT kC v (QL ks), QH Xu b g, F]) := by
 refine Qt Tryz.func49 rfl Tryz.ntmps49 rfl ?_
 refine Qd (Qa (Qe rfl rfl (Qf (Qc (Qd (Qa (Qb rfl rfl ?_)))))))
 have hC1 := hS.split [] [false, false] rfl; dsimp only [QC, Qz, Q9, Q8, Q7] at hC1
 refine Qo cal_110 rfl (kl_sp hC1 rfl) rfl ?_
 rintro e w1 ⟨_, rfl, ck, rfl, hS1⟩; refine ⟨_, rfl, ?_⟩
 replace hS1 := hS1.join rfl; dsimp only [QU, QT, Q8, Q7] at hS1; clear hC1
 have hK := Sat.fold (As := [QO ck [.map (some b)], QH Xu b g]) (hS1.pick [0, 1, 2] rfl)
 have hC2 := hK.split [0] [true, false] rfl; dsimp only [QC, Qz, Q9, Q8, Q7] at hC2
 refine Qo C1 rfl (Td hC2 cal_163 (itkl ck b g) hlen) rfl ?_
 rintro e w2 ⟨_, rfl, ks, hks, hS2⟩; refine ⟨_, rfl, ?_⟩
 replace hS2 := hS2.join rfl; dsimp only [QU, QT, Q8, Q7] at hS2; clear hC2
 clear hK
 refine Qe rfl rfl (Qf (Qc (Q0 ?_)))
 refine QV (.inr rfl) rfl rfl ?_
 have hz := (hS2.pick [1, 0, 2] rfl).flat; dsimp only [Q8, Q7] at hz
 exact ⟨_, rfl, ks, hks, hz.pick [2, 1, 3] rfl⟩
set_option maxRecDepth 100000 in
theorem RU {w : World} {b : Nat} {g : KD → Option Value} {F : Th} (hS : Sat w [QH Xu b g, F]) (hlen : ∀ ks, Came g ks → ks.length ≤ 1000000000) :
    Calls Tryz.prog 71 #[.map (some b)] w (Ret fun v w' => ∃ ks, AllC g ks ∧ Sat w' [rowT kC v (QL ks), QH Xu b g, F]) := by
 refine Qt Tryz.func71 rfl Tryz.ntmps71 rfl ?_
 refine Qd (Qa (Qe rfl rfl (Qf (Qc (Qd (Qa (Qb rfl rfl ?_)))))))
 have hC1 := hS.split [] [false, false] rfl; dsimp only [QC, Qz, Q9, Q8, Q7] at hC1
 refine Qo cal_125 rfl (kp_sp hC1 rfl) rfl ?_
 rintro e w1 ⟨_, rfl, ck, rfl, hS1⟩; refine ⟨_, rfl, ?_⟩
 replace hS1 := hS1.join rfl; dsimp only [QU, QT, Q8, Q7] at hS1; clear hC1
 have hK := Sat.fold (As := [QO ck [.map (some b)], QH Xu b g]) (hS1.pick [0, 1, 2] rfl)
 have hC2 := hK.split [0] [true, false] rfl; dsimp only [QC, Qz, Q9, Q8, Q7] at hC2
 refine Qo C1 rfl (Tc hC2 cal_175 (itkp ck b g) hlen) rfl ?_
 rintro e w2 ⟨_, rfl, ks, hks, hS2⟩; refine ⟨_, rfl, ?_⟩
 replace hS2 := hS2.join rfl; dsimp only [QU, QT, Q8, Q7] at hS2; clear hC2
 clear hK
 refine Qe rfl rfl (Qf (Qc (Q0 ?_)))
 refine QV (.inr rfl) rfl rfl ?_
 have hz := (hS2.pick [1, 0, 2] rfl).flat; dsimp only [Q8, Q7] at hz
 exact ⟨_, rfl, ks, hks, hz.pick [2, 1, 3] rfl⟩
end Go.Proofs.YtkcjfoaejijdoaaGreatDoor
