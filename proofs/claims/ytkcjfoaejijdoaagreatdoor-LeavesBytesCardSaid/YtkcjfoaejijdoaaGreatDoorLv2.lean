/- leaves: touch, place -/
import Derived.Test.YtkcjfoaejijdoaaGreatDoorLv1
namespace Go.Proofs.YtkcjfoaejijdoaaGreatDoor
open Go.RowKit M
set_option linter.unusedVariables false
noncomputable def Zj (L : LvD) (id : Int) (t : TrD) (k : KD) (x : LfD) : LvD := { L with tr := Xj L.tr id (some { t with lv := Xj t.lv k (some x) }) }
/-- a leaf of a trial, taken out, and put back changed -/
theorem JO {w : World} {b : Nat} {L : LvD} {id : Int} {t : TrD} {k : KD} {x : LfD} {As : List Th} (ht : L.tr id = some t) (hx : t.lv k = some x) (h : Sat w (ZV b L :: As)) :
    Sat w (QO x.ad [intV x.base, intV x.own, XG x.rd, XG x.wr] :: Zh Ka (Xj t.lv k none) :: QO t.ad [intV t.parent, .map (some t.ml), .map (some t.md)] :: QH Xu t.ml (XV LfD.ad t.lv) :: QH WM t.md (Jc t.dr) :: Zh UW (Xj L.tr id none) :: QO b [ptrV L.sp 0, .map (some L.mp), .map (some L.mt), intV L.cur, .map (some L.ms)] :: QH Xu L.mp (Zo L.pres) :: QH Xd L.mt (XV TrD.ad L.tr) :: QH Xd L.ms (Jc L.sh) :: As) := by
  have h1 := Z5 (i := id) (t := t) ((XQ h).perm ((List.Perm.cons _ (List.Perm.cons _ (List.Perm.swap _ _ _))).trans ((List.Perm.cons _ (List.Perm.swap _ _ _)).trans (List.Perm.swap _ _ _)))) ht
  have h2 := Yu (k := k) (x := x) (h1.perm ((List.Perm.cons _ (List.Perm.swap _ _ _)).trans (List.Perm.swap _ _ _))) hx
  exact h2
theorem WD {w : World} {b : Nat} {L : LvD} {id : Int} {t : TrD} {k : KD} {x y : LfD} {As : List Th} (ht : L.tr id = some t) (hx : t.lv k = some x) (hy : y.ad = x.ad)
    (h : Sat w (QO y.ad [intV y.base, intV y.own, XG y.rd, XG y.wr] :: Zh Ka (Xj t.lv k none) :: QO t.ad [intV t.parent, .map (some t.ml), .map (some t.md)] :: QH Xu t.ml (XV LfD.ad t.lv) :: QH WM t.md (Jc t.dr) :: Zh UW (Xj L.tr id none) :: QO b [ptrV L.sp 0, .map (some L.mp), .map (some L.mt), intV L.cur, .map (some L.ms)] :: QH Xu L.mp (Zo L.pres) :: QH Xd L.mt (XV TrD.ad L.tr) :: QH Xd L.ms (Jc L.sh) :: As)) : Sat w (ZV b (Zj L id t k y) :: As) := by
  have h1 := Sa (x := y) h
  rw [← YQ hx hy] at h1
  have h2 := Ve (t := { t with lv := Xj t.lv k (some y) }) (i := id) (T := L.tr) (h1.perm ((List.Perm.swap _ _ _).trans (List.Perm.cons _ (List.Perm.swap _ _ _))))
  rw [← YQ (ad := TrD.ad) (f := L.tr) (k := id) (x := t) (y := { t with lv := Xj t.lv k (some y) }) ht rfl] at h2
  exact QY (L := Zj L id t k y) (h2.perm ((List.Perm.swap _ _ _).trans ((List.Perm.cons _ (List.Perm.swap _ _ _)).trans (List.Perm.cons _ (List.Perm.cons _ (List.Perm.swap _ _ _))))))
theorem DH {L : LvD} {id : Int} {t : TrD} {k : KD} {x : LfD} : (Zj L id t k x).tr id = some { t with lv := Xj t.lv k (some x) } := Q3
theorem Ky {T T' : Int → Option TrD} (h : ∀ i, (T' i).map TrD.parent = (T i).map TrD.parent) : ∀ n i, JI T n i → JI T' n i
  | 0, _, q => q
  | n + 1, i, q => by
    rcases q with q | q
    · exact .inl q
    · refine .inr ?_
      have h1 := h i
      cases a : T i with
      | none => rw [a] at h1; cases c : T' i with
        | none => trivial
        | some y => rw [c] at h1; cases h1
      | some x =>
        rw [a] at h1 q
        cases c : T' i with
        | none => trivial
        | some y =>
          rw [c] at h1
          have e : y.parent = x.parent := by simpa using h1
          show JI T' n y.parent
          rw [e]; exact Ky h n _ q
theorem Wk {T : Int → Option TrD} {i : Int} {t t' : TrD} (ht : T i = some t) (hp : t'.parent = t.parent) : ∀ j, ((Xj T i (some t')) j).map TrD.parent = (T j).map TrD.parent := fun j => by
  by_cases e : j = i
  · subst e; rw [Q3, ht]; simp [hp]
  · rw [QI e]
theorem Tk {L : LvD} {id : Int} {t : TrD} {k : KD} {x : LfD} (ht : L.tr id = some t) (hE : ∀ i, JI L.tr Z9 i) : ∀ i, JI (Zj L id t k x).tr Z9 i := fun i => Ky (Wk (t' := { t with lv := Xj t.lv k (some x) }) ht rfl) _ _ (hE i)
def JM (t : TrD) (k : KD) (s : Int) (a : Nat) : LfD := ⟨a, s, s, 0#64, if t.dr k.1 = true then BitVec.allOnes 64 else 0#64⟩
/-- what touch leaves -/
def TouR (L : LvD) (V : VS) (id : Int) (t : TrD) (k : KD) (L' : LvD) (V' : VS) (t' : TrD) (x' : LfD) : Prop :=
  (t.lv k = some x' ∧ L' = L ∧ V' = V ∧ t' = t) ∨ (t.lv k = none ∧ ∃ a, x' = JM t k (Xo L id k) a ∧ t' = { t with lv := Xj t.lv k (some x') } ∧ L' = { L with tr := Xj L.tr id (some t'), sh := Jx (Jx L.sh (Xo L id k)) (Xo L id k) } ∧ V' = refW (refW V (Xo L id k)) (Xo L id k))
section
variable {L L' : LvD} {V V' : VS} {id : Int} {t t' : TrD} {k : KD} {x' : LfD}
theorem TouR.tr (h : TouR L V id t k L' V' t' x') (ht : L.tr id = some t) : L'.tr id = some t' := by
  rcases h with ⟨_, rfl, _, rfl⟩ | ⟨_, a, _, _, rfl, _⟩
  · exact ht
  · exact Q3
theorem TouR.lv (h : TouR L V id t k L' V' t' x') : t'.lv k = some x' := by
  rcases h with ⟨h, rfl, _, rfl⟩ | ⟨_, a, _, rfl, _, _⟩
  · exact h
  · exact Q3
theorem TouR.sp (h : TouR L V id t k L' V' t' x') : L'.sp = L.sp := by
  rcases h with ⟨_, rfl, _, _⟩ | ⟨_, a, _, _, rfl, _⟩ <;> rfl
theorem TouR.ends (h : TouR L V id t k L' V' t' x') (ht : L.tr id = some t) (hE : ∀ i, JI L.tr Z9 i) : ∀ i, JI L'.tr Z9 i := by
  rcases h with ⟨_, rfl, _, _⟩ | ⟨_, a, _, rfl, rfl, _⟩
  · exact hE
  · exact fun i => Ky (Wk (t' := { t with lv := Xj t.lv k (some x') }) ht rfl) _ _ (hE i)
theorem TouR.sees (h : TouR L V id t k L' V' t' x') (ht : L.tr id = some t) (h0 : id ≠ 0) : Xo L' id k = x'.own := YN h0 (h.tr ht) h.lv
end
def Kp (ob : Bs) (a : Int) : Value := if 0 ≤ a ∧ a < 16384 then .tuple #[Xu (ob, a / 64), XG (1#64 <<< (a % 64).toNat), .bool true] else .tuple #[Xu ([], 0), XG 0#64, .bool false]
/-- a page of the present made exclusive -/
def OwnP (L : LvD) (V : VS) (k : KD) (Fr : Nat) (L' : LvD) (V' : VS) (s e : Int) : Prop :=
  (e = 0 ∧ s = L.pres k ∧ s ≠ 0 ∧ Za V s = 1 ∧ L' = L ∧ V' = V) ∨ (e = 6 ∧ s = 0 ∧ JW V Fr ∧ L' = L ∧ V' = V) ∨
  (e = 0 ∧ 1 ≤ s ∧ V s = none ∧ ¬ (L.pres k ≠ 0 ∧ Za V (L.pres k) = 1) ∧ V' = Zg (Xj V s (some (1, XM V (L.pres k)))) (L.pres k) ∧ L' = { L with pres := XZ L.pres k s, sh := Jt (Xj V s (some (1, XM V (L.pres k)))) L.sh (L.pres k) })
/-- a page of a trial made exclusive; x: its leaf -/
def OwnT (L : LvD) (V : VS) (id : Int) (t : TrD) (k : KD) (x : LfD) (Fr : Nat) (L' : LvD) (V' : VS) (s e : Int) : Prop :=
  (e = 0 ∧ s = x.own ∧ s ≠ 0 ∧ Za V s = 1 ∧ L' = L ∧ V' = V) ∨ (e = 6 ∧ s = 0 ∧ JW V Fr ∧ L' = L ∧ V' = V) ∨
  (e = 0 ∧ 1 ≤ s ∧ V s = none ∧ ¬ (x.own ≠ 0 ∧ Za V x.own = 1) ∧ V' = Zg (Xj V s (some (1, XM V x.own))) x.own ∧ L' = Zj { L with sh := Jt (Xj V s (some (1, XM V x.own))) L.sh x.own } id t k { x with own := s })
theorem Bl {κ α : Type} {ad : α → Nat} {f : κ → Option α} {k : κ} {x : α} {a : Nat} (h : ad x = a) : upd (XV ad f) k (some (ptrV a 0)) = XV ad (Xj f k (some x)) := by subst h; exact DU
theorem NT {w : World} {X : LfD} {a : Nat} {b1 o1 : Int} {r1 w1 : BitVec 64} {As : List Th} (hX : X = ⟨a, b1, o1, r1, w1⟩) (h : Sat w (QO a [intV b1, intV o1, XG r1, XG w1] :: As)) : Sat w (QO X.ad [intV X.base, intV X.own, XG X.rd, XG X.wr] :: As) := by subst hX; exact h
theorem XR {w : World} {kb : Nat} {k : KD} {As : List Th} (h : Sat w (QO kb (Xu k).cells.toList :: As)) : Sat w (QO kb [strV k.1, intV k.2] :: As) := h
set_option maxRecDepth 100000 in
theorem touch_y {w : World} {b n Fr : Nat} {L : LvD} {V : VS} {F : Th} (hS : Sat w [ZV b L, Zv L.sp n Fr V, F]) (hn : n ≤ 600000000) (hE : ∀ i, JI L.tr Z9 i) {id : Int} {t : TrD} (ht : L.tr id = some t) {k : KD} {x : LfD} (hx : t.lv k = some x) :
    Calls Tryz.prog 46 #[ptrV b 0, intV id, Xu k] w (Ret fun v w' => v = ptrV x.ad 0 ∧ Sat w' [ZV b L, Zv L.sp n Fr V, F]) := by
 replace hS := XQ hS
 refine Qt Tryz.func46 rfl Tryz.ntmps46 rfl ?_
 refine Qd (Qa ?_)
 refine Zf hS rfl rfl rfl ?_
 intro kb w1 hS1
 replace hS1 := XR hS1
 refine Qe rfl rfl (Qf (Qc (Qd (Qa (Qb rfl rfl (Qj rfl rfl ?_))))))
 refine Qg rfl Wz rfl ?_
 refine Qu rfl YD (by exact hS1.cell 1 rfl rfl) rfl ?_
 refine Qb rfl rfl ?_
 refine Ze (k := id) 3 hS1 keysInt Tryz.underlying82 rfl rfl rfl H1 (u := (ptrV t.ad 0)) (Zs ht) rfl ?_
 refine Qe rfl rfl (Qf (Qc ?_))
 refine Qh (L' := [(7, _), (6, _), (5, _), (0, _), (1, _)]) (ZH rfl rfl rfl rfl rfl) ?_
 refine Qd (Qd ?_)
 have hS2 := Z5 (hS1.pick [4, 0, 1, 2, 3, 5, 6, 7] rfl) ht
 have hS3 := hS2.drew
 refine QK [0, 1, 2, 3, 4, 5, 6] [] ZT (by kernel_rfl) ?_
 refine Qk rfl rfl rfl (fun _ => (Qr rfl)) ?_
 refine Qk rfl rfl rfl (fun _ => (Qq rfl)) ?_
 refine Qk rfl rfl rfl (fun _ => (Qi rfl ZN)) ?_
 refine QF rfl rfl rfl (Qm rfl Jq (by exact hS3.cell 0 rfl rfl)) ?_
 refine QF rfl rfl rfl (X9 rfl XB Xc (by exact hS3.blk 5 rfl) (by exact Nat.le_of_ble_eq_true rfl) rfl) ?_
 refine QF rfl rfl rfl (Xz (k := k) 1 hS3 keysKey Tryz.underlying90 rfl rfl rfl Hz (u := (ptrV x.ad 0)) (Zs hx)) ?_
 refine Qk rfl rfl rfl (fun _ => (Q6 rfl)) ?_
 refine VC.nil (Qc ?_)
 refine Qh (L' := [(8, _), (7, _), (6, _), (5, _), (0, _), (1, _)]) (Wf rfl rfl rfl rfl rfl rfl) ?_
 refine Qd (Qa (Qb rfl rfl ?_))
 refine YJ Tryz.underlying89 rfl rfl rfl ?_
 refine Qf (Qc ?_)
 refine XP rfl ?_
 refine Qd (Qa (Qb rfl rfl (Qe rfl rfl (Qf (Qc (Q0 (Qs ?_)))))))
 refine QV (.inr rfl) rfl rfl ?_
 have hS4 := Z6 ht (hS3.pick [0, 1, 2, 3, 4, 5, 6, 7, 8, 9, 10, 11] rfl)
 exact ⟨_, rfl, rfl, QY (hS4.pick [2, 3, 4, 0, 5, 6, 7] rfl)⟩
set_option maxRecDepth 100000 in
set_option maxHeartbeats 800000000 in
theorem touch_n {w : World} {b n Fr : Nat} {L : LvD} {V : VS} {F : Th} (hS : Sat w [ZV b L, Zv L.sp n Fr V, F]) (hn : n ≤ 600000000) (hE : ∀ i, JI L.tr Z9 i) {id : Int} {t : TrD} (ht : L.tr id = some t) {k : KD} (hx : t.lv k = none) :
    Calls Tryz.prog 46 #[ptrV b 0, intV id, Xu k] w (Ret fun v w' => ∃ a, v = ptrV a 0 ∧ Sat w' [ZV b { L with tr := Xj L.tr id (some { t with lv := Xj t.lv k (some (JM t k (Xo L id k) a)) }), sh := Jx (Jx L.sh (Xo L id k)) (Xo L id k) }, Zv L.sp (n + 2) Fr (refW (refW V (Xo L id k)) (Xo L id k)), F]) := by
 replace hS := XQ hS
 refine Qt Tryz.func46 rfl Tryz.ntmps46 rfl ?_
 refine Qd (Qa ?_)
 refine Zf hS rfl rfl rfl ?_
 intro kb w1 hS1
 replace hS1 := XR hS1
 refine Qe rfl rfl (Qf (Qc (Qd (Qa (Qb rfl rfl (Qj rfl rfl ?_))))))
 refine Qg rfl Wz rfl ?_
 refine Qu rfl YD (by exact hS1.cell 1 rfl rfl) rfl ?_
 refine Qb rfl rfl ?_
 refine Ze (k := id) 3 hS1 keysInt Tryz.underlying82 rfl rfl rfl H1 (u := (ptrV t.ad 0)) (Zs ht) rfl ?_
 refine Qe rfl rfl (Qf (Qc ?_))
 refine Qh (L' := [(7, _), (6, _), (5, _), (0, _), (1, _)]) (ZH rfl rfl rfl rfl rfl) ?_
 refine Qd (Qd ?_)
 have hS2 := Z5 (hS1.pick [4, 0, 1, 2, 3, 5, 6, 7] rfl) ht
 have hS3 := hS2.drew
 refine QK [0, 1, 2, 3, 4, 5, 6] [] ZT (by kernel_rfl) ?_
 refine Qk rfl rfl rfl (fun _ => (Qr rfl)) ?_
 refine Qk rfl rfl rfl (fun _ => (Qq rfl)) ?_
 refine Qk rfl rfl rfl (fun _ => (Qi rfl ZN)) ?_
 refine QF rfl rfl rfl (Qm rfl Jq (by exact hS3.cell 0 rfl rfl)) ?_
 refine QF rfl rfl rfl (X9 rfl XB Xc (by exact hS3.blk 5 rfl) (by exact Nat.le_of_ble_eq_true rfl) rfl) ?_
 refine QF rfl rfl rfl (Xz (k := k) 1 hS3 keysKey Tryz.underlying90 rfl rfl rfl Hz (u := (.pointer none)) (Nb hx)) ?_
 refine Qk rfl rfl rfl (fun _ => (Q6 rfl)) ?_
 refine VC.nil (Qc ?_)
 refine Qh (L' := [(8, _), (7, _), (6, _), (5, _), (0, _), (1, _)]) (Wf rfl rfl rfl rfl rfl rfl) ?_
 refine Qd (Qa (Qb rfl rfl ?_))
 refine Jd Tryz.underlying89 rfl rfl rfl ?_
 refine Qf (Qc ?_)
 refine Xm rfl ?_
 refine Qy (Qc (Qd ?_))
 have hS4 := Z6 ht (hS3.pick [0, 1, 2, 3, 4, 5, 6, 7, 8, 9, 10, 11] rfl)
 have hS5 := QY (L := L) (hS4.pick [2, 3, 4, 0, 5, 1, 6, 7] rfl)
 refine Qa (Qb rfl rfl (Qb rfl rfl ?_))
 refine XX rfl XB Xc (by first | exact hS5.blk 1 rfl) (by exact Nat.le_of_ble_eq_true rfl) rfl rfl ?_
 have hC6 := hS5.split [0] [true, false, false, false] rfl; dsimp only [QC, Qz, Q9, Q8, Q7] at hC6
 refine Qo Ht rfl (Hk hC6 hE id k) rfl ?_
 rintro e w6 ⟨_, rfl, rfl, hS6⟩; refine ⟨_, rfl, ?_⟩
 replace hS6 := hS6.join rfl; dsimp only [QU, QT, Q8, Q7] at hS6; clear hC6
 clear hS5
 refine Qe rfl rfl (Qf (Qc ?_))
 refine Qh (L' := [(9, _), (7, _), (6, _), (5, _), (0, _)]) (ZH rfl rfl rfl rfl rfl) ?_
 refine Qd (Qa (Qb rfl rfl (Qb rfl rfl ?_)))
 refine GQ (vs' := [intV (Xo L id k), intV (Xo L id k), .int .u64 0, .int .u64 0]) rfl Ng asz_88 zr_88 rfl rfl rfl ?_
 refine Zf hS6 rfl rfl rfl ?_
 intro xa w8 hS8
 clear hS6
 refine Qe rfl rfl (Qf (Qc (Qd ?_)))
 have hS9 := XQ (hS8.pick [1, 0, 2, 3, 4] rfl)
 refine Qa (Qb rfl rfl (Qb rfl rfl ?_))
 have hC10 := hS9.split [0, 4, 7] [true, false, false, false, true, false, false, true, false] rfl; dsimp only [QC, Qz, Q9, Q8, Q7] at hC10
 refine Qo Gs rfl (DR hC10 (by omega) (Xo L id k)) rfl ?_
 rintro e w10 ⟨_, rfl, rfl, hS10⟩; refine ⟨_, rfl, ?_⟩
 replace hS10 := hS10.join rfl; dsimp only [QU, QT, Q8, Q7] at hS10; clear hC10
 clear hS9
 refine Qf (Qc ?_)
 refine Qh (L' := [(10, _), (9, _), (7, _), (6, _), (5, _), (0, _)]) (Wf rfl rfl rfl rfl rfl rfl) ?_
 refine Qd (Qa (Qb rfl rfl (Qb rfl rfl ?_)))
 have hC11 := hS10.split [0, 1, 2] [true, true, true, false, false, false, false, false, false] rfl; dsimp only [QC, Qz, Q9, Q8, Q7] at hC11
 refine Qo Gs rfl (DR hC11 (by omega) (Xo L id k)) rfl ?_
 rintro e w11 ⟨_, rfl, rfl, hS11⟩; refine ⟨_, rfl, ?_⟩
 replace hS11 := hS11.join rfl; dsimp only [QU, QT, Q8, Q7] at hS11; clear hC11
 clear hS10
 refine Qf (Qc (Qd (Qd ?_)))
 have hS12 := Z5 (hS11.pick [5, 0, 1, 2, 3, 4, 6, 7, 8] rfl) ht
 have hS13 := hS12.drew
 refine QK [0, 1, 2, 3, 4, 5, 6] [] ZT (by kernel_rfl) ?_
 refine Qk rfl rfl rfl (fun _ => (Qr rfl)) ?_
 refine Qk rfl rfl rfl (fun _ => (Qq rfl)) ?_
 refine Qk rfl rfl rfl (fun _ => (Qi rfl Vz)) ?_
 refine QF rfl rfl rfl (Qm rfl B7 (by exact hS13.cell 0 rfl rfl)) ?_
 refine Qk rfl rfl rfl (fun _ => (Qi rfl JQ)) ?_
 refine QF rfl rfl rfl (Qm rfl Yz (by exact hS13.cell 11 rfl rfl)) ?_
 refine QF rfl rfl rfl (Xz (k := k.1) 3 hS13 keysStr Tryz.underlying91 rfl rfl rfl zr_4 (u := .bool (t.dr k.1)) (Ds _ _)) ?_
 refine VC.nil (Qc ?_)
 refine Qh (L' := [(46, _), (10, _), (7, _), (6, _), (5, _)]) (ZH rfl rfl rfl rfl rfl) ?_
 refine QR rfl (fun h14 => ?_) (fun h14 => ?_)
 ·have hdr : t.dr k.1 = true := h14
  refine Qa (Qb rfl rfl (Qj rfl rfl ?_))
  refine Qg rfl Wn rfl ?_
  refine Xb hS13 rfl rfl GZ rfl (i := 10) rfl (by exact Nat.le_of_ble_eq_true rfl) ?_
  intro w15 hS15; dsimp only [List.set] at hS15
  clear hS13
  refine Qf (Qc (Qd ?_))
  have hS16 := hS15.drew
  refine QK [0, 1, 2, 3, 4, 5, 6] [6] ZT (by kernel_rfl) ?_
  refine Qk rfl rfl rfl (fun _ => (Qr rfl)) ?_
  refine Qk rfl rfl rfl (fun _ => (Qq rfl)) ?_
  refine Qk rfl rfl rfl (fun _ => (Qi rfl ZN)) ?_
  refine QF rfl rfl rfl (Qm rfl Jq (by exact hS16.cell 0 rfl rfl)) ?_
  refine QF rfl rfl rfl (X9 rfl XB Xc (by exact hS16.blk 11 rfl) (by exact Nat.le_of_ble_eq_true rfl) rfl) ?_
  refine Qk rfl rfl rfl (fun _ => (Qr rfl)) ?_
  refine Xn rfl rfl rfl rfl rfl rfl ?_
  refine X1 (k := k) (v := ptrV xa 0) 1 hS16 keysKey Tryz.underlying90 rfl rfl rfl rfl ?_
  intro w17 hS17; dsimp only [List.set] at hS17
  clear hS16
  refine Zi (.skip (by kernel_rfl) (.skip (by kernel_rfl) .nil)) ?_
  refine VC.nil (Qc ?_)
  refine Qh (L' := [(10, _), (6, _)]) (H0 rfl rfl) ?_
  refine Qd (Qa (Qb rfl rfl (Qe rfl rfl (Qf (Qc (Q0 ?_))))))
  refine QV (.inr rfl) rfl rfl ?_
  have hX : (JM t k (Xo L id k) xa) = ⟨xa, Xo L id k, Xo L id k, 0#64, BitVec.allOnes 64⟩ := by unfold JM; rw [if_pos hdr]
  have hA := NT hX (hS17.pick [10, 2, 0, 1, 3, 4, 5, 8, 9, 6, 7, 12] rfl)
  have hB := TX hx hA
  have hB2 := hB.perm ((List.Perm.swap _ _ _).trans (List.Perm.cons _ (List.Perm.swap _ _ _)))
  rw [Bl (ad := LfD.ad) (x := (JM t k (Xo L id k) xa)) (a := xa) rfl] at hB2
  have hC := Ve (t := ({ t with lv := Xj t.lv k (some (JM t k (Xo L id k) xa)) } : TrD)) (i := id) (T := L.tr) hB2
  rw [← YQ (ad := TrD.ad) (f := L.tr) (k := id) (x := t) (y := ({ t with lv := Xj t.lv k (some (JM t k (Xo L id k) xa)) } : TrD)) ht rfl] at hC
  exact ⟨_, rfl, xa, rfl, QY (L := { L with tr := Xj L.tr id (some ({ t with lv := Xj t.lv k (some (JM t k (Xo L id k) xa)) } : TrD)), sh := Jx (Jx L.sh (Xo L id k)) (Xo L id k) }) (hC.reorder [1, 2, 3, 0, 4, 5, 6] rfl)⟩
 have hdr : t.dr k.1 = false := h14
 refine Qy (Qc (Qd ?_))
 have hS18 := hS13.drew
 refine QK [0, 1, 2, 3, 4, 5, 6] [6] ZT (by kernel_rfl) ?_
 refine Qk rfl rfl rfl (fun _ => (Qr rfl)) ?_
 refine Qk rfl rfl rfl (fun _ => (Qq rfl)) ?_
 refine Qk rfl rfl rfl (fun _ => (Qi rfl ZN)) ?_
 refine QF rfl rfl rfl (Qm rfl Jq (by exact hS18.cell 0 rfl rfl)) ?_
 refine QF rfl rfl rfl (X9 rfl XB Xc (by exact hS18.blk 11 rfl) (by exact Nat.le_of_ble_eq_true rfl) rfl) ?_
 refine Qk rfl rfl rfl (fun _ => (Qr rfl)) ?_
 refine Xn rfl rfl rfl rfl rfl rfl ?_
 refine X1 (k := k) (v := ptrV xa 0) 1 hS18 keysKey Tryz.underlying90 rfl rfl rfl rfl ?_
 intro w19 hS19; dsimp only [List.set] at hS19
 clear hS18
 refine Zi (.skip (by kernel_rfl) (.skip (by kernel_rfl) .nil)) ?_
 refine VC.nil (Qc ?_)
 refine Qh (L' := [(10, _), (6, _)]) (H0 rfl rfl) ?_
 refine Qd (Qa (Qb rfl rfl (Qe rfl rfl (Qf (Qc (Q0 ?_))))))
 refine QV (.inr rfl) rfl rfl ?_
 have hX : (JM t k (Xo L id k) xa) = ⟨xa, Xo L id k, Xo L id k, 0#64, 0#64⟩ := by unfold JM; rw [if_neg (by rw [hdr]; decide)]
 have hA := NT hX (hS19.pick [10, 2, 0, 1, 3, 4, 5, 8, 9, 6, 7, 12] rfl)
 have hB := TX hx hA
 have hB2 := hB.perm ((List.Perm.swap _ _ _).trans (List.Perm.cons _ (List.Perm.swap _ _ _)))
 rw [Bl (ad := LfD.ad) (x := (JM t k (Xo L id k) xa)) (a := xa) rfl] at hB2
 have hC := Ve (t := ({ t with lv := Xj t.lv k (some (JM t k (Xo L id k) xa)) } : TrD)) (i := id) (T := L.tr) hB2
 rw [← YQ (ad := TrD.ad) (f := L.tr) (k := id) (x := t) (y := ({ t with lv := Xj t.lv k (some (JM t k (Xo L id k) xa)) } : TrD)) ht rfl] at hC
 exact ⟨_, rfl, xa, rfl, QY (L := { L with tr := Xj L.tr id (some ({ t with lv := Xj t.lv k (some (JM t k (Xo L id k) xa)) } : TrD)), sh := Jx (Jx L.sh (Xo L id k)) (Xo L id k) }) (hC.reorder [1, 2, 3, 0, 4, 5, 6] rfl)⟩
theorem Vf {w : World} {b n Fr : Nat} {L : LvD} {V : VS} {F : Th} (hS : Sat w [ZV b L, Zv L.sp n Fr V, F]) (hn : n ≤ 600000000) (hE : ∀ i, JI L.tr Z9 i) {id : Int} {t : TrD} (ht : L.tr id = some t) {k : KD} :
    Calls Tryz.prog 46 #[ptrV b 0, intV id, Xu k] w (Ret fun v w' => ∃ L' V' t' x', v = ptrV x'.ad 0 ∧ TouR L V id t k L' V' t' x' ∧ Sat w' [ZV b L', Zv L'.sp (n + 2) Fr V', F]) := by
  cases hx : t.lv k with
  | some x =>
    refine (touch_y hS hn hE ht hx).mono fun e w h => h.mono fun v w h => ?_
    exact ⟨L, V, t, x, h.1, .inl ⟨hx, rfl, rfl, rfl⟩, (Xx (by omega) (h.2.reorder [1, 0, 2] rfl)).reorder [1, 0, 2] rfl⟩
  | none =>
    refine (touch_n hS hn hE ht hx).mono fun e w h => h.mono fun v w h => ?_
    obtain ⟨a, h1, h2⟩ := h
    exact ⟨_, _, _, JM t k (Xo L id k) a, h1, .inr ⟨hx, a, rfl, rfl, rfl, rfl⟩, h2⟩
set_option maxRecDepth 100000 in
theorem Vl {w : World} {F : Th} (hS : Sat w [F]) (ob : Bs) (a : Int) :
    Calls Tryz.prog 42 #[strV ob, intV a] w (Ret fun v w' => v = Kp ob a ∧ Sat w' [F]) := by
 refine Qt Tryz.func42 rfl Tryz.ntmps42 rfl ?_
 refine Qd (Qa ?_)
 refine Xl hS Wp rfl rfl ?_
 intro b1 w1 hS1
 refine Qe rfl rfl (Qe rfl rfl (Qf (Qc (Qd (Qd (Qa (Qb rfl rfl ?_)))))))
 refine Xt rfl rfl rfl ?_
 refine Qb rfl rfl ?_
 refine Xk 9 rfl (fun h2 => ?_) (fun h2 => ?_)
 ·refine Ql rfl rfl (decide_eq_true h2) rfl ?_
  refine Ql rfl rfl (decide_eq_true h2) rfl ?_
  refine Xg rfl (decide_eq_true h2) rfl rfl ?_
  refine Qf (Qc ?_)
  refine Qh (L' := [(12, _), (6, _), (5, _), (4, _), (0, _), (1, _)]) (Wf rfl rfl rfl rfl rfl rfl) ?_
  refine XP rfl ?_
  refine Qd (Qa ?_)
  refine Zy rfl PA K5 Wp rfl rfl ?_
  first | (refine Xa hS1 rfl rfl Xc rfl (by rfl) (i := 0) rfl (by decide) ?_)
  intro w3 hS4; dsimp only [List.set] at hS4
  clear hS1
  refine Qe rfl rfl (Qe rfl rfl (Qf (Qc (Q0 (Qs ?_)))))
  refine Sp (.inr rfl) rfl (P6 rfl XB Xc (by first | exact hS4.blk 0 rfl) (by decide) rfl) (Vi rfl) (Vi rfl) ?_
  exact ⟨_, rfl, by unfold Kp; rw [if_neg (by omega)]; rfl, hS4.pick [1] rfl⟩
 refine Qn rfl rfl (decide_eq_false h2) ?_
 refine Qb rfl rfl ?_
 refine Qn rfl rfl (decide_eq_false h2) ?_
 refine JE rfl rfl rfl ?_
 refine QX rfl (decide_eq_false h2) rfl rfl ?_
 refine Qf (Qc ?_)
 refine Qh (L' := [(12, _), (6, _), (5, _), (4, _), (0, _), (1, _)]) (Wf rfl rfl rfl rfl rfl rfl) ?_
 refine Qx rfl (fun h5 => ?_) (fun h5 => ?_)
 ·refine Qd (Qa ?_)
  refine Zy rfl PA K5 Wp rfl rfl ?_
  first | (refine Xa hS1 rfl rfl Xc rfl (by rfl) (i := 0) rfl (by decide) ?_)
  intro w6 hS7; dsimp only [List.set] at hS7
  clear hS1
  refine Qe rfl rfl (Qe rfl rfl (Qf (Qc (Q0 (Qs ?_)))))
  refine Sp (.inr rfl) rfl (P6 rfl XB Xc (by first | exact hS7.blk 0 rfl) (by decide) rfl) (Vi rfl) (Vi rfl) ?_
  exact ⟨_, rfl, by unfold Kp; rw [if_neg (by omega)]; rfl, hS7.pick [1] rfl⟩
 obtain ⟨m, rfl⟩ : ∃ m : Nat, a = (m : Int) := ⟨a.toNat, by omega⟩
 refine Qy (Qc (Qd ?_))
 have hS8 := hS1.drew
 refine QK [0, 1, 2, 3, 4, 5, 6, 7, 8, 9] [7] ZT (by kernel_rfl) ?_
 refine Qk rfl rfl rfl (fun _ => (Qr rfl)) ?_
 refine Qk rfl rfl rfl (fun _ => (Qr rfl)) ?_
 refine Qk rfl rfl rfl (fun _ => (ev_quo rfl rfl (by omega) (by omega) (by omega))) ?_
 refine Qk rfl rfl rfl (fun _ => (Ws rfl Ui K5 Wp rfl)) ?_
 refine Qk rfl rfl rfl (fun _ => (Qr rfl)) ?_
 refine Qk rfl rfl rfl (fun _ => (Gg rfl rfl (by omega) (by omega))) ?_
 refine Qk rfl rfl rfl (fun _ => (Su (m % 64) rfl rfl (by omega))) ?_
 refine Xn rfl rfl rfl rfl rfl rfl ?_
 first | (refine Xa hS8 rfl rfl Xc rfl (by rfl) (i := 0) rfl (by decide) ?_)
 intro w9 hS10; dsimp only [List.set] at hS10
 clear hS8
 refine Zi .nil ?_
 refine Qk rfl rfl rfl (fun _ => (Q6 rfl)) ?_
 refine Qk rfl rfl rfl (fun _ => (Q6 rfl)) ?_
 refine VC.nil (Qc ?_)
 refine Qh (L' := [(6, _), (5, _), (4, _)]) (Y2 rfl rfl rfl) ?_
 refine Q0 ?_
 refine Sp (.inr rfl) rfl (P6 rfl XB Xc (by first | exact hS10.blk 0 rfl) (by exact Nat.le_of_ble_eq_true rfl) rfl) (Vi rfl) (Vi rfl) ?_
 exact ⟨_, rfl, by unfold Kp; rw [if_pos (by omega)]; rfl, hS10.pick [1] rfl⟩
end Go.Proofs.YtkcjfoaejijdoaaGreatDoor
