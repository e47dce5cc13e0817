/- leaves: touch, place -/
import Derived.Test.YtkcjfoaejijdoaaGreatDoorLv1
namespace Go.Proofs.YtkcjfoaejijdoaaGreatDoor
open Go.RowKit M
set_option linter.unusedVariables false
noncomputable def Zi (L : LvD) (id : Int) (t : TrD) (k : KD) (x : LfD) : LvD := { L with tr := Xi L.tr id (some { t with lv := Xi t.lv k (some x) }) }
/-- a leaf of a trial, taken out, and put back changed -/
theorem JN {w : World} {b : Nat} {L : LvD} {id : Int} {t : TrD} {k : KD} {x : LfD} {As : List Th} (ht : L.tr id = some t) (hx : t.lv k = some x) (h : Sat w (ZU b L :: As)) :
    Sat w (QN x.ad [intV x.base, intV x.own, XF x.rd, XF x.wr] :: Zg VZ (Xi t.lv k none) :: QN t.ad [intV t.parent, .map (some t.ml), .map (some t.md)] :: QG Xt t.ml (XU LfD.ad t.lv) :: QG WL t.md (Jb t.dr) :: Zg UV (Xi L.tr id none) :: QN b [ptrV L.sp 0, .map (some L.mp), .map (some L.mt), intV L.cur, .map (some L.ms)] :: QG Xt L.mp (Zn L.pres) :: QG Xc L.mt (XU TrD.ad L.tr) :: QG Xc L.ms (Jb L.sh) :: As) := by
  have h1 := Z4 (i := id) (t := t) ((XP h).perm ((List.Perm.cons _ (List.Perm.cons _ (List.Perm.swap _ _ _))).trans ((List.Perm.cons _ (List.Perm.swap _ _ _)).trans (List.Perm.swap _ _ _)))) ht
  have h2 := Yt (k := k) (x := x) (h1.perm ((List.Perm.cons _ (List.Perm.swap _ _ _)).trans (List.Perm.swap _ _ _))) hx
  exact h2
theorem WC {w : World} {b : Nat} {L : LvD} {id : Int} {t : TrD} {k : KD} {x y : LfD} {As : List Th} (ht : L.tr id = some t) (hx : t.lv k = some x) (hy : y.ad = x.ad)
    (h : Sat w (QN y.ad [intV y.base, intV y.own, XF y.rd, XF y.wr] :: Zg VZ (Xi t.lv k none) :: QN t.ad [intV t.parent, .map (some t.ml), .map (some t.md)] :: QG Xt t.ml (XU LfD.ad t.lv) :: QG WL t.md (Jb t.dr) :: Zg UV (Xi L.tr id none) :: QN b [ptrV L.sp 0, .map (some L.mp), .map (some L.mt), intV L.cur, .map (some L.ms)] :: QG Xt L.mp (Zn L.pres) :: QG Xc L.mt (XU TrD.ad L.tr) :: QG Xc L.ms (Jb L.sh) :: As)) : Sat w (ZU b (Zi L id t k y) :: As) := by
  have h1 := PZ (x := y) h
  rw [← YP hx hy] at h1
  have h2 := Vd (t := { t with lv := Xi t.lv k (some y) }) (i := id) (T := L.tr) (h1.perm ((List.Perm.swap _ _ _).trans (List.Perm.cons _ (List.Perm.swap _ _ _))))
  rw [← YP (ad := TrD.ad) (f := L.tr) (k := id) (x := t) (y := { t with lv := Xi t.lv k (some y) }) ht rfl] at h2
  exact QX (L := Zi L id t k y) (h2.perm ((List.Perm.swap _ _ _).trans ((List.Perm.cons _ (List.Perm.swap _ _ _)).trans (List.Perm.cons _ (List.Perm.cons _ (List.Perm.swap _ _ _))))))
theorem DG {L : LvD} {id : Int} {t : TrD} {k : KD} {x : LfD} : (Zi L id t k x).tr id = some { t with lv := Xi t.lv k (some x) } := Q3
theorem Kx {T T' : Int → Option TrD} (h : ∀ i, (T' i).map TrD.parent = (T i).map TrD.parent) : ∀ n i, JH T n i → JH T' n i
  | 0, _, q => q
  | n + 1, i, q => by
    rcases q with q | q
    · exact .inl q
    · refine .inr ?_
      have h1 := h i
      cases a : T i with
      | none => rw [a] at h1; cases c : T' i with
        | none => trivial
        | some y => rw [c] at h1; cases h1
      | some x =>
        rw [a] at h1 q
        cases c : T' i with
        | none => trivial
        | some y =>
          rw [c] at h1
          have e : y.parent = x.parent := by simpa using h1
          show JH T' n y.parent
          rw [e]; exact Kx h n _ q
theorem Wj {T : Int → Option TrD} {i : Int} {t t' : TrD} (ht : T i = some t) (hp : t'.parent = t.parent) : ∀ j, ((Xi T i (some t')) j).map TrD.parent = (T j).map TrD.parent := fun j => by
  by_cases e : j = i
  · subst e; rw [Q3, ht]; simp [hp]
  · rw [QH e]
theorem Tj {L : LvD} {id : Int} {t : TrD} {k : KD} {x : LfD} (ht : L.tr id = some t) (hE : ∀ i, JH L.tr Z8 i) : ∀ i, JH (Zi L id t k x).tr Z8 i := fun i => Kx (Wj (t' := { t with lv := Xi t.lv k (some x) }) ht rfl) _ _ (hE i)
def JL (t : TrD) (k : KD) (s : Int) (a : Nat) : LfD := ⟨a, s, s, 0#64, if t.dr k.1 = true then BitVec.allOnes 64 else 0#64⟩
/-- what touch leaves -/
def TouR (L : LvD) (V : VS) (id : Int) (t : TrD) (k : KD) (L' : LvD) (V' : VS) (t' : TrD) (x' : LfD) : Prop :=
  (t.lv k = some x' ∧ L' = L ∧ V' = V ∧ t' = t) ∨ (t.lv k = none ∧ ∃ a, x' = JL t k (Xn L id k) a ∧ t' = { t with lv := Xi t.lv k (some x') } ∧ L' = { L with tr := Xi L.tr id (some t'), sh := Jw (Jw L.sh (Xn L id k)) (Xn L id k) } ∧ V' = refW (refW V (Xn L id k)) (Xn L id k))
section
variable {L L' : LvD} {V V' : VS} {id : Int} {t t' : TrD} {k : KD} {x' : LfD}
theorem TouR.tr (h : TouR L V id t k L' V' t' x') (ht : L.tr id = some t) : L'.tr id = some t' := by
  rcases h with ⟨_, rfl, _, rfl⟩ | ⟨_, a, _, _, rfl, _⟩
  · exact ht
  · exact Q3
theorem TouR.lv (h : TouR L V id t k L' V' t' x') : t'.lv k = some x' := by
  rcases h with ⟨h, rfl, _, rfl⟩ | ⟨_, a, _, rfl, _, _⟩
  · exact h
  · exact Q3
theorem TouR.sp (h : TouR L V id t k L' V' t' x') : L'.sp = L.sp := by
  rcases h with ⟨_, rfl, _, _⟩ | ⟨_, a, _, _, rfl, _⟩ <;> rfl
theorem TouR.ends (h : TouR L V id t k L' V' t' x') (ht : L.tr id = some t) (hE : ∀ i, JH L.tr Z8 i) : ∀ i, JH L'.tr Z8 i := by
  rcases h with ⟨_, rfl, _, _⟩ | ⟨_, a, _, rfl, rfl, _⟩
  · exact hE
  · exact fun i => Kx (Wj (t' := { t with lv := Xi t.lv k (some x') }) ht rfl) _ _ (hE i)
theorem TouR.sees (h : TouR L V id t k L' V' t' x') (ht : L.tr id = some t) (h0 : id ≠ 0) : Xn L' id k = x'.own := YM h0 (h.tr ht) h.lv
end
def Ko (ob : Bs) (a : Int) : Value := if 0 ≤ a ∧ a < 16384 then .tuple #[Xt (ob, a / 64), XF (1#64 <<< (a % 64).toNat), .bool true] else .tuple #[Xt ([], 0), XF 0#64, .bool false]
/-- a page of the present made exclusive -/
def OwnP (L : LvD) (V : VS) (k : KD) (Fr : Nat) (L' : LvD) (V' : VS) (s e : Int) : Prop :=
  (e = 0 ∧ s = L.pres k ∧ s ≠ 0 ∧ XZ V s = 1 ∧ L' = L ∧ V' = V) ∨ (e = 6 ∧ s = 0 ∧ JV V Fr ∧ L' = L ∧ V' = V) ∨
  (e = 0 ∧ 1 ≤ s ∧ V s = none ∧ ¬ (L.pres k ≠ 0 ∧ XZ V (L.pres k) = 1) ∧ V' = Zf (Xi V s (some (1, XL V (L.pres k)))) (L.pres k) ∧ L' = { L with pres := XY L.pres k s, sh := Js (Xi V s (some (1, XL V (L.pres k)))) L.sh (L.pres k) })
/-- a page of a trial made exclusive; x: its leaf -/
def OwnT (L : LvD) (V : VS) (id : Int) (t : TrD) (k : KD) (x : LfD) (Fr : Nat) (L' : LvD) (V' : VS) (s e : Int) : Prop :=
  (e = 0 ∧ s = x.own ∧ s ≠ 0 ∧ XZ V s = 1 ∧ L' = L ∧ V' = V) ∨ (e = 6 ∧ s = 0 ∧ JV V Fr ∧ L' = L ∧ V' = V) ∨
  (e = 0 ∧ 1 ≤ s ∧ V s = none ∧ ¬ (x.own ≠ 0 ∧ XZ V x.own = 1) ∧ V' = Zf (Xi V s (some (1, XL V x.own))) x.own ∧ L' = Zi { L with sh := Js (Xi V s (some (1, XL V x.own))) L.sh x.own } id t k { x with own := s })
theorem Bk {κ α : Type} {ad : α → Nat} {f : κ → Option α} {k : κ} {x : α} {a : Nat} (h : ad x = a) : upd (XU ad f) k (some (ptrV a 0)) = XU ad (Xi f k (some x)) := by subst h; exact DT
theorem NS {w : World} {X : LfD} {a : Nat} {b1 o1 : Int} {r1 w1 : BitVec 64} {As : List Th} (hX : X = ⟨a, b1, o1, r1, w1⟩) (h : Sat w (QN a [intV b1, intV o1, XF r1, XF w1] :: As)) : Sat w (QN X.ad [intV X.base, intV X.own, XF X.rd, XF X.wr] :: As) := by subst hX; exact h
theorem XQ {w : World} {kb : Nat} {k : KD} {As : List Th} (h : Sat w (QN kb (Xt k).cells.toList :: As)) : Sat w (QN kb [strV k.1, intV k.2] :: As) := h
set_option maxRecDepth 100000 in
theorem touch_y {w : World} {b n Fr : Nat} {L : LvD} {V : VS} {F : Th} (hS : Sat w [ZU b L, Zu L.sp n Fr V, F]) (hn : n ≤ 600000000) (hE : ∀ i, JH L.tr Z8 i) {id : Int} {t : TrD} (ht : L.tr id = some t) {k : KD} {x : LfD} (hx : t.lv k = some x) :
    Calls Tryz.prog 46 #[ptrV b 0, intV id, Xt k] w (Ret fun v w' => v = ptrV x.ad 0 ∧ Sat w' [ZU b L, Zu L.sp n Fr V, F]) := by
 replace hS := XP hS
 refine Qt Tryz.func46 rfl Tryz.ntmps46 rfl ?_
 refine Qd (Qa ?_)
 refine Ze hS rfl rfl rfl ?_
 intro kb w1 hS1
 replace hS1 := XQ hS1
 refine Qe rfl rfl (Qf (Qc (Qd (Qa (Qb rfl rfl (Qj rfl rfl ?_))))))
 refine Qg rfl Wy rfl ?_
 refine Qu rfl YC (by exact hS1.cell 1 rfl rfl) rfl ?_
 refine Qb rfl rfl ?_
 refine Zd (k := id) 3 hS1 keysInt Tryz.underlying82 rfl rfl rfl H0 (u := (ptrV t.ad 0)) (Zr ht) rfl ?_
 refine Qe rfl rfl (Qf (Qc ?_))
 refine Qh (L' := [(7, _), (6, _), (5, _), (0, _), (1, _)]) (ZG rfl rfl rfl rfl rfl) ?_
 refine Qd (Qd ?_)
 have hS2 := Z4 (hS1.pick [4, 0, 1, 2, 3, 5, 6, 7] rfl) ht
 have hS3 := hS2.drew
 refine QJ [0, 1, 2, 3, 4, 5, 6] [] ZS (by kernel_rfl) ?_
 refine Qk rfl rfl rfl (fun _ => (Qr rfl)) ?_
 refine Qk rfl rfl rfl (fun _ => (Qq rfl)) ?_
 refine Qk rfl rfl rfl (fun _ => (Qi rfl ZM)) ?_
 refine QE rfl rfl rfl (Qm rfl Jo (by exact hS3.cell 0 rfl rfl)) ?_
 refine QE rfl rfl rfl (X8 rfl XA Xb (by exact hS3.blk 5 rfl) (by exact Nat.le_of_ble_eq_true rfl) rfl) ?_
 refine QE rfl rfl rfl (Xy (k := k) 1 hS3 keysKey Tryz.underlying90 rfl rfl rfl Hy (u := (ptrV x.ad 0)) (Zr hx)) ?_
 refine Qk rfl rfl rfl (fun _ => (Q6 rfl)) ?_
 refine VC.nil (Qc ?_)
 refine Qh (L' := [(8, _), (7, _), (6, _), (5, _), (0, _), (1, _)]) (We rfl rfl rfl rfl rfl rfl) ?_
 refine Qd (Qa (Qb rfl rfl ?_))
 refine YI Tryz.underlying89 rfl rfl rfl ?_
 refine Qf (Qc ?_)
 refine XO rfl ?_
 refine Qd (Qa (Qb rfl rfl (Qe rfl rfl (Qf (Qc (Q0 (Qs ?_)))))))
 refine QU (.inr rfl) rfl rfl ?_
 have hS4 := Z5 ht (hS3.pick [0, 1, 2, 3, 4, 5, 6, 7, 8, 9, 10, 11] rfl)
 exact ⟨_, rfl, rfl, QX (hS4.pick [2, 3, 4, 0, 5, 6, 7] rfl)⟩
set_option maxRecDepth 100000 in
set_option maxHeartbeats 800000000 in
theorem touch_n {w : World} {b n Fr : Nat} {L : LvD} {V : VS} {F : Th} (hS : Sat w [ZU b L, Zu L.sp n Fr V, F]) (hn : n ≤ 600000000) (hE : ∀ i, JH L.tr Z8 i) {id : Int} {t : TrD} (ht : L.tr id = some t) {k : KD} (hx : t.lv k = none) :
    Calls Tryz.prog 46 #[ptrV b 0, intV id, Xt k] w (Ret fun v w' => ∃ a, v = ptrV a 0 ∧ Sat w' [ZU b { L with tr := Xi L.tr id (some { t with lv := Xi t.lv k (some (JL t k (Xn L id k) a)) }), sh := Jw (Jw L.sh (Xn L id k)) (Xn L id k) }, Zu L.sp (n + 2) Fr (refW (refW V (Xn L id k)) (Xn L id k)), F]) := by
 replace hS := XP hS
 refine Qt Tryz.func46 rfl Tryz.ntmps46 rfl ?_
 refine Qd (Qa ?_)
 refine Ze hS rfl rfl rfl ?_
 intro kb w1 hS1
 replace hS1 := XQ hS1
 refine Qe rfl rfl (Qf (Qc (Qd (Qa (Qb rfl rfl (Qj rfl rfl ?_))))))
 refine Qg rfl Wy rfl ?_
 refine Qu rfl YC (by exact hS1.cell 1 rfl rfl) rfl ?_
 refine Qb rfl rfl ?_
 refine Zd (k := id) 3 hS1 keysInt Tryz.underlying82 rfl rfl rfl H0 (u := (ptrV t.ad 0)) (Zr ht) rfl ?_
 refine Qe rfl rfl (Qf (Qc ?_))
 refine Qh (L' := [(7, _), (6, _), (5, _), (0, _), (1, _)]) (ZG rfl rfl rfl rfl rfl) ?_
 refine Qd (Qd ?_)
 have hS2 := Z4 (hS1.pick [4, 0, 1, 2, 3, 5, 6, 7] rfl) ht
 have hS3 := hS2.drew
 refine QJ [0, 1, 2, 3, 4, 5, 6] [] ZS (by kernel_rfl) ?_
 refine Qk rfl rfl rfl (fun _ => (Qr rfl)) ?_
 refine Qk rfl rfl rfl (fun _ => (Qq rfl)) ?_
 refine Qk rfl rfl rfl (fun _ => (Qi rfl ZM)) ?_
 refine QE rfl rfl rfl (Qm rfl Jo (by exact hS3.cell 0 rfl rfl)) ?_
 refine QE rfl rfl rfl (X8 rfl XA Xb (by exact hS3.blk 5 rfl) (by exact Nat.le_of_ble_eq_true rfl) rfl) ?_
 refine QE rfl rfl rfl (Xy (k := k) 1 hS3 keysKey Tryz.underlying90 rfl rfl rfl Hy (u := (.pointer none)) (Na hx)) ?_
 refine Qk rfl rfl rfl (fun _ => (Q6 rfl)) ?_
 refine VC.nil (Qc ?_)
 refine Qh (L' := [(8, _), (7, _), (6, _), (5, _), (0, _), (1, _)]) (We rfl rfl rfl rfl rfl rfl) ?_
 refine Qd (Qa (Qb rfl rfl ?_))
 refine Jc Tryz.underlying89 rfl rfl rfl ?_
 refine Qf (Qc ?_)
 refine Xl rfl ?_
 refine Qy (Qc (Qd ?_))
 have hS4 := Z5 ht (hS3.pick [0, 1, 2, 3, 4, 5, 6, 7, 8, 9, 10, 11] rfl)
 have hS5 := QX (L := L) (hS4.pick [2, 3, 4, 0, 5, 1, 6, 7] rfl)
 refine Qa (Qb rfl rfl (Qb rfl rfl ?_))
 refine XW rfl XA Xb (by first | exact hS5.blk 1 rfl) (by exact Nat.le_of_ble_eq_true rfl) rfl rfl ?_
 have hC6 := hS5.split [0] [true, false, false, false] rfl; dsimp only [Q9, Qz, Q8, cap, Q7] at hC6
 refine Qo Hs rfl (Hj hC6 hE id k) rfl ?_
 rintro e w6 ⟨_, rfl, rfl, hS6⟩; refine ⟨_, rfl, ?_⟩
 replace hS6 := hS6.join rfl; dsimp only [QT, QS, cap, Q7] at hS6; clear hC6
 clear hS5
 refine Qe rfl rfl (Qf (Qc ?_))
 refine Qh (L' := [(9, _), (7, _), (6, _), (5, _), (0, _)]) (ZG rfl rfl rfl rfl rfl) ?_
 refine Qd (Qa (Qb rfl rfl (Qb rfl rfl ?_)))
 refine GP (vs' := [intV (Xn L id k), intV (Xn L id k), .int .u64 0, .int .u64 0]) rfl Nf asz_88 zr_88 rfl rfl rfl ?_
 refine Ze hS6 rfl rfl rfl ?_
 intro xa w8 hS8
 clear hS6
 refine Qe rfl rfl (Qf (Qc (Qd ?_)))
 have hS9 := XP (hS8.pick [1, 0, 2, 3, 4] rfl)
 refine Qa (Qb rfl rfl (Qb rfl rfl ?_))
 have hC10 := hS9.split [0, 4, 7] [true, false, false, false, true, false, false, true, false] rfl; dsimp only [Q9, Qz, Q8, cap, Q7] at hC10
 refine Qo Gr rfl (DQ hC10 (by omega) (Xn L id k)) rfl ?_
 rintro e w10 ⟨_, rfl, rfl, hS10⟩; refine ⟨_, rfl, ?_⟩
 replace hS10 := hS10.join rfl; dsimp only [QT, QS, cap, Q7] at hS10; clear hC10
 clear hS9
 refine Qf (Qc ?_)
 refine Qh (L' := [(10, _), (9, _), (7, _), (6, _), (5, _), (0, _)]) (We rfl rfl rfl rfl rfl rfl) ?_
 refine Qd (Qa (Qb rfl rfl (Qb rfl rfl ?_)))
 have hC11 := hS10.split [0, 1, 2] [true, true, true, false, false, false, false, false, false] rfl; dsimp only [Q9, Qz, Q8, cap, Q7] at hC11
 refine Qo Gr rfl (DQ hC11 (by omega) (Xn L id k)) rfl ?_
 rintro e w11 ⟨_, rfl, rfl, hS11⟩; refine ⟨_, rfl, ?_⟩
 replace hS11 := hS11.join rfl; dsimp only [QT, QS, cap, Q7] at hS11; clear hC11
 clear hS10
 refine Qf (Qc (Qd (Qd ?_)))
 have hS12 := Z4 (hS11.pick [5, 0, 1, 2, 3, 4, 6, 7, 8] rfl) ht
 have hS13 := hS12.drew
 refine QJ [0, 1, 2, 3, 4, 5, 6] [] ZS (by kernel_rfl) ?_
 refine Qk rfl rfl rfl (fun _ => (Qr rfl)) ?_
 refine Qk rfl rfl rfl (fun _ => (Qq rfl)) ?_
 refine Qk rfl rfl rfl (fun _ => (Qi rfl Vy)) ?_
 refine QE rfl rfl rfl (Qm rfl B6 (by exact hS13.cell 0 rfl rfl)) ?_
 refine Qk rfl rfl rfl (fun _ => (Qi rfl JP)) ?_
 refine QE rfl rfl rfl (Qm rfl Yy (by exact hS13.cell 11 rfl rfl)) ?_
 refine QE rfl rfl rfl (Xy (k := k.1) 3 hS13 keysStr Tryz.underlying91 rfl rfl rfl zr_4 (u := .bool (t.dr k.1)) (Dr _ _)) ?_
 refine VC.nil (Qc ?_)
 refine Qh (L' := [(46, _), (10, _), (7, _), (6, _), (5, _)]) (ZG rfl rfl rfl rfl rfl) ?_
 refine QQ rfl (fun h14 => ?_) (fun h14 => ?_)
 ·have hdr : t.dr k.1 = true := h14
  refine Qa (Qb rfl rfl (Qj rfl rfl ?_))
  refine Qg rfl Wm rfl ?_
  refine Xa hS13 rfl rfl GY rfl (i := 10) rfl (by exact Nat.le_of_ble_eq_true rfl) ?_
  intro w15 hS15; dsimp only [List.set] at hS15
  clear hS13
  refine Qf (Qc (Qd ?_))
  have hS16 := hS15.drew
  refine QJ [0, 1, 2, 3, 4, 5, 6] [6] ZS (by kernel_rfl) ?_
  refine Qk rfl rfl rfl (fun _ => (Qr rfl)) ?_
  refine Qk rfl rfl rfl (fun _ => (Qq rfl)) ?_
  refine Qk rfl rfl rfl (fun _ => (Qi rfl ZM)) ?_
  refine QE rfl rfl rfl (Qm rfl Jo (by exact hS16.cell 0 rfl rfl)) ?_
  refine QE rfl rfl rfl (X8 rfl XA Xb (by exact hS16.blk 11 rfl) (by exact Nat.le_of_ble_eq_true rfl) rfl) ?_
  refine Qk rfl rfl rfl (fun _ => (Qr rfl)) ?_
  refine Xm rfl rfl rfl rfl rfl rfl ?_
  refine X0 (k := k) (v := ptrV xa 0) 1 hS16 keysKey Tryz.underlying90 rfl rfl rfl rfl ?_
  intro w17 hS17; dsimp only [List.set] at hS17
  clear hS16
  refine Zh (.skip (by kernel_rfl) (.skip (by kernel_rfl) .nil)) ?_
  refine VC.nil (Qc ?_)
  refine Qh (L' := [(10, _), (6, _)]) (Hz rfl rfl) ?_
  refine Qd (Qa (Qb rfl rfl (Qe rfl rfl (Qf (Qc (Q0 ?_))))))
  refine QU (.inr rfl) rfl rfl ?_
  have hX : (JL t k (Xn L id k) xa) = ⟨xa, Xn L id k, Xn L id k, 0#64, BitVec.allOnes 64⟩ := by unfold JL; rw [if_pos hdr]
  have hA := NS hX (hS17.pick [10, 2, 0, 1, 3, 4, 5, 8, 9, 6, 7, 12] rfl)
  have hB := TW hx hA
  have hB2 := hB.perm ((List.Perm.swap _ _ _).trans (List.Perm.cons _ (List.Perm.swap _ _ _)))
  rw [Bk (ad := LfD.ad) (x := (JL t k (Xn L id k) xa)) (a := xa) rfl] at hB2
  have hC := Vd (t := ({ t with lv := Xi t.lv k (some (JL t k (Xn L id k) xa)) } : TrD)) (i := id) (T := L.tr) hB2
  rw [← YP (ad := TrD.ad) (f := L.tr) (k := id) (x := t) (y := ({ t with lv := Xi t.lv k (some (JL t k (Xn L id k) xa)) } : TrD)) ht rfl] at hC
  exact ⟨_, rfl, xa, rfl, QX (L := { L with tr := Xi L.tr id (some ({ t with lv := Xi t.lv k (some (JL t k (Xn L id k) xa)) } : TrD)), sh := Jw (Jw L.sh (Xn L id k)) (Xn L id k) }) (hC.reorder [1, 2, 3, 0, 4, 5, 6] rfl)⟩
 have hdr : t.dr k.1 = false := h14
 refine Qy (Qc (Qd ?_))
 have hS18 := hS13.drew
 refine QJ [0, 1, 2, 3, 4, 5, 6] [6] ZS (by kernel_rfl) ?_
 refine Qk rfl rfl rfl (fun _ => (Qr rfl)) ?_
 refine Qk rfl rfl rfl (fun _ => (Qq rfl)) ?_
 refine Qk rfl rfl rfl (fun _ => (Qi rfl ZM)) ?_
 refine QE rfl rfl rfl (Qm rfl Jo (by exact hS18.cell 0 rfl rfl)) ?_
 refine QE rfl rfl rfl (X8 rfl XA Xb (by exact hS18.blk 11 rfl) (by exact Nat.le_of_ble_eq_true rfl) rfl) ?_
 refine Qk rfl rfl rfl (fun _ => (Qr rfl)) ?_
 refine Xm rfl rfl rfl rfl rfl rfl ?_
 refine X0 (k := k) (v := ptrV xa 0) 1 hS18 keysKey Tryz.underlying90 rfl rfl rfl rfl ?_
 intro w19 hS19; dsimp only [List.set] at hS19
 clear hS18
 refine Zh (.skip (by kernel_rfl) (.skip (by kernel_rfl) .nil)) ?_
 refine VC.nil (Qc ?_)
 refine Qh (L' := [(10, _), (6, _)]) (Hz rfl rfl) ?_
 refine Qd (Qa (Qb rfl rfl (Qe rfl rfl (Qf (Qc (Q0 ?_))))))
 refine QU (.inr rfl) rfl rfl ?_
 have hX : (JL t k (Xn L id k) xa) = ⟨xa, Xn L id k, Xn L id k, 0#64, 0#64⟩ := by unfold JL; rw [if_neg (by rw [hdr]; decide)]
 have hA := NS hX (hS19.pick [10, 2, 0, 1, 3, 4, 5, 8, 9, 6, 7, 12] rfl)
 have hB := TW hx hA
 have hB2 := hB.perm ((List.Perm.swap _ _ _).trans (List.Perm.cons _ (List.Perm.swap _ _ _)))
 rw [Bk (ad := LfD.ad) (x := (JL t k (Xn L id k) xa)) (a := xa) rfl] at hB2
 have hC := Vd (t := ({ t with lv := Xi t.lv k (some (JL t k (Xn L id k) xa)) } : TrD)) (i := id) (T := L.tr) hB2
 rw [← YP (ad := TrD.ad) (f := L.tr) (k := id) (x := t) (y := ({ t with lv := Xi t.lv k (some (JL t k (Xn L id k) xa)) } : TrD)) ht rfl] at hC
 exact ⟨_, rfl, xa, rfl, QX (L := { L with tr := Xi L.tr id (some ({ t with lv := Xi t.lv k (some (JL t k (Xn L id k) xa)) } : TrD)), sh := Jw (Jw L.sh (Xn L id k)) (Xn L id k) }) (hC.reorder [1, 2, 3, 0, 4, 5, 6] rfl)⟩
theorem Ve {w : World} {b n Fr : Nat} {L : LvD} {V : VS} {F : Th} (hS : Sat w [ZU b L, Zu L.sp n Fr V, F]) (hn : n ≤ 600000000) (hE : ∀ i, JH L.tr Z8 i) {id : Int} {t : TrD} (ht : L.tr id = some t) {k : KD} :
    Calls Tryz.prog 46 #[ptrV b 0, intV id, Xt k] w (Ret fun v w' => ∃ L' V' t' x', v = ptrV x'.ad 0 ∧ TouR L V id t k L' V' t' x' ∧ Sat w' [ZU b L', Zu L'.sp (n + 2) Fr V', F]) := by
  cases hx : t.lv k with
  | some x =>
    refine (touch_y hS hn hE ht hx).mono fun e w h => h.mono fun v w h => ?_
    exact ⟨L, V, t, x, h.1, .inl ⟨hx, rfl, rfl, rfl⟩, (Xw (by omega) (h.2.reorder [1, 0, 2] rfl)).reorder [1, 0, 2] rfl⟩
  | none =>
    refine (touch_n hS hn hE ht hx).mono fun e w h => h.mono fun v w h => ?_
    obtain ⟨a, h1, h2⟩ := h
    exact ⟨_, _, _, JL t k (Xn L id k) a, h1, .inr ⟨hx, a, rfl, rfl, rfl, rfl⟩, h2⟩
set_option maxRecDepth 100000 in
theorem Vk {w : World} {F : Th} (hS : Sat w [F]) (ob : Bs) (a : Int) :
    Calls Tryz.prog 42 #[strV ob, intV a] w (Ret fun v w' => v = Ko ob a ∧ Sat w' [F]) := by
 refine Qt Tryz.func42 rfl Tryz.ntmps42 rfl ?_
 refine Qd (Qa ?_)
 refine Xk hS Wo rfl rfl ?_
 intro b1 w1 hS1
 refine Qe rfl rfl (Qe rfl rfl (Qf (Qc (Qd (Qd (Qa (Qb rfl rfl ?_)))))))
 refine Xr rfl rfl rfl ?_
 refine Qb rfl rfl ?_
 refine Xj 9 rfl (fun h2 => ?_) (fun h2 => ?_)
 ·refine Ql rfl rfl (decide_eq_true h2) rfl ?_
  refine Ql rfl rfl (decide_eq_true h2) rfl ?_
  refine Xf rfl (decide_eq_true h2) rfl rfl ?_
  refine Qf (Qc ?_)
  refine Qh (L' := [(12, _), (6, _), (5, _), (4, _), (0, _), (1, _)]) (We rfl rfl rfl rfl rfl rfl) ?_
  refine XO rfl ?_
  refine Qd (Qa ?_)
  refine Zx rfl P9 K4 Wo rfl rfl ?_
  first | (refine QZ hS1 rfl rfl Xb rfl (by rfl) (i := 0) rfl (by decide) ?_)
  intro w3 hS4; dsimp only [List.set] at hS4
  clear hS1
  refine Qe rfl rfl (Qe rfl rfl (Qf (Qc (Q0 (Qs ?_)))))
  refine So (.inr rfl) rfl (P5 rfl XA Xb (by first | exact hS4.blk 0 rfl) (by decide) rfl) (Vh rfl) (Vh rfl) ?_
  exact ⟨_, rfl, by unfold Ko; rw [if_neg (by omega)]; rfl, hS4.pick [1] rfl⟩
 refine Qn rfl rfl (decide_eq_false h2) ?_
 refine Qb rfl rfl ?_
 refine Qn rfl rfl (decide_eq_false h2) ?_
 refine JD rfl rfl rfl ?_
 refine QW rfl (decide_eq_false h2) rfl rfl ?_
 refine Qf (Qc ?_)
 refine Qh (L' := [(12, _), (6, _), (5, _), (4, _), (0, _), (1, _)]) (We rfl rfl rfl rfl rfl rfl) ?_
 refine Qx rfl (fun h5 => ?_) (fun h5 => ?_)
 ·refine Qd (Qa ?_)
  refine Zx rfl P9 K4 Wo rfl rfl ?_
  first | (refine QZ hS1 rfl rfl Xb rfl (by rfl) (i := 0) rfl (by decide) ?_)
  intro w6 hS7; dsimp only [List.set] at hS7
  clear hS1
  refine Qe rfl rfl (Qe rfl rfl (Qf (Qc (Q0 (Qs ?_)))))
  refine So (.inr rfl) rfl (P5 rfl XA Xb (by first | exact hS7.blk 0 rfl) (by decide) rfl) (Vh rfl) (Vh rfl) ?_
  exact ⟨_, rfl, by unfold Ko; rw [if_neg (by omega)]; rfl, hS7.pick [1] rfl⟩
 obtain ⟨m, rfl⟩ : ∃ m : Nat, a = (m : Int) := ⟨a.toNat, by omega⟩
 refine Qy (Qc (Qd ?_))
 have hS8 := hS1.drew
 refine QJ [0, 1, 2, 3, 4, 5, 6, 7, 8, 9] [7] ZS (by kernel_rfl) ?_
 refine Qk rfl rfl rfl (fun _ => (Qr rfl)) ?_
 refine Qk rfl rfl rfl (fun _ => (Qr rfl)) ?_
 refine Qk rfl rfl rfl (fun _ => (ev_quo rfl rfl (by omega) (by omega) (by omega))) ?_
 refine Qk rfl rfl rfl (fun _ => (Wr rfl Uh K4 Wo rfl)) ?_
 refine Qk rfl rfl rfl (fun _ => (Qr rfl)) ?_
 refine Qk rfl rfl rfl (fun _ => (Gf rfl rfl (by omega) (by omega))) ?_
 refine Qk rfl rfl rfl (fun _ => (St (m % 64) rfl rfl (by omega))) ?_
 refine Xm rfl rfl rfl rfl rfl rfl ?_
 first | (refine QZ hS8 rfl rfl Xb rfl (by rfl) (i := 0) rfl (by decide) ?_)
 intro w9 hS10; dsimp only [List.set] at hS10
 clear hS8
 refine Zh .nil ?_
 refine Qk rfl rfl rfl (fun _ => (Q6 rfl)) ?_
 refine Qk rfl rfl rfl (fun _ => (Q6 rfl)) ?_
 refine VC.nil (Qc ?_)
 refine Qh (L' := [(6, _), (5, _), (4, _)]) (Y1 rfl rfl rfl) ?_
 refine Q0 ?_
 refine So (.inr rfl) rfl (P5 rfl XA Xb (by first | exact hS10.blk 0 rfl) (by exact Nat.le_of_ble_eq_true rfl) rfl) (Vh rfl) (Vh rfl) ?_
 exact ⟨_, rfl, by unfold Ko; rw [if_pos (by omega)]; rfl, hS10.pick [1] rfl⟩
end Go.Proofs.YtkcjfoaejijdoaaGreatDoor
