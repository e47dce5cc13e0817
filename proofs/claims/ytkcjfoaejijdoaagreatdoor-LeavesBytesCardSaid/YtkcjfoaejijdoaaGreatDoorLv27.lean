/- leaves: Commit -/
import Derived.Test.YtkcjfoaejijdoaaGreatDoorLv26
namespace Go.Proofs.YtkcjfoaejijdoaaGreatDoor
open Go.RowKit M
set_option linter.unusedVariables false
/-- the reads of a commit -/
noncomputable def comR (A : LvA) (t : TrA) (l : List KD) : LvA := if t.parent = 0 then A else l.foldl (rdS t.parent t) A
theorem SeI.comR {A0 : LvA} {id : Int} {t : TrA} {l : List KD} (h : SeI A0 A0 id t.parent t [] []) (hne : id ≠ t.parent) : SeI A0 (comR A0 t l) id t.parent t [] [] := by
  unfold Go.Proofs.YtkcjfoaejijdoaaGreatDoor.comR
  by_cases h0 : t.parent = 0
  · rw [if_pos h0]; exact h
  · rw [if_neg h0]; exact SeI.reads hne h0 l h
theorem comA_eq {A : LvA} {id : Int} {t : TrA} {l : List KD} {obs : List Bs} : SC A id t l obs = M2 (l.foldl (Ri A t.parent t) (obs.foldl (W8 t.parent) (comR A t l))) id := rfl
theorem SeI.first {m : Nat} {L : LvD} {V : VS} {id : Int} {t : TrD} (hI : LvI m L V) (ht : L.tr id = some t) : SeI (Q5 L V) (Q5 L V) id t.parent (Zk V t) [] [] :=
  SeI.start (Zr ht) fun h0 => by
    obtain ⟨_, r, _, h2⟩ := hI.rank
    have a := ((h2 id t ht).resolve_left h0).1
    cases q : L.tr t.parent with
    | none => exact absurd q a
    | some tp => exact ⟨_, Zr q⟩
theorem allS {f : Bs → Bool} {ks : List Bs} (h : AllC (Jc f) ks) (ob : Bs) : ob ∈ ZM ks ↔ f ob = true := by
  rw [(RC ks).mem_iff, h.mem]
  unfold Jc
  cases f ob <;> simp
/-- a commit has happened; or has not, since there were no frames -/
def ComY (m : Nat) (L L' : LvD) (V V' : VS) (id : Int) (t : TrD) : Prop := ∃ order obs, (∀ k, k ∈ order ↔ t.lv k ≠ none) ∧ order.Nodup ∧ (∀ ob, ob ∈ obs ↔ t.dr ob = true) ∧ LvI m L' V' ∧ L'.sp = L.sp ∧ Q5 L' V' = SC (Q5 L V) id (Zk V t) order obs ∧ (∀ c, SzLe L c → SzLe L' c) ∧ ∀ c, AliveLe V c → AliveLe V' (c + Ji t order)
def ComN (m Fr : Nat) (L : LvD) (V V' : VS) (t : TrD) : Prop := ∃ order : List KD, (∀ k, k ∈ order ↔ t.lv k ≠ none) ∧ order.Nodup ∧ LvI m L V' ∧ Q5 L V' = Q5 L V ∧ (∀ c, AliveLe V c → Fr ≤ c + Ji t order) ∧ ∀ c, AliveLe V c → AliveLe V' (c + Ji t order)
theorem gv_end {m : Nat} {L L1 L2 : LvD} {V V1 V2 V3 : VS} {id : Int} {t : TrD} {made : KD → Option Int} {ex ex0 : Int → Int} {order : List KD} {obs : List Bs} (hI : LvI m L V) (ht : L.tr id = some t) (hmd : MdI m L V V1 t ex0 made order) (hgv : GvI ex m L L1 V V1 V2 id t made (Q5 L V) (obs.foldl (W8 t.parent) (comR (Q5 L V) (Zk V t) order)) order order.length)
    (hord : ∀ k, k ∈ order ↔ t.lv k ≠ none) (hnd : order.Nodup) (hob : ∀ ob, ob ∈ obs ↔ t.dr ob = true) (hs : StepX (fun _ => 0) m L1 V2 (fun _ => 0) m 0 0 L2 V3) (hab : Q5 L2 V3 = M2 (Q5 L1 V2) id) (hp : L2.pres = L1.pres) (hT : L2.tr = Xj L1.tr id none) : ComY m L L2 V V3 id t := by
  refine ⟨order, obs, hord, hnd, hob, hs.inv, hs.sp.trans hgv.cm.sp, ?_, fun c hc => hgv.cm.ok.szRem (Ca ht) (hI.rank.none0 ht) hp hT hc, fun c hc => hs.al _ (hgv.cm.al _ (hmd.al c hc))⟩
  rw [hab, comA_eq, hgv.cm.ab, List.take_length]
  rfl
theorem nn_add {ex : Int → Int} {s : Int} (h : NN ex) : NN (fun j => ex j + dl s j) := fun j hj => by
  show 0 ≤ ex j + dl s j
  have := h j hj
  by_cases e : j = s
  · subst e; rw [ZE]; omega
  · rw [W2 e]; omega
set_option maxRecDepth 100000 in
set_option maxHeartbeats 3200000 in
theorem N9 {w : World} {m c d : Nat} {b n Fr : Nat} {L : LvD} {V : VS} {F : Th} (hS : Sat w [ZV b L, Zv L.sp n Fr V, F]) (hn : n + (16 * c + 4 * c * d) ≤ 600000000) (hI : LvI m L V) (hm : m < Z9) (hc : SzLe L c) {id : Int} {t : TrD} (ht : L.tr id = some t) (hch : ∀ i u, L.tr i = some u → u.parent ≠ id) (hdr : DrA (Q5 L V)) (hd : ∀ ks, Came (Jc t.dr) ks → ks.length ≤ d) (hdm : d ≤ 900000000) :
    Calls Tryz.prog 13 #[ptrV b 0, intV id] w (Ret fun v w' => ∃ L' V', ((v = intV 0 ∧ ComY m L L' V V' id t) ∨ (v = intV 6 ∧ L' = L ∧ ComN m Fr L V V' t)) ∧ Sat w' [ZV b L', Zv L'.sp (n + (16 * c + 4 * c * d)) Fr V', F]) := by
 replace hS := XQ hS
 refine Qt Tryz.func13 rfl Tryz.ntmps13 rfl ?_
 refine Qd (Qa (Qe rfl rfl (Qf (Qc (Qd (Qa (Qb rfl rfl (Qj rfl rfl ?_))))))))
 refine Qg rfl Wz rfl ?_
 refine Qu rfl YD (by exact hS.cell 0 rfl rfl) rfl ?_
 refine Qb rfl rfl ?_
 refine Ze (k := id) 2 hS keysInt Tryz.underlying82 rfl rfl rfl H1 (u := ptrV t.ad 0) (Zs ht) rfl ?_
 refine Qe rfl rfl (Qf (Qc (Qd (Qd (Qa (Qb rfl rfl ?_))))))
 refine ZX Tryz.underlying94 rfl rfl rfl ?_
 refine Qf (Qc ?_)
 refine Qh (L' := [(29, _), (5, _), (4, _), (0, _), (1, _)]) (ZH rfl rfl rfl rfl rfl) ?_
 refine Xm rfl ?_
 refine Qy (Qc (Qd (Qd (Qa (Qb rfl rfl (Qj rfl rfl ?_))))))
 refine Qg rfl Wz rfl ?_
 refine Qu rfl YD (by exact hS.cell 0 rfl rfl) rfl ?_
 refine H3 2 hS Tryz.underlying82 rfl rfl rfl ?_
 intro RR left0 wR hSR; dsimp only [List.set] at hSR
 refine Qf (Qc (Q1 ?_))
 refine Xw (fun K0 E0 W0 => ∃ (dn : Int → Prop) (cur : Option Int) (left : Nat), K0 = left ∧ E0 = [(0, ptrV b 0), (1, intV id), (5, ptrV t.ad 0), (34, ptrV RR 0)] ∧ Sat W0 [QO b [ptrV L.sp 0, .map (some L.mp), .map (some L.mt), intV L.cur, .map (some L.ms)], QH Xu L.mp (Zo L.pres), Yp Xd L.mt RR (XV TrD.ad L.tr) dn cur left, Zh UW L.tr, QH Xd L.ms (Jc L.sh), Zv L.sp n Fr V, F]) (L0 := [(0, _), (1, _), (5, _), (34, _)]) (left0) (Jr rfl rfl rfl rfl) ⟨_, _, _, rfl, rfl, hSR.pick [0, 1, 2, 3, 4, 5, 6] rfl⟩ ?_
 rintro _ _ w1 ⟨dn, cur, left, rfl, rfl, hS1⟩
 refine Qd (Qa ?_)
 refine Vc 2 hS1 keysInt.inj rfl rfl rfl (fun hdone => ?_) (fun i v left2 wN hleft hgk hnd hSN => ?_)
 ·refine Qw rfl rfl rfl (Qf (Qc (Qd ?_)))
  refine Xm rfl ?_
  refine QZ (Qv (Qv (Q4 (Qc (Qd ?_)))))
  have hz0 := Yd (hS1.pick [2, 0, 1, 3, 4, 5, 6] rfl)
  have hS2 := Z5 (hz0.pick [3, 0, 1, 2, 4, 5, 6] rfl) ht
  refine Qa (Qb rfl rfl (Qj rfl rfl ?_))
  refine Qg rfl ZN rfl ?_
  refine Qu rfl Jq (by exact hS2.cell 0 rfl rfl) rfl ?_
  have hC3 := hS2.split [1] [false, true, false, false, false, false, false, false, false, false, false] rfl; dsimp only [QC, Qz, Q9, Q8, Q7] at hC3
  refine Qo TA rfl (RV hC3 (fun ks h => by have := hc.keysL ht h; omega)) rfl ?_
  rintro e w3 ⟨_, rfl, ks, hks, hS3⟩; refine ⟨_, rfl, ?_⟩
  replace hS3 := hS3.join rfl; dsimp only [QU, QT, Q8, Q7] at hS3; clear hC3
  clear hS2
  obtain ⟨ar, cr, hvr, _⟩ := hS3.own_shape 0 rfl; obtain rfl := hvr
  refine Qe rfl rfl (Qf (Qc ?_))
  refine Qh (L' := [(8, _), (0, _), (1, _), (5, _)]) (Jr rfl rfl rfl rfl) ?_
  refine Qd ?_
  have hS4 := Z6 ht (hS3.pick [2, 1, 3, 4, 5, 0, 6, 7, 8, 9, 10, 11] rfl)
  have hS5 := QY (L := L) (hS4.pick [3, 4, 2, 0, 5, 1, 6, 7] rfl)
  have hord := Fa hks
  have hnd := Y6 hks.nodup
  have hoc : (QL ks).length ≤ c := by rw [ZZ]; exact hc.keysL ht (Came.of_all hks)
  refine Qa (Qb rfl rfl (Qb rfl rfl (Qb rfl rfl ?_)))
  have hC6 := hS5.split [0, 2, 1] [true, true, true, false] rfl; dsimp only [QC, Qz, Q9, Q8, Q7] at hC6
  refine Qo cal_50 rfl (To hC6 (by omega) hI hm ht hord hnd hoc) rfl ?_
  rintro e w6 ⟨_, rfl, (⟨V1, mm, made, ex1, rfl, hmd, hS6⟩ | ⟨V1, rfl, hmi, hmab, hmf, hmal, hS6⟩)⟩
  ·refine ⟨_, rfl, ?_⟩
   replace hS6 := hS6.join rfl; dsimp only [QU, QT, Q8, Q7] at hS6; clear hC6
   clear hS5
   refine Qb rfl rfl (Qw rfl rfl rfl (Qw rfl rfl rfl (Qe rfl rfl (Qe rfl rfl (Qf (Qc ?_))))))
   refine Qh (L' := [(10, _), (9, _), (8, _), (0, _), (1, _), (5, _)]) (Wf rfl rfl rfl rfl rfl rfl) ?_
   refine Qd (Qd (Qa (Qb rfl rfl ?_)))
   refine Xh rfl rfl rfl ?_
   refine Qf (Qc ?_)
   refine Qx rfl (fun h7 => ?_) (fun h7 => ?_)
   ·exact absurd rfl h7
   have hne : id ≠ t.parent := fun q => hch id t ht q.symm
   have hse0 := SeI.first hI ht
   have hcm0 := CmI.start hmd.inv ht
   rw [hmd.ab] at hcm0
   refine Qy (Qc ?_)
   refine NZ (fun E0 W0 => ∃ (L1 : LvD) (V2 : VS), E0 = [(0, ptrV b 0), (1, intV id), (5, ptrV t.ad 0), (8, .slice ar (QL ks).length cr), (9, .map (some mm))] ∧ Sat W0 [ZV b L1, Zv L1.sp (n + 4 * c) Fr V2, rowT kC (.slice ar (QL ks).length cr) (QL ks), QH Xu mm (VZ made), F] ∧ (CmI ex1 m L L1 V1 V2 id t (comR (Q5 L V) (Zk V t) (QL ks)))) ?_ ?_
   ·refine Qd (Qa (Qb rfl rfl (Qj rfl rfl ?_)))
    refine Qg rfl J3 rfl ?_
    refine Qu rfl QW (Vq hS6 0 rfl ht 0 rfl) rfl ?_
    refine Xh rfl rfl rfl ?_
    refine Qf (Qc ?_)
    refine Qh (L' := [(64, _), (9, _), (8, _), (0, _), (1, _), (5, _)]) (Wf rfl rfl rfl rfl rfl rfl) ?_
    refine Qx rfl (fun h9 => ?_) (fun h9 => ?_)
    ·have hp0 : t.parent ≠ 0 := h9
     refine Qd (Qa (Qb rfl rfl ?_))
     refine XU Tryz.underlying98 rfl rfl ?_
     refine Qb rfl rfl (Qf (Qc (Q1 ?_)))
     refine Xw (fun K0 E0 W0 => ∃ (i : Nat) (L1 : LvD) (V2 : VS), K0 = (QL ks).length - i ∧ E0 = [(0, ptrV b 0), (1, intV id), (5, ptrV t.ad 0), (8, .slice ar (QL ks).length cr), (9, .map (some mm)), (65, .slice ar (QL ks).length cr), (66, intV ((QL ks).length : Int)), (67, intV (i : Int))] ∧ Sat W0 [ZV b L1, Zv L1.sp (n + 2 * c + 2 * i) Fr V2, rowT kC (.slice ar (QL ks).length cr) (QL ks), QH Xu mm (VZ made), F] ∧ (i ≤ (QL ks).length) ∧ (CmI ex1 m L L1 V1 V2 id t (((QL ks).take i).foldl (rdS t.parent (Zk V t)) (Q5 L V)))) (L0 := [(0, _), (1, _), (5, _), (8, _), (9, _), (65, _), (66, _), (67, _)]) ((QL ks).length) (WT rfl rfl rfl rfl rfl rfl rfl rfl) ⟨0, L, V1, by omega, rfl, hS6.pick [0, 1, 2, 3, 4] rfl, by omega, hcm0⟩ ?_
     rintro _ _ w10 ⟨i, L1, V2, rfl, rfl, hS10, hi, hcm⟩
     refine Qd (Qa ?_)
     refine Xt rfl rfl rfl ?_
     refine Qf (Qc (Qd ?_))
     refine Qx rfl (fun h11 => ?_) (fun h11 => ?_)
     ·obtain ⟨k, hk⟩ : ∃ k, (QL ks)[i]? = some k := ⟨_, List.getElem?_eq_getElem (by omega)⟩
      obtain ⟨x, hl⟩ : ∃ x, t.lv k = some x := Option.ne_none_iff_exists'.1 ((hord k).1 (List.mem_of_getElem? hk))
      refine Qy (Qc (Qd (Q1 (Qd (Qa ?_)))))
      refine Xp kC 2 i hS10 rfl rfl rfl (by rfl) hk KJ rfl ?_
      intro bx12 capx12 hvx12
      refine ZA 2 i hS10 rfl hvx12 rfl hk XB Xc rfl rfl ?_
      refine Xl hS10 Wp rfl rfl ?_
      intro kb wk13 hk13
      clear hS10
      refine Xa hk13 rfl rfl Xc rfl (by rfl) (i := 0) rfl (by decide) ?_
      intro wk14 hk14; dsimp only [List.set] at hk14
      clear hk13
      replace hk14 := XR (k := k) hk14
      refine Qf (Qc ?_)
      refine Qh (L' := [(12, _), (0, _), (1, _), (5, _), (8, _), (9, _), (65, _), (66, _), (67, _)]) (G6 rfl rfl rfl rfl rfl rfl rfl rfl rfl) ?_
      refine Qd ?_
      have hS15 := JO hcm.tr hl (hk14.pick [1, 0, 2, 3, 4, 5] rfl)
      have hS16 := hS15.drew
      refine QK [0, 1, 2, 3, 4, 5, 6] [] ZT (by kernel_rfl) ?_
      refine Qk rfl rfl rfl (fun _ => (Qr rfl)) ?_
      refine Qk rfl rfl rfl (fun _ => (Qq rfl)) ?_
      refine Qk rfl rfl rfl (fun _ => (Qi rfl ZN)) ?_
      refine QF rfl rfl rfl (Qm rfl Jq (by exact hS16.cell 2 rfl rfl)) ?_
      refine QF rfl rfl rfl (X9 rfl XB Xc (by exact hS16.blk 10 rfl) (by exact Nat.le_of_ble_eq_true rfl) rfl) ?_
      refine QF rfl rfl rfl (Xz (k := k) 3 hS16 keysKey Tryz.underlying90 rfl rfl rfl Hz (u := ptrV x.ad 0) (Zs hl)) ?_
      refine Qk rfl rfl rfl (fun _ => (Q6 rfl)) ?_
      refine VC.nil (Qc ?_)
      refine Qh (L' := [(13, _), (12, _), (0, _), (1, _), (5, _), (8, _), (9, _), (65, _), (66, _), (67, _)]) (Yg rfl rfl rfl rfl rfl rfl rfl rfl rfl rfl) ?_
      refine Qd (Qa (Qb rfl rfl (Qj rfl rfl ?_)))
      refine Qg rfl YA rfl ?_
      refine Qu rfl JB (by exact hS16.cell 0 rfl rfl) rfl ?_
      refine Xh rfl rfl rfl ?_
      refine Qf (Qc ?_)
      refine Qh (L' := [(81, _), (13, _), (12, _), (0, _), (1, _), (5, _), (8, _), (9, _), (65, _), (66, _), (67, _)]) (MQ rfl rfl rfl rfl rfl rfl rfl rfl rfl rfl rfl) ?_
      refine Qx rfl (fun h17 => ?_) (fun h17 => ?_)
      ·have hrd : x.rd ≠ 0#64 := fun e => h17 (by rw [e]; rfl)
       refine Qd ?_
       have hS18 := WD (L := L1) (y := x) hcm.tr hl rfl (hS16.pick [0, 1, 2, 3, 4, 5, 6, 7, 8, 9, 10, 11, 12, 13, 14] rfl)
       rw [Jv hcm.tr hl] at hS18
       obtain ⟨tp, htp⟩ := (hcm.par (SeI.reads hne hp0 ((QL ks).take i) hse0)).resolve_left hp0
       have hS19 := hS18.drew
       refine QK [0, 1, 2, 3, 4, 5, 6, 7] [6] ZT (by kernel_rfl) ?_
       refine Qk rfl rfl rfl (fun _ => (Qr rfl)) ?_
       refine Qk rfl rfl rfl (fun _ => (Qr rfl)) ?_
       refine Qk rfl rfl rfl (fun _ => (Qq rfl)) ?_
       refine Qk rfl rfl rfl (fun _ => (Qi rfl J3)) ?_
       refine QF rfl rfl rfl (Qm rfl QW (Vq hS19 0 rfl hcm.tr 0 rfl)) ?_
       refine QF rfl rfl rfl (X9 rfl XB Xc (by first | exact hS19.blk 1 rfl) (by exact Nat.le_of_ble_eq_true rfl) rfl) ?_
       refine Xn rfl rfl rfl rfl rfl rfl ?_
       have hC20 := hS19.split [0, 2] [true, false, true, false, false, false] rfl; dsimp only [QC, Qz, Q9, Q8, Q7] at hC20
       refine Qo Dg rfl (Vf hC20 (by omega) (hcm.inv.rank.ends hm) htp (k := k)) rfl ?_
       rintro e w20 ⟨_, rfl, L2, V3, t2, y, rfl, hT, hS20⟩; refine ⟨_, rfl, ?_⟩
       replace hS20 := hS20.join rfl; dsimp only [QU, QT, Q8, Q7] at hS20; clear hC20
       clear hS19
       have ht2 := hT.tr htp
       have hy2 := hT.lv
       have htid : L2.tr id = some t := (hT.oth hne).trans hcm.tr
       refine XJ (.skip (by kernel_rfl) (.skip (by kernel_rfl) .nil)) ?_
       refine Qk rfl rfl rfl (fun _ => (Q6 rfl)) ?_
       refine VC.nil (Qc ?_)
       refine Qh (L' := [(14, _), (13, _), (0, _), (1, _), (5, _), (8, _), (9, _), (65, _), (66, _), (67, _)]) (Yg rfl rfl rfl rfl rfl rfl rfl rfl rfl rfl) ?_
       have hS21 := JO ht2 hy2 (hS20.pick [0, 1, 2, 3, 4, 5] rfl)
       have htu : Xj L2.tr t.parent none id = some t := by rw [QI hne]; exact htid
       have hS22 := hS21.drew
       refine QK [0, 1, 2, 3, 4, 5, 6, 7, 8, 9, 10, 11, 12, 13, 14, 15, 16] [16] ZT (by kernel_rfl) ?_
       refine Qk rfl rfl rfl (fun _ => (Qr rfl)) ?_
       refine Qk rfl rfl rfl (fun _ => (Qq rfl)) ?_
       refine Qk rfl rfl rfl (fun _ => (Qi rfl YA)) ?_
       refine QF rfl rfl rfl (Qm rfl JB (by exact hS22.cell 0 rfl rfl)) ?_
       refine Qk rfl rfl rfl (fun _ => (Qr rfl)) ?_
       refine Qk rfl rfl rfl (fun _ => (Qq rfl)) ?_
       refine Qk rfl rfl rfl (fun _ => (Qi rfl YA)) ?_
       refine QF rfl rfl rfl (Qm rfl JB (TW hS22 5 rfl htu hl 2 rfl)) ?_
       refine Qk rfl rfl rfl (fun _ => (Qr rfl)) ?_
       refine Qk rfl rfl rfl (fun _ => (Qq rfl)) ?_
       refine Qk rfl rfl rfl (fun _ => (Qi rfl Wn)) ?_
       refine QF rfl rfl rfl (Qm rfl JB (by exact hS22.cell 0 rfl rfl)) ?_
       refine Qk rfl rfl rfl (fun _ => (HJ rfl rfl)) ?_
       refine Qk rfl rfl rfl (fun _ => (Rn rfl rfl)) ?_
       refine Qk rfl rfl rfl (fun _ => (Qq rfl)) ?_
       refine Qk rfl rfl rfl (fun _ => (Qi rfl YA)) ?_
       refine Xn rfl rfl rfl rfl rfl rfl ?_
       refine Xb hS22 rfl rfl GZ rfl (i := 0) rfl (by exact Nat.le_of_ble_eq_true rfl) ?_
       intro w23 hS23; dsimp only [List.set] at hS23
       clear hS22
       refine Zi (.skip (by kernel_rfl) (.skip (by kernel_rfl) (.skip (by kernel_rfl) .nil))) ?_
       refine VC.nil (Qp (Qc ?_))
       refine Qh (L' := [(0, _), (1, _), (5, _), (8, _), (9, _), (65, _), (66, _), (67, _)]) (WT rfl rfl rfl rfl rfl rfl rfl rfl) ?_
       refine Qa ?_
       refine QN rfl rfl (by omega) (by omega) rfl ?_
       refine Qb rfl rfl (Qf ?_)
       have hS24 := WD (L := L2) (y := { y with rd := y.rd ||| (x.rd &&& ~~~y.wr) }) ht2 hy2 rfl (hS23.pick [0, 1, 2, 3, 4, 5, 6, 7, 8, 9, 10, 11, 12, 13, 14] rfl)
       exact QG (L1 := [(0, _), (1, _), (5, _), (8, _), (9, _), (65, _), (66, _), (67, intV ((i + 1 : Nat) : Int))]) (WT rfl rfl rfl rfl rfl rfl rfl rfl) (k1 := (QL ks).length - (i + 1)) (by omega) ⟨i + 1, _, _, by omega, rfl, (Xx (m := n + 2 * c + 2 * (i + 1)) (by omega) (hS24.pick [1, 0, 3, 4, 5] rfl)).reorder [1, 0, 2, 3, 4] rfl, by omega, by rw [Y9 hk]; exact hcm.read hmd.nn hl hrd hne htp hT⟩
      have hrd0 : x.rd = 0#64 := zerW (Decidable.not_not.1 h17)
      refine Qy (Qp (Qc ?_))
      refine Qh (L' := [(0, _), (1, _), (5, _), (8, _), (9, _), (65, _), (66, _), (67, _)]) (WT rfl rfl rfl rfl rfl rfl rfl rfl) ?_
      refine Qa ?_
      refine QN rfl rfl (by omega) (by omega) rfl ?_
      refine Qb rfl rfl (Qf ?_)
      have hS25 := WD (L := L1) (y := x) hcm.tr hl rfl (hS16.pick [0, 1, 2, 3, 4, 5, 6, 7, 8, 9, 10, 11, 12, 13, 14] rfl)
      rw [Jv hcm.tr hl] at hS25
      exact QG (L1 := [(0, _), (1, _), (5, _), (8, _), (9, _), (65, _), (66, _), (67, intV ((i + 1 : Nat) : Int))]) (WT rfl rfl rfl rfl rfl rfl rfl rfl) (k1 := (QL ks).length - (i + 1)) (by omega) ⟨i + 1, L1, V2, by omega, rfl, (Xx (m := n + 2 * c + 2 * (i + 1)) (by omega) (hS25.pick [2, 0, 3, 4, 5] rfl)).reorder [1, 0, 2, 3, 4] rfl, by omega, by rw [Y9 hk, P8 (Zq hl) hrd0]; exact hcm⟩
     refine QZ (Qv (Qv (Q4 ?_)))
     have hil : i = (QL ks).length := by omega
     rw [hil, List.take_length] at hcm
     exact BK (ZH rfl rfl rfl rfl rfl) ⟨L1, V2, rfl, (Xx (m := n + 4 * c) (by omega) (hS10.pick [1, 0, 2, 3, 4] rfl)).reorder [1, 0, 2, 3, 4] rfl, by unfold comR; rw [if_neg (show ¬ (Zk V t).parent = 0 from hp0)]; exact hcm⟩
    have hp0 : t.parent = 0 := Decidable.not_not.1 h9
    refine Qy ?_
    exact BK (ZH rfl rfl rfl rfl rfl) ⟨L, V1, rfl, (Xx (m := n + 4 * c) (by omega) (hS6.pick [1, 0, 2, 3, 4] rfl)).reorder [1, 0, 2, 3, 4] rfl, by unfold comR; rw [if_pos (show (Zk V t).parent = 0 from hp0)]; exact hcm0⟩
   rintro _ w8 ⟨L1, V2, rfl, hS8, hcm⟩
   have hseR := SeI.comR (t := Zk V t) (l := (QL ks)) hse0 hne
   refine Qd (Qd ?_)
   have hS26 := XQ (hS8.pick [0, 1, 2, 3, 4] rfl)
   have hS27 := Z5 (hS26.pick [3, 0, 1, 2, 4, 5, 6, 7, 8] rfl) hcm.tr
   refine Qa (Qb rfl rfl (Qj rfl rfl ?_))
   refine Qg rfl Vz rfl ?_
   refine Qu rfl B7 (by exact hS27.cell 0 rfl rfl) rfl ?_
   have hC28 := hS27.split [] [false, false, false, false, false, false, false, false, false, false, false, false, false] rfl; dsimp only [QC, Qz, Q9, Q8, Q7] at hC28
   refine Qo cal_52 rfl (kd_sp hC28 rfl) rfl ?_
   rintro e w28 ⟨_, rfl, ck, rfl, hS28⟩; refine ⟨_, rfl, ?_⟩
   replace hS28 := hS28.join rfl; dsimp only [QU, QT, Q8, Q7] at hS28; clear hC28
   clear hS27
   have hK := Sat.fold (As := [QO ck [.map (some t.md)], QH WM t.md (Jc t.dr)]) (hS28.pick [0, 4, 1, 2, 3, 5, 6, 7, 8, 9, 10, 11, 12, 13] rfl)
   have hC29 := hK.split [0] [true, false, false, false, false, false, false, false, false, false, false, false, false] rfl; dsimp only [QC, Qz, Q9, Q8, Q7] at hC29
   refine Qo cal_51 rfl (Tb hC29 cal_118 (itS ck t.md (Jc t.dr)) (fun ks h => by have := hd ks h; omega)) rfl ?_
   rintro e w29 ⟨_, rfl, ns, hns, hS29⟩; refine ⟨_, rfl, ?_⟩
   replace hS29 := hS29.join rfl; dsimp only [QU, QT, Q8, Q7] at hS29; clear hC29
   clear hK
   have hz2 := (hS29.pick [1, 0, 2, 3, 4, 5, 6, 7, 8, 9, 10, 11, 12, 13] rfl).flat; dsimp only [Q8, Q7] at hz2
   obtain ⟨an, cn, hvn, _⟩ := hz2.own_shape 2 rfl; obtain rfl := hvn
   have hS30 := Z6 hcm.tr (hz2.pick [3, 4, 5, 1, 6, 0, 2, 7, 8, 9, 10, 11, 12, 13, 14] rfl)
   have hS31 := QY (L := L1) (hS30.pick [3, 4, 5, 0, 6, 1, 2, 7, 8, 9, 10] rfl)
   have hnl : (ZM ns).length ≤ d := by rw [Yb]; exact hd _ (Came.of_all hns)
   have hob := allS hns
   refine XU Tryz.underlying61 rfl rfl ?_
   refine Qb rfl rfl (Qf (Qc ?_))
   refine Qh (L' := [(113, _), (112, _), (111, _), (0, _), (1, _), (5, _), (8, _), (9, _)]) (WT rfl rfl rfl rfl rfl rfl rfl rfl) ?_
   refine Q1 ?_
   refine Xw (fun K0 E0 W0 => ∃ (j : Nat) (L1 : LvD) (V2 : VS), K0 = (ZM ns).length - j ∧ E0 = [(0, ptrV b 0), (1, intV id), (5, ptrV t.ad 0), (8, .slice ar (QL ks).length cr), (9, .map (some mm)), (111, .slice an (ZM ns).length cn), (112, intV ((ZM ns).length : Int)), (113, intV (j : Int))] ∧ Sat W0 [ZV b L1, Zv L1.sp (n + 4 * c + 4 * c * j) Fr V2, rowT kC (.slice ar (QL ks).length cr) (QL ks), QH Xu mm (VZ made), rowT stC (.slice an (ZM ns).length cn) (ZM ns), F] ∧ (j ≤ (ZM ns).length) ∧ (CmI ex1 m L L1 V1 V2 id t (((ZM ns).take j).foldl (W8 t.parent) (comR (Q5 L V) (Zk V t) (QL ks))))) (L0 := [(0, _), (1, _), (5, _), (8, _), (9, _), (111, _), (112, _), (113, _)]) ((ZM ns).length) (WT rfl rfl rfl rfl rfl rfl rfl rfl) ⟨0, L1, V2, by omega, rfl, hS31.pick [0, 3, 4, 5, 2, 6] rfl, by omega, hcm⟩ ?_
   rintro _ _ w32 ⟨j, L1, V2, rfl, rfl, hS32, hj, hcm⟩
   have hcd : 4 * c * j ≤ 4 * c * d := Nat.mul_le_mul_left _ (by omega)
   refine Qd (Qa ?_)
   refine Xt rfl rfl rfl ?_
   refine Qf (Qc (Qd ?_))
   refine Qx rfl (fun h33 => ?_) (fun h33 => ?_)
   ·obtain ⟨ob, hjb⟩ : ∃ ob, (ZM ns)[j]? = some ob := ⟨_, List.getElem?_eq_getElem (by omega)⟩
    refine Qy (Qc (Qd (Q1 (Qd (Qa ?_)))))
    refine Xp stC 4 j hS32 rfl rfl rfl (by rfl) hjb By rfl ?_
    intro bx34 capx34 hvx34
    refine Z4 4 j 0 hS32 rfl hvx34 rfl rfl hjb Yz rfl rfl ?_
    refine Qe rfl rfl (Qf (Qc ?_))
    refine Qh (L' := [(16, _), (0, _), (1, _), (5, _), (8, _), (9, _), (111, _), (112, _), (113, _)]) (G6 rfl rfl rfl rfl rfl rfl rfl rfl rfl) ?_
    refine Qa (Qb rfl rfl (Qb rfl rfl (Qj rfl rfl ?_)))
    refine Qg rfl J3 rfl ?_
    refine Qu rfl QW (Vq hS32 0 rfl hcm.tr 0 rfl) rfl ?_
    refine Qb rfl rfl ?_
    have hC35 := hS32.split [0, 1] [true, true, false, false, false, false] rfl; dsimp only [QC, Qz, Q9, Q8, Q7] at hC35
    refine Qo cal_27 rfl (S4 (c := 2 * c) hC35 (hcm.sz2 ht hc) (by omega) hcm.inv hmd.nn (hcm.par (SeI.drops hne ((ZM ns).take j) hseR)) ob) rfl ?_
    rintro e w35 ⟨_, rfl, L2, V3, hs, hab, ho, hS35⟩; refine ⟨_, rfl, ?_⟩
    replace hS35 := hS35.join rfl; dsimp only [QU, QT, Q8, Q7] at hS35; clear hC35
    clear hS32
    refine Qf (Qp (Qc ?_))
    refine Qh (L' := [(0, _), (1, _), (5, _), (8, _), (9, _), (111, _), (112, _), (113, _)]) (WT rfl rfl rfl rfl rfl rfl rfl rfl) ?_
    refine Qa ?_
    refine QN rfl rfl (by omega) (by omega) rfl ?_
    refine Qb rfl rfl (Qf ?_)
    have hcm2 := hcm.step hs ho (fun _ q => q.elim) hne (hab.trans (by rw [hcm.ab]))
    exact QG (L1 := [(0, _), (1, _), (5, _), (8, _), (9, _), (111, _), (112, _), (113, intV ((j + 1 : Nat) : Int))]) (WT rfl rfl rfl rfl rfl rfl rfl rfl) (k1 := (ZM ns).length - (j + 1)) (by omega) ⟨j + 1, _, _, by omega, rfl, (Xx (m := n + 4 * c + 4 * c * (j + 1)) (by rw [Nat.mul_succ]; omega) (hS35.pick [1, 0, 2, 3, 4, 5] rfl)).reorder [1, 0, 2, 3, 4, 5] rfl, by omega, by rw [Y9 hjb]; exact hcm2⟩
   refine QZ (Qv (Qv (Q4 (Qc (Qd (Qd (Qa (Qb rfl rfl ?_))))))))
   refine XU Tryz.underlying98 rfl rfl ?_
   refine Qb rfl rfl (Qf (Qc ?_))
   refine Qh (L' := [(127, _), (126, _), (125, _), (0, _), (1, _), (5, _), (9, _)]) (WK rfl rfl rfl rfl rfl rfl rfl) ?_
   refine Q1 ?_
   have hjl : j = (ZM ns).length := by omega
   rw [hjl, List.take_length] at hcm
   have hgv0 := GvI.start (V0 := V) (made := made) (A0 := (Q5 L V)) (order := (QL ks)) hcm hmd.mx
   have hseD := SeI.drops hne (ZM ns) hseR
   rw [List.nil_append] at hseD
   have hcd2 : 4 * c * j ≤ 4 * c * d := Nat.mul_le_mul_left _ (by omega)
   have hz3 := (Xx (m := n + 4 * c + 4 * c * d + 5 * 0) (by omega) (hS32.pick [1, 0, 2, 3, 5] rfl)).reorder [1, 0, 2, 3, 4] rfl
   refine Xw (fun K0 E0 W0 => ∃ (i : Nat) (L1 : LvD) (V2 : VS) (ex2 : Int → Int), K0 = (QL ks).length - i ∧ E0 = [(0, ptrV b 0), (1, intV id), (5, ptrV t.ad 0), (9, .map (some mm)), (125, .slice ar (QL ks).length cr), (126, intV ((QL ks).length : Int)), (127, intV (i : Int))] ∧ Sat W0 [ZV b L1, Zv L1.sp (n + 4 * c + 4 * c * d + 5 * i) Fr V2, rowT kC (.slice ar (QL ks).length cr) (QL ks), QH Xu mm (VZ made), F] ∧ (i ≤ (QL ks).length) ∧ (GvI ex2 m L L1 V V1 V2 id t made (Q5 L V) ((ZM ns).foldl (W8 t.parent) (comR (Q5 L V) (Zk V t) (QL ks))) (QL ks) i)) (L0 := [(0, _), (1, _), (5, _), (9, _), (125, _), (126, _), (127, _)]) ((QL ks).length) (WK rfl rfl rfl rfl rfl rfl rfl) ⟨0, L1, V2, ex1, by omega, rfl, hz3.pick [0, 1, 2, 3, 4] rfl, by omega, hgv0⟩ ?_
   rintro _ _ w36 ⟨i, L1, V2, ex2, rfl, rfl, hS36, hi, hgv⟩
   refine Qd (Qa ?_)
   refine Xt rfl rfl rfl ?_
   refine Qf (Qc (Qd ?_))
   refine Qx rfl (fun h37 => ?_) (fun h37 => ?_)
   ·obtain ⟨k, hk⟩ : ∃ k, (QL ks)[i]? = some k := ⟨_, List.getElem?_eq_getElem (by omega)⟩
    obtain ⟨x, hl⟩ : ∃ x, t.lv k = some x := Option.ne_none_iff_exists'.1 ((hord k).1 (List.mem_of_getElem? hk))
    refine Qy (Qc (Qd (Q1 (Qd (Qa ?_)))))
    refine Xp kC 2 i hS36 rfl rfl rfl (by rfl) hk KJ rfl ?_
    intro bx38 capx38 hvx38
    refine ZA 2 i hS36 rfl hvx38 rfl hk XB Xc rfl rfl ?_
    refine Xl hS36 Wp rfl rfl ?_
    intro kb wk39 hk39
    clear hS36
    refine Xa hk39 rfl rfl Xc rfl (by rfl) (i := 0) rfl (by decide) ?_
    intro wk40 hk40; dsimp only [List.set] at hk40
    clear hk39
    replace hk40 := XR (k := k) hk40
    refine Qf (Qc ?_)
    refine Qh (L' := [(18, _), (0, _), (1, _), (5, _), (9, _), (125, _), (126, _), (127, _)]) (WT rfl rfl rfl rfl rfl rfl rfl rfl) ?_
    refine Qd ?_
    have hS41 := JO hgv.cm.tr hl (hk40.pick [1, 0, 2, 3, 4, 5] rfl)
    have hS42 := hS41.drew
    refine QK [0, 1, 2, 3, 4, 5, 6] [] ZT (by kernel_rfl) ?_
    refine Qk rfl rfl rfl (fun _ => (Qr rfl)) ?_
    refine Qk rfl rfl rfl (fun _ => (Qq rfl)) ?_
    refine Qk rfl rfl rfl (fun _ => (Qi rfl ZN)) ?_
    refine QF rfl rfl rfl (Qm rfl Jq (by exact hS42.cell 2 rfl rfl)) ?_
    refine QF rfl rfl rfl (X9 rfl XB Xc (by exact hS42.blk 10 rfl) (by exact Nat.le_of_ble_eq_true rfl) rfl) ?_
    refine QF rfl rfl rfl (Xz (k := k) 3 hS42 keysKey Tryz.underlying90 rfl rfl rfl Hz (u := ptrV x.ad 0) (Zs hl)) ?_
    refine Qk rfl rfl rfl (fun _ => (Q6 rfl)) ?_
    refine VC.nil (Qc ?_)
    refine Qh (L' := [(19, _), (18, _), (0, _), (1, _), (5, _), (9, _), (125, _), (126, _), (127, _)]) (G6 rfl rfl rfl rfl rfl rfl rfl rfl rfl) ?_
    refine Qd (Qa (Qb rfl rfl (Qj rfl rfl ?_)))
    refine Qg rfl Wn rfl ?_
    refine Qu rfl JB (by exact hS42.cell 0 rfl rfl) rfl ?_
    refine Xh rfl rfl rfl ?_
    refine Qf (Qc ?_)
    refine Qh (L' := [(141, _), (19, _), (18, _), (0, _), (1, _), (5, _), (9, _), (125, _), (126, _), (127, _)]) (Yg rfl rfl rfl rfl rfl rfl rfl rfl rfl rfl) ?_
    refine Qx rfl (fun h43 => ?_) (fun h43 => ?_)
    ·have hw : x.wr ≠ 0#64 := fun e => h43 (by rw [e]; rfl)
     refine Qd (Qa (Qb rfl rfl ?_))
     refine XX rfl XB Xc (by exact hS42.blk 10 rfl) (by exact Nat.le_of_ble_eq_true rfl) rfl rfl ?_
     rcases hmk : made k with _ | s
     ·refine ZB (k := k) 13 hS42 keysKey Tryz.underlying81 rfl rfl rfl Y1 (u := intV 0) (g := false) (by unfold VZ; rw [hmk]; rfl) (by unfold VZ; rw [hmk]; rfl) rfl ?_
      refine Qb rfl rfl (Qw rfl rfl rfl (Qw rfl rfl rfl (Qe rfl rfl (Qe rfl rfl (Qf (Qc ?_))))))
      refine Qh (L' := [(21, _), (20, _), (19, _), (18, _), (0, _), (1, _), (5, _), (9, _), (125, _), (126, _), (127, _)]) (MQ rfl rfl rfl rfl rfl rfl rfl rfl rfl rfl rfl) ?_
      refine Qd (Qd (Qa (Qb rfl rfl ?_)))
      refine QS rfl rfl ?_
      refine Qf (Qc ?_)
      refine QR rfl (fun h44 => ?_) (fun h44 => ?_)
      ·refine Qd (Qa (Qb rfl rfl (Qj rfl rfl ?_)))
       refine Qg rfl WE rfl ?_
       refine Qu rfl QW (by exact hS42.cell 0 rfl rfl) rfl ?_
       refine Qe rfl rfl (Qf (Qc ?_))
       refine Qh (L' := [(20, _), (19, _), (18, _), (0, _), (1, _), (5, _), (9, _), (125, _), (126, _), (127, _)]) (Yg rfl rfl rfl rfl rfl rfl rfl rfl rfl rfl) ?_
       refine Qa (Qb rfl rfl (Qb rfl rfl ?_))
       have hC45 := hS42.split [6, 9, 11] [false, false, false, false, false, false, true, false, false, true, false, true, false, false, false] rfl; dsimp only [QC, Qz, Q9, Q8, Q7] at hC45
       refine Qo Gs rfl (DR hC45 (by omega) x.own) rfl ?_
       rintro e w45 ⟨_, rfl, rfl, hS45⟩; refine ⟨_, rfl, ?_⟩
       replace hS45 := hS45.join rfl; dsimp only [QU, QT, Q8, Q7] at hS45; clear hC45
       clear hS42
       refine Qf (Qc ?_)
       refine Qh (L' := [(20, _), (19, _), (18, _), (0, _), (1, _), (5, _), (9, _), (125, _), (126, _), (127, _)]) (Yg rfl rfl rfl rfl rfl rfl rfl rfl rfl rfl) ?_
       have hS46 := WD (L := { L1 with sh := Jx L1.sh x.own }) (y := x) hgv.cm.tr hl rfl (hS45.pick [3, 4, 5, 6, 7, 8, 0, 9, 10, 1, 2, 11, 12, 13, 14] rfl)
       rw [Jv (L := { L1 with sh := Jx L1.sh x.own }) hgv.cm.tr hl] at hS46
       have hdrk : k.1 ∈ (ZM ns) → x.wr = BitVec.allOnes 64 := fun q => hdr id _ k _ (Zr ht) ((hob _).1 q) (Zq hl)
       have hpar := hgv.cm.par (SeI.gives hne ((QL ks).take i) hseD)
       have hS47 := hS46.drew
       refine QK [0, 1, 2, 3, 4, 5, 6, 7, 8, 9, 10, 11] [11] ZT (by kernel_rfl) ?_
       refine Qk rfl rfl rfl (fun _ => (Qr rfl)) ?_
       refine Qk rfl rfl rfl (fun _ => (Qr rfl)) ?_
       refine Qk rfl rfl rfl (fun _ => (Qq rfl)) ?_
       refine Qk rfl rfl rfl (fun _ => (Qi rfl J3)) ?_
       refine QF rfl rfl rfl (Qm rfl QW (Vq hS47 0 rfl hgv.cm.tr 0 rfl)) ?_
       refine QF rfl rfl rfl (X9 rfl XB Xc (by first | exact hS47.blk 2 rfl) (by exact Nat.le_of_ble_eq_true rfl) rfl) ?_
       refine Qk rfl rfl rfl (fun _ => (Qr rfl)) ?_
       refine Qk rfl rfl rfl (fun _ => (Qr rfl)) ?_
       refine Qk rfl rfl rfl (fun _ => (Qq rfl)) ?_
       refine Qk rfl rfl rfl (fun _ => (Qi rfl Wn)) ?_
       refine QF rfl rfl rfl (Qm rfl JB (Mb hS47 0 rfl hgv.cm.tr hl 3 rfl)) ?_
       refine Xn rfl rfl rfl rfl rfl rfl ?_
       have hr := hgv.cm.ref (hgv.own_alive hl) (Jx L1.sh x.own)
       have hnr : NN (fun j => ex2 j + dl x.own j) := nn_add hgv.nn
       have hcon := (J2 (V := V2) (s := x.own) (j := x.own)).trans (hgv.con_own hmd hI ht hk hl hw hmk)
       have hC48 := hS47.split [0, 1] [true, true, false, false, false, false] rfl; dsimp only [QC, Qz, Q9, Q8, Q7] at hC48
       refine Qo SK rfl (Mh hC48 (by omega) hr.inv hnr hm hpar (fun h0 => by have := hgv.nn x.own h0; show 1 ≤ ex2 x.own + dl x.own x.own; rw [ZE]; omega) k x.wr (fun h0 => hgv.ag hI hseD hne hk hnd hdrk (hr.ab.trans hgv.cm.ab.symm) hcon h0)) rfl ?_
       rintro e w48 ⟨_, rfl, L2, V3, hs, hab, ho, hS48⟩; refine ⟨_, rfl, ?_⟩
       replace hS48 := hS48.join rfl; dsimp only [QU, QT, Q8, Q7] at hS48; clear hC48
       clear hS47
       refine XJ (.skip (by kernel_rfl) (.skip (by kernel_rfl) (.skip (by kernel_rfl) .nil))) ?_
       refine VC.nil (Qp (Qc ?_))
       refine Qh (L' := [(0, _), (1, _), (5, _), (9, _), (125, _), (126, _), (127, _)]) (WK rfl rfl rfl rfl rfl rfl rfl) ?_
       refine Qa ?_
       refine QN rfl rfl (by omega) (by omega) rfl ?_
       refine Qb rfl rfl (Qf ?_)
       exact QG (L1 := [(0, _), (1, _), (5, _), (9, _), (125, _), (126, _), (127, intV ((i + 1 : Nat) : Int))]) (WK rfl rfl rfl rfl rfl rfl rfl) (k1 := (QL ks).length - (i + 1)) (by omega) ⟨i + 1, _, _, _, by omega, rfl, (Xx (m := n + 4 * c + 4 * c * d + 5 * (i + 1)) (by omega) (hS48.pick [1, 0, 3, 4, 5] rfl)).reorder [1, 0, 2, 3, 4] rfl, by omega, hgv.own_next hmd hI hne ht hk hnd hl hw hmk hs hab ho⟩
      exact absurd h44 (by decide)
     refine ZB (k := k) 13 hS42 keysKey Tryz.underlying81 rfl rfl rfl Y1 (u := intV s) (g := true) (by unfold VZ; rw [hmk]; rfl) (by unfold VZ; rw [hmk]; rfl) rfl ?_
     refine Qb rfl rfl (Qw rfl rfl rfl (Qw rfl rfl rfl (Qe rfl rfl (Qe rfl rfl (Qf (Qc ?_))))))
     refine Qh (L' := [(21, _), (20, _), (19, _), (18, _), (0, _), (1, _), (5, _), (9, _), (125, _), (126, _), (127, _)]) (MQ rfl rfl rfl rfl rfl rfl rfl rfl rfl rfl rfl) ?_
     refine Qd (Qd (Qa (Qb rfl rfl ?_)))
     refine QS rfl rfl ?_
     refine Qf (Qc ?_)
     refine QR rfl (fun h49 => ?_) (fun h49 => ?_)
     ·exact absurd h49 (by decide)
     refine Qy (Qc ?_)
     refine Qh (L' := [(20, _), (19, _), (18, _), (0, _), (1, _), (5, _), (9, _), (125, _), (126, _), (127, _)]) (Yg rfl rfl rfl rfl rfl rfl rfl rfl rfl rfl) ?_
     have hS50 := WD (L := L1) (y := x) hgv.cm.tr hl rfl (hS42.pick [0, 1, 2, 3, 4, 5, 6, 7, 8, 9, 10, 11, 12, 13, 14] rfl)
     rw [Jv hgv.cm.tr hl] at hS50
     have hdrk : k.1 ∈ (ZM ns) → x.wr = BitVec.allOnes 64 := fun q => hdr id _ k _ (Zr ht) ((hob _).1 q) (Zq hl)
     have hpar := hgv.cm.par (SeI.gives hne ((QL ks).take i) hseD)
     have hS51 := hS50.drew
     refine QK [0, 1, 2, 3, 4, 5, 6, 7, 8, 9, 10, 11] [11] ZT (by kernel_rfl) ?_
     refine Qk rfl rfl rfl (fun _ => (Qr rfl)) ?_
     refine Qk rfl rfl rfl (fun _ => (Qr rfl)) ?_
     refine Qk rfl rfl rfl (fun _ => (Qq rfl)) ?_
     refine Qk rfl rfl rfl (fun _ => (Qi rfl J3)) ?_
     refine QF rfl rfl rfl (Qm rfl QW (Vq hS51 0 rfl hgv.cm.tr 0 rfl)) ?_
     refine QF rfl rfl rfl (X9 rfl XB Xc (by first | exact hS51.blk 1 rfl) (by exact Nat.le_of_ble_eq_true rfl) rfl) ?_
     refine Qk rfl rfl rfl (fun _ => (Qr rfl)) ?_
     refine Qk rfl rfl rfl (fun _ => (Qr rfl)) ?_
     refine Qk rfl rfl rfl (fun _ => (Qq rfl)) ?_
     refine Qk rfl rfl rfl (fun _ => (Qi rfl Wn)) ?_
     refine QF rfl rfl rfl (Qm rfl JB (Mb hS51 0 rfl hgv.cm.tr hl 3 rfl)) ?_
     refine Xn rfl rfl rfl rfl rfl rfl ?_
     have hC52 := hS51.split [0, 2] [true, false, true, false, false, false] rfl; dsimp only [QC, Qz, Q9, Q8, Q7] at hC52
     refine Qo SK rfl (Mh hC52 (by omega) hgv.cm.inv hgv.nn hm hpar (fun h0 => hgv.ge hk hnd hmk h0) k x.wr (fun h0 => hgv.ag hI hseD hne hk hnd hdrk rfl (hgv.con_made hmd hI hk hnd hl hmk) h0)) rfl ?_
     rintro e w52 ⟨_, rfl, L2, V3, hs, hab, ho, hS52⟩; refine ⟨_, rfl, ?_⟩
     replace hS52 := hS52.join rfl; dsimp only [QU, QT, Q8, Q7] at hS52; clear hC52
     clear hS51
     refine XJ (.skip (by kernel_rfl) (.skip (by kernel_rfl) (.skip (by kernel_rfl) .nil))) ?_
     refine VC.nil (Qp (Qc ?_))
     refine Qh (L' := [(0, _), (1, _), (5, _), (9, _), (125, _), (126, _), (127, _)]) (WK rfl rfl rfl rfl rfl rfl rfl) ?_
     refine Qa ?_
     refine QN rfl rfl (by omega) (by omega) rfl ?_
     refine Qb rfl rfl (Qf ?_)
     exact QG (L1 := [(0, _), (1, _), (5, _), (9, _), (125, _), (126, _), (127, intV ((i + 1 : Nat) : Int))]) (WK rfl rfl rfl rfl rfl rfl rfl) (k1 := (QL ks).length - (i + 1)) (by omega) ⟨i + 1, _, _, _, by omega, rfl, (Xx (m := n + 4 * c + 4 * c * d + 5 * (i + 1)) (by omega) (hS52.pick [1, 0, 3, 4, 5] rfl)).reorder [1, 0, 2, 3, 4] rfl, by omega, hgv.made_next hmd hI hne hk hnd hl hw hmk hs hab ho⟩
    have hw0 : x.wr = 0#64 := zerW (Decidable.not_not.1 h43)
    refine Qy (Qp (Qc (Qa ?_)))
    refine QN rfl rfl (by omega) (by omega) rfl ?_
    refine Qb rfl rfl (Qf ?_)
    have hS53 := WD (L := L1) (y := x) hgv.cm.tr hl rfl (hS42.pick [0, 1, 2, 3, 4, 5, 6, 7, 8, 9, 10, 11, 12, 13, 14] rfl)
    rw [Jv hgv.cm.tr hl] at hS53
    exact QG (L1 := [(0, _), (1, _), (5, _), (9, _), (125, _), (126, _), (127, intV ((i + 1 : Nat) : Int))]) (WK rfl rfl rfl rfl rfl rfl rfl) (k1 := (QL ks).length - (i + 1)) (by omega) ⟨i + 1, L1, V2, _, by omega, rfl, (Xx (m := n + 4 * c + 4 * c * d + 5 * (i + 1)) (by omega) (hS53.pick [2, 0, 3, 4, 5] rfl)).reorder [1, 0, 2, 3, 4] rfl, by omega, hgv.skip hmd hk hnd hl hw0⟩
   refine QZ (Qv (Qv (Q4 (Qc (Qd ?_)))))
   have hil : i = (QL ks).length := by omega
   rw [hil] at hgv
   have hfin := hgv.fin (fun k hk => ((hmd.dom k).1 hk).1)
   refine Qa (Qb rfl rfl (Qb rfl rfl ?_))
   have hC54 := hS36.split [0, 1] [true, true, false, false, false] rfl; dsimp only [QC, Qz, Q9, Q8, Q7] at hC54
   refine Qo cal_55 rfl (CX (c := 2 * c) (ex := fun _ => 0) hC54 (hgv.cm.sz2 ht hc) (by omega) hfin (fun _ _ => Int.le_refl _) hgv.cm.tr (hgv.cm.noch hch)) rfl ?_
   rintro e w54 ⟨_, rfl, L3, V4, hs3, hab3, hp3, ht3, hS54⟩; refine ⟨_, rfl, ?_⟩
   replace hS54 := hS54.join rfl; dsimp only [QU, QT, Q8, Q7] at hS54; clear hC54
   clear hS36
   refine Qf (Qc ?_)
   refine Qh (L' := []) .nil ?_
   refine Qd (Qa (Qe rfl rfl (Qf (Qc (Q0 ?_)))))
   refine QV (.inr rfl) rfl rfl ?_
   exact ⟨_, rfl, L3, V4, .inl ⟨rfl, gv_end hI ht hmd hgv hord hnd hob hs3 hab3 hp3 ht3⟩, (Xx (m := n + (16 * c + 4 * c * d)) (by omega) (hS54.pick [1, 0, 4] rfl)).reorder [1, 0, 2] rfl⟩
  refine ⟨_, rfl, ?_⟩
  replace hS6 := hS6.join rfl; dsimp only [QU, QT, Q8, Q7] at hS6; clear hC6
  clear hS5
  refine Qb rfl rfl (Qw rfl rfl rfl (Qw rfl rfl rfl (Qe rfl rfl (Qe rfl rfl (Qf (Qc ?_))))))
  refine Qh (L' := [(10, _), (9, _), (8, _), (0, _), (1, _), (5, _)]) (Wf rfl rfl rfl rfl rfl rfl) ?_
  refine Qd (Qd (Qa (Qb rfl rfl ?_)))
  refine Xh rfl rfl rfl ?_
  refine Qf (Qc ?_)
  refine Qx rfl (fun h55 => ?_) (fun h55 => ?_)
  ·refine Qd (Qa (Qb rfl rfl (Qe rfl rfl (Qf (Qc (Q0 (Qs ?_)))))))
   refine QV (.inr rfl) rfl rfl ?_
   exact ⟨_, rfl, L, V1, .inr ⟨rfl, rfl, (QL ks), hord, hnd, hmi, hmab, hmf, hmal⟩, (Xx (m := n + (16 * c + 4 * c * d)) (by omega) (hS6.pick [1, 0, 3] rfl)).reorder [1, 0, 2] rfl⟩
  exact absurd (by decide) h55
 dsimp only [List.set] at hSN
 obtain ⟨u, hu, rfl⟩ := TQ hgk
 refine Qw rfl rfl rfl (Qf (Qc (Qd ?_)))
 refine XP rfl ?_
 refine Qy (Qc (Q1 (Qd (Qa ?_))))
 refine H4 2 hSN rfl hgk rfl rfl ?_
 refine Qw rfl rfl rfl (Qe rfl rfl (Qf (Qc (Qd (Qa (Qb rfl rfl (Qj rfl rfl ?_)))))))
 refine Qg rfl J3 rfl ?_
 refine Qu rfl QW ((Z5 (hSN.pull 3 rfl) hu).cell 0 rfl rfl) rfl ?_
 refine Qb rfl rfl ?_
 refine X2 rfl rfl rfl ?_
 refine Qf (Qc ?_)
 refine Qh (L' := [(44, _), (0, _), (1, _), (5, _), (34, _)]) (ZH rfl rfl rfl rfl rfl) ?_
 refine Qx rfl (fun h56 => ?_) (fun h56 => ?_)
 ·exact absurd h56 (hch _ _ hu)
 refine Qy (Qp ?_)
 exact QG (L1 := [(0, _), (1, _), (5, _), (34, _)]) (Jr rfl rfl rfl rfl) (k1 := left2) (by omega) ⟨_, _, _, rfl, rfl, hSN.pick [0, 1, 2, 3, 4, 5, 6] rfl⟩
end Go.Proofs.YtkcjfoaejijdoaaGreatDoor
/- leaves: contracts by contents -/
namespace Go.Proofs.YtkcjfoaejijdoaaGreatDoor
open Go.RowKit M
set_option linter.unusedVariables false
/-! a commit into the present, page by page -/
def VG (A : LvA) (t : TrA) (k : KD) : Bs := match t.lv k with
  | some x => if x.wr = 0#64 then (if t.dr k.1 = true then zer else A.pres k) else U6 (A.pres k) x.own x.wr
  | none => if t.dr k.1 = true then zer else A.pres k
theorem LvA.eq2 {A B : LvA} (h1 : A.pres = B.pres) (h2 : A.tr = B.tr) : A = B := by cases A; cases B; simp at h1 h2; subst h1; subst h2; rfl
theorem UF {A : LvA} {k : KD} : Wx A 0 k = A.pres k := by unfold Wx; rw [Jg, if_pos rfl]
theorem gvS0_tr {A0 A : LvA} {t : TrA} {j : KD} : (Ri A0 0 t A j).tr = A.tr := by
  unfold Ri
  cases t.lv j with
  | none => rfl
  | some x =>
    dsimp only
    by_cases q : x.wr = 0#64
    · rw [if_pos q]
    · rw [if_neg q, if_pos rfl]
theorem Ns {A0 A : LvA} {t : TrA} {j k : KD} (h : k ≠ j) : (Ri A0 0 t A j).pres k = A.pres k := by
  unfold Ri
  cases t.lv j with
  | none => rfl
  | some x =>
    dsimp only
    by_cases q : x.wr = 0#64
    · rw [if_pos q]
    · rw [if_neg q, if_pos rfl]; exact XL h
theorem Bt {A0 : LvA} {t : TrA} : ∀ (l : List KD) (A : LvA), l.Nodup → (l.foldl (Ri A0 0 t) A).tr = A.tr ∧ ∀ k, (l.foldl (Ri A0 0 t) A).pres k = if k ∈ l then (match t.lv k with | none => A.pres k | some x => if x.wr = 0#64 then A.pres k else KU A0 0 k x) else A.pres k
  | [], A, _ => ⟨rfl, fun k => by simp⟩
  | j :: l, A, hn => by
    obtain ⟨hj, hn⟩ := List.nodup_cons.1 hn
    obtain ⟨a, b⟩ := Bt (A0 := A0) (t := t) l (Ri A0 0 t A j) hn
    refine ⟨a.trans gvS0_tr, fun k => ?_⟩
    show (l.foldl (Ri A0 0 t) (Ri A0 0 t A j)).pres k = _
    rw [b k]
    by_cases e : k = j
    · subst e
      rw [if_neg hj, if_pos List.mem_cons_self]
      unfold Ri
      cases t.lv k with
      | none => rfl
      | some x =>
        dsimp only
        by_cases q : x.wr = 0#64
        · rw [if_pos q, if_pos q]
        · rw [if_neg q, if_neg q, if_pos rfl]; exact X7
    · rw [Ns e]
      by_cases q : k ∈ l
      · rw [if_pos q, if_pos (List.mem_cons_of_mem _ q)]
      · rw [if_neg q, if_neg (by simp [e, q])]
theorem Gm : ∀ (l : List Bs) (A : LvA), (l.foldl (W8 0) A).tr = A.tr ∧ ∀ k, (l.foldl (W8 0) A).pres k = if k.1 ∈ l then zer else A.pres k
  | [], A => ⟨rfl, fun k => by simp⟩
  | ob :: l, A => by
    obtain ⟨a, b⟩ := Gm l (W8 0 A ob)
    have h1 : (W8 0 A ob).tr = A.tr := by unfold W8; rw [if_pos rfl]; rfl
    refine ⟨a.trans h1, fun k => ?_⟩
    show (l.foldl (W8 0) (W8 0 A ob)).pres k = _
    rw [b k]
    have h2 : (W8 0 A ob).pres k = if k.1 = ob then zer else A.pres k := by
      unfold W8
      rw [if_pos rfl]
      show ZU (fun j : KD => j.1 = ob) zer A.pres k = _
      unfold ZU
      by_cases e : k.1 = ob
      · rw [if_pos e, if_pos e]
      · rw [if_neg e, if_neg e]
    rw [h2]
    by_cases q : k.1 ∈ l
    · rw [if_pos q, if_pos (List.mem_cons_of_mem _ q)]
    · rw [if_neg q]
      by_cases e : k.1 = ob
      · rw [if_pos e, if_pos (by simp [e])]
      · rw [if_neg e, if_neg (by simp [e, q])]
theorem NA {A : LvA} {id : Int} {t : TrA} {order : List KD} {obs : List Bs} (hp : t.parent = 0) (hn : order.Nodup) (ho : ∀ k, k ∈ order ↔ t.lv k ≠ none) (hob : ∀ ob, ob ∈ obs ↔ t.dr ob = true) :
    SC A id t order obs = ⟨VG A t, Xj A.tr id none⟩ := by
  obtain ⟨a, b⟩ := Bt (A0 := A) (t := t) order (obs.foldl (W8 0) A) hn
  obtain ⟨c, d⟩ := Gm obs A
  unfold SC
  rw [hp, if_pos rfl]
  apply LvA.eq2
  · funext k
    show (order.foldl (Ri A 0 t) (obs.foldl (W8 0) A)).pres k = VG A t k
    rw [b k, d k]
    unfold VG
    cases q : t.lv k with
    | none =>
      rw [if_neg (by rw [ho, q]; simp)]
      by_cases e : t.dr k.1 = true
      · rw [if_pos ((hob _).2 e), if_pos e]
      · rw [if_neg (fun h => e ((hob _).1 h)), if_neg e]
    | some x =>
      rw [if_pos ((ho k).2 (by rw [q]; simp))]
      dsimp only
      by_cases w : x.wr = 0#64
      · rw [if_pos w, if_pos w]
        by_cases e : t.dr k.1 = true
        · rw [if_pos ((hob _).2 e), if_pos e]
        · rw [if_neg (fun h => e ((hob _).1 h)), if_neg e]
      · rw [if_neg w, if_neg w]; unfold KU; rw [UF]
  · show Xj (order.foldl (Ri A 0 t) (obs.foldl (W8 0) A)).tr id none = Xj A.tr id none
    rw [a, c]
/-! a store with much room and its leaves, known by their contents -/
def LsP (p m c e : Nat) (A : LvA) (L : LvD) (V : VS) : Prop := L.sp = p ∧ LvI m L V ∧ Q5 L V = A ∧ AliveLe V c ∧ SzLe L e
def Un (b p n m c e : Nat) (A : LvA) : Th := Tt fun L => Tt fun V => starL [Jh (LsP p m c e A L V), ZV b L, Zv L.sp n 256 V]
section
variable {w : World} {b p n m c e : Nat} {A : LvA} {As : List Th}
theorem Jk (h : Sat w (Un b p n m c e A :: As)) : ∃ L V, LsP p m c e A L V ∧ Sat w (ZV b L :: Zv L.sp n 256 V :: As) := by
  obtain ⟨L, h⟩ := h.ex
  obtain ⟨V, h⟩ := h.ex
  have h := h.flat
  dsimp only [Q8, Q7] at h
  obtain ⟨hp, h⟩ := h.pure_elim
  exact ⟨L, V, hp, h⟩
theorem Jj {L : LvD} {V : VS} (hp : LsP p m c e A L V) (h : Sat w (ZV b L :: Zv L.sp n 256 V :: As)) : Sat w (Un b p n m c e A :: As) :=
  Sat.ex_intro L (Sat.ex_intro V (Sat.fold (As := [Jh (LsP p m c e A L V), ZV b L, Zv L.sp n 256 V]) (Sat.pure_intro hp h)))
theorem Yt {n' m' c' e' : Nat} (hn : n ≤ n') (hm : m ≤ m') (hc : c ≤ c') (he : e ≤ e') (h : Sat w (Un b p n m c e A :: As)) : Sat w (Un b p n' m' c' e' A :: As) := by
  obtain ⟨L, V, ⟨h1, h2, h3, h4, h5⟩, h⟩ := Jk h
  have h6 : LvI m' L V := ⟨h2.ref, (by obtain ⟨h0, r, a, b⟩ := h2.rank; exact ⟨h0, r, fun i => Nat.le_trans (a i) hm, b⟩), h2.agree⟩
  exact Jj ⟨h1, h6, h3, h4.mono hc, h5.mono he⟩ ((Xx hn (h.perm (List.Perm.swap _ _ _))).perm (List.Perm.swap _ _ _))
end
theorem DO {w : World} {b p mp mt ms : Nat} {As : List Th} (h : Sat w (ZV b (JN p mp mt ms) :: Zv p 0 256 (fun _ => none) :: As)) : Sat w (Un b p 0 0 0 0 PN :: As) := by
  obtain ⟨h1, h2, h3, h4, _⟩ := PM (sp := p) (mp := mp) (mt := mt) (ms := ms)
  exact Jj (L := JN p mp mt ms) (V := fun _ => none) ⟨rfl, h1, h2, h3, h4⟩ h
/-- what a trial has read is as it was -/
def VA (A : LvA) (t : TrA) : Prop := ∀ k x, t.lv k = some x → ∀ j, j < 64 → x.rd.getLsbD j = true → x.base[j]? = (Wx A t.parent k)[j]?
theorem VA_iff {m : Nat} {L : LvD} {V : VS} {t : TrD} (hI : LvI m L V) : (∀ k x, t.lv k = some x → VK L V t k x) ↔ VA (Q5 L V) (Zk V t) := by
  constructor
  · intro h k y hy j hj hr
    cases q : t.lv k with
    | none => rw [HQ q] at hy; cases hy
    | some x =>
      rw [Zq q] at hy
      cases hy
      have h1 := h k x q j hj hr
      rw [hI.sees] at h1
      exact h1
  · intro h k x hx j hj hr
    have h1 := h k _ (Zq hx) j hj hr
    rw [hI.sees]
    exact h1
theorem RQ {w : World} {b p n m c e : Nat} {A : LvA} {F : Th} (hS : Sat w [Un b p n m c e A, F]) (hn : n ≤ 600000000) (hm : m < Z9) (id parent : Int) :
    Calls Tryz.prog 11 #[ptrV b 0, intV id, intV parent] w (Ret fun v w' => v = intV (MI A id parent) ∧ Sat w' [Un b p n (m + 1) c e (MJ A id parent), F]) := by
  obtain ⟨L, V, ⟨h1, h2, rfl, h4, h5⟩, hS1⟩ := Jk hS
  refine (begI_sp hS1 h2 id parent).mono fun ew w h => h.mono fun v w h => ?_
  obtain ⟨L', rfl, hs, ha, hS⟩ := h
  exact ⟨rfl, Jj ⟨hs.sp.trans h1, hs.inv, ha, hs.al _ h4, hs.sz _ h5⟩ hS⟩
theorem PV {w : World} {b p n m c e : Nat} {A : LvA} {F : Th} (hS : Sat w [Un b p n m c e A, F]) (hn : n ≤ 600000000) (hm : m < Z9) (ob : Bs) (a : Int) (hr : 0 ≤ a ∧ a < 16384) :
    Calls Tryz.prog 12 #[ptrV b 0, intV 0, strV ob, intV a] w (Ret fun v w' => v = WA (btA (A.pres (ob, a / 64)) (a % 64)) ∧ Sat w' [Un b p n m c e A, F]) := by
  obtain ⟨L, V, ⟨h1, h2, rfl, h4, h5⟩, hS1⟩ := Jk hS
  refine (NI hS1 hn ob a h2 hm hr).mono fun ew w h => h.mono fun v w h => ?_
  exact ⟨h.1, Jj ⟨h1, h2, rfl, h4, h5⟩ h.2⟩
theorem PU {w : World} {b p n m c e : Nat} {A : LvA} {F : Th} (hS : Sat w [Un b p n m c e A, F]) (hn : n ≤ 600000000) (hm : m < Z9) {id : Int} {tA : TrA} (ht : A.tr id = some tA) (ob : Bs) (a : Int) (hr : 0 ≤ a ∧ a < 16384) :
    Calls Tryz.prog 12 #[ptrV b 0, intV id, strV ob, intV a] w (Ret fun v w' => v = WA (btA (Zb A id (ob, a / 64)).own (a % 64)) ∧ Sat w' [Un b p (n + 2) m c (e + 1) (Zt A id (ob, a / 64) (rdX (Zb A id (ob, a / 64)) (a % 64))), F]) := by
  obtain ⟨L, V, ⟨h1, h2, rfl, h4, h5⟩, hS1⟩ := Jk hS
  obtain ⟨t, ht1, rfl⟩ := R9 ht
  refine (NH hS1 hn ob a h2 hm ht1 hr).mono fun ew w h => h.mono fun v w h => ?_
  obtain ⟨L', V', rfl, hs, ha, hS⟩ := h
  exact ⟨rfl, Jj ⟨hs.sp.trans h1, hs.inv, ha, hs.al _ h4, hs.sz _ h5⟩ hS⟩
theorem PT {w : World} {b p n m c e : Nat} {A : LvA} {F : Th} (hS : Sat w [Un b p n m c e A, F]) (hn : n ≤ 600000000) (hm : m < Z9) (hc : c + 1 < 256) (ob : Bs) (a : Int) (bt : UInt8) (hr : 0 ≤ a ∧ a < 16384) :
    Calls Tryz.prog 10 #[ptrV b 0, intV 0, strV ob, intV a, WA bt] w (Ret fun v w' => v = intV 0 ∧ Sat w' [Un b p (n + 5) m (c + 1) (e + 1) (wrP A (ob, a / 64) (a % 64) bt), F]) := by
  obtain ⟨L, V, ⟨h1, h2, rfl, h4, h5⟩, hS1⟩ := Jk hS
  refine (Pu hS1 hn ob a bt h2 hm hr).mono fun ew w h => h.mono fun v w h => ?_
  obtain ⟨L', V', er, rfl, hs, hq, hS⟩ := h
  rcases hq with ⟨rfl, ha⟩ | ⟨_, _, hT⟩
  · exact ⟨rfl, Jj ⟨hs.sp.trans h1, hs.inv, ha, hs.al _ h4, hs.sz _ h5⟩ hS⟩
  · have := hT c h4
    omega
theorem PS {w : World} {b p n m c e : Nat} {A : LvA} {F : Th} (hS : Sat w [Un b p n m c e A, F]) (hn : n ≤ 600000000) (hm : m < Z9) {id : Int} {tA : TrA} (ht : A.tr id = some tA) (hc : c + 1 < 256) (ob : Bs) (a : Int) (bt : UInt8) (hr : 0 ≤ a ∧ a < 16384) :
    Calls Tryz.prog 10 #[ptrV b 0, intV id, strV ob, intV a, WA bt] w (Ret fun v w' => v = intV 0 ∧ Sat w' [Un b p (n + 5) m (c + 1) (e + 1) (Zt A id (ob, a / 64) (wrX (Zb A id (ob, a / 64)) (a % 64) bt)), F]) := by
  obtain ⟨L, V, ⟨h1, h2, rfl, h4, h5⟩, hS1⟩ := Jk hS
  obtain ⟨t, ht1, rfl⟩ := R9 ht
  refine (Pt hS1 hn ob a bt h2 hm ht1 hr).mono fun ew w h => h.mono fun v w h => ?_
  obtain ⟨L', V', er, rfl, hs, hq, hS⟩ := h
  rcases hq with ⟨rfl, ha⟩ | ⟨_, _, hT⟩
  · exact ⟨rfl, Jj ⟨hs.sp.trans h1, hs.inv, ha, hs.al _ h4, hs.sz _ h5⟩ hS⟩
  · have := hT c h4
    omega
theorem HC {w : World} {b p n m c e : Nat} {A : LvA} {F : Th} (hS : Sat w [Un b p n m c e A, F]) (hn : n ≤ 600000000) (hm : m < Z9) (hG : Ent F GT) {id : Int} {tA : TrA} (ht : A.tr id = some tA) :
    Calls Tryz.prog 14 #[ptrV b 0, intV id] w (Ret fun v w' => ∃ r : Bool, v = .bool r ∧ (r = true ↔ VA A tA) ∧ Sat w' [Un b p n m c e A, F]) := by
  obtain ⟨L, V, ⟨h1, h2, rfl, h4, h5⟩, hS1⟩ := Jk hS
  obtain ⟨t, ht1, rfl⟩ := R9 ht
  refine (CJ hS1 hn h2 hm hG ht1).mono fun ew w h => h.mono fun v w h => ?_
  obtain ⟨r, rfl, hr, hS⟩ := h
  exact ⟨r, rfl, hr.trans (VA_iff h2), Jj ⟨h1, h2, rfl, h4, h5⟩ hS⟩
end Go.Proofs.YtkcjfoaejijdoaaGreatDoor
