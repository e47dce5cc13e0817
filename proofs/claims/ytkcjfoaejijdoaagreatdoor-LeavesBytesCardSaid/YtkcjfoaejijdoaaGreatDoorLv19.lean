/- leaves: merged -/
import Derived.Test.YtkcjfoaejijdoaaGreatDoorLv18
import Derived.Shelf.Spec.TrailingZeros
namespace Go.Proofs.YtkcjfoaejijdoaaGreatDoor
open Go.RowKit M
set_option linter.unusedVariables false
theorem MdI.came {m : Nat} {L : LvD} {V V1 : VS} {t : TrD} {ex : Int → Int} {made : KD → Option Int} {l : List KD} (h : MdI m L V V1 t ex made l) {ks : List KD} (hc : Came (VZ made) ks) : ks.length ≤ l.length :=
  Wm hc.nodup fun k hk => ((h.dom k).1 fun q => hc.has k hk (by unfold VZ; rw [q]; rfl)).1
theorem Vn {t : TrD} {l : List KD} {i : Nat} (hi : i < l.length) : Ji t (l.take i) ≤ Ji t l := by
  unfold Ji
  have h := List.filter_append (p := fun k => decide (∃ x, t.lv k = some x ∧ x.wr ≠ 0#64 ∧ x.wr ≠ BitVec.allOnes 64)) (l.take i) (l.drop i)
  rw [List.take_append_drop] at h
  rw [h, List.length_append]; omega
theorem all64 {w : BitVec 64} (h : (w.toNat : Int) = 18446744073709551615) : w = BitVec.allOnes 64 := BitVec.eq_of_toNat_eq (by simp; omega)
theorem zerW {w : BitVec 64} (h : (w.toNat : Int) = 0) : w = 0#64 := BitVec.eq_of_toNat_eq (by simp; omega)
theorem VP {w : BitVec 64} {q : Nat} (hq : q < 64) : (((w >>> q) &&& 1#64).toNat : Int) = 1 ↔ w.getLsbD q = true := by
  have e : (1#64).toNat = 1 := rfl
  rw [BitVec.toNat_and, BitVec.toNat_ushiftRight, ← BitVec.testBit_toNat, e, Nat.and_one_is_mod, Nat.shiftRight_eq_div_pow, Nat.testBit_eq_decide_div_mod_eq, decide_eq_true_eq]
  generalize w.toNat / 2 ^ q = z
  omega
set_option maxRecDepth 100000 in
set_option maxHeartbeats 3200000 in
theorem Nm {w : World} {m : Nat} {b n Fr : Nat} {L : LvD} {V : VS} {F : Th} {ar : Option Addr} {cr : Nat} {order : List KD} (hS : Sat w [ZV b L, Zv L.sp n Fr V, rowT kC (.slice ar order.length cr) order, F]) {c : Nat} (hn : n + 2 * c ≤ 600000000) (hI : LvI m L V) (hm : m < Z9) {id : Int} {t : TrD} (ht : L.tr id = some t) (hord : ∀ k, k ∈ order ↔ t.lv k ≠ none) (hnd : order.Nodup) (hoc : order.length ≤ c) :
    Calls Tryz.prog 50 #[ptrV b 0, ptrV t.ad 0, .slice ar order.length cr] w (Ret fun v w' => ∃ V', (∃ mm made ex, v = .tuple #[.map (some mm), intV 0] ∧ MdI m L V V' t ex made order ∧ Sat w' [ZV b L, Zv L.sp (n + 2 * c) Fr V', rowT kC (.slice ar order.length cr) order, QH Xu mm (VZ made), F]) ∨ (v = .tuple #[.map none, intV 6] ∧ LvI m L V' ∧ Q5 L V' = Q5 L V ∧ (∀ c, AliveLe V c → Fr ≤ c + Ji t order) ∧ (∀ c, AliveLe V c → AliveLe V' (c + Ji t order)) ∧ Sat w' [ZV b L, Zv L.sp (n + 2 * c) Fr V', rowT kC (.slice ar order.length cr) order, F])) := by
 have h0 : id ≠ 0 := hI.rank.none0 ht
 obtain ⟨Av, hA0, hAv⟩ := hI.rank.av id
 have hcm0 : True := trivial
 replace hS := XQ hS
 replace hS := Z5 (hS.pick [3, 0, 1, 2, 4, 5, 6, 7] rfl) ht
 refine Qt Tryz.func50 rfl Tryz.ntmps50 rfl ?_
 refine Qd (Qa (Qe rfl rfl (Qe rfl rfl (Qf (Qc (Qd (Qa ?_)))))))
 refine ZC Xu hS rfl ?_
 intro mm w1 hS1
 rw [← PP] at hS1
 refine Qe rfl rfl (Qf (Qc (Qd (Qd (Qa (Qb rfl rfl ?_))))))
 refine XU Tryz.underlying98 rfl rfl ?_
 refine Qb rfl rfl (Qf (Qc (Q1 ?_)))
 refine Xw (fun K0 E0 W0 => ∃ (i : Nat) (V1 : VS) (ex : Int → Int) (made : KD → Option Int), K0 = order.length - i ∧ E0 = [(0, ptrV b 0), (1, ptrV t.ad 0), (8, .map (some mm)), (21, .slice ar order.length cr), (22, intV (order.length : Int)), (23, intV (i : Int))] ∧ Sat W0 [QO t.ad [intV t.parent, .map (some t.ml), .map (some t.md)], QH Xu t.ml (XV LfD.ad t.lv), Zh Ka t.lv, QH WM t.md (Jc t.dr), Zh UW (Xj L.tr id none), QO b [ptrV L.sp 0, .map (some L.mp), .map (some L.mt), intV L.cur, .map (some L.ms)], QH Xu L.mp (Zo L.pres), QH Xd L.mt (XV TrD.ad L.tr), QH Xd L.ms (Jc L.sh), Zv L.sp (n + i) Fr V1, rowT kC (.slice ar order.length cr) order, QH Xu mm (VZ made), F] ∧ (i ≤ order.length) ∧ (MdI m L V V1 t ex made (order.take i))) (L0 := [(0, _), (1, _), (8, _), (21, _), (22, _), (23, _)]) (order.length) (Wf rfl rfl rfl rfl rfl rfl) ⟨0, V, _, _, by omega, rfl, hS1.pick [1, 2, 3, 4, 5, 6, 7, 8, 9, 10, 11, 0, 12] rfl, by omega, MdI.start hI⟩ ?_
 rintro _ _ w2 ⟨i, V1, ex, made, rfl, rfl, hS2, hi, hmd⟩
 refine Qd (Qa ?_)
 refine Xt rfl rfl rfl ?_
 refine Qf (Qc (Qd ?_))
 refine Qx rfl (fun h3 => ?_) (fun h3 => ?_)
 ·have hilt : i < order.length := by omega
  obtain ⟨k, hk⟩ : ∃ k, order[i]? = some k := ⟨_, List.getElem?_eq_getElem (by omega)⟩
  obtain ⟨x, hl⟩ : ∃ x, t.lv k = some x := Option.ne_none_iff_exists'.1 ((hord k).1 (List.mem_of_getElem? hk))
  refine Qy (Qc (Qd (Q1 (Qd (Qa ?_)))))
  refine Xp kC 10 i hS2 rfl rfl rfl (by rfl) hk KJ rfl ?_
  intro bx4 capx4 hvx4
  refine ZA 10 i hS2 rfl hvx4 rfl hk XB Xc rfl rfl ?_
  refine Xl hS2 Wp rfl rfl ?_
  intro kb wk5 hk5
  clear hS2
  refine Xa hk5 rfl rfl Xc rfl (by rfl) (i := 0) rfl (by decide) ?_
  intro wk6 hk6; dsimp only [List.set] at hk6
  clear hk5
  replace hk6 := XR (k := k) hk6
  refine Qf (Qc (Qd ?_))
  have hS7 := hk6.drew
  refine QK [0, 1, 2, 3, 4, 5, 6, 7, 8, 9, 10, 11, 12, 13, 14] [12] ZT (by kernel_rfl) ?_
  refine Qk rfl rfl rfl (fun _ => (Qr rfl)) ?_
  refine Qk rfl rfl rfl (fun _ => (Qq rfl)) ?_
  refine Qk rfl rfl rfl (fun _ => (Qi rfl ZN)) ?_
  refine QF rfl rfl rfl (Qm rfl Jq (by exact hS7.cell 1 rfl rfl)) ?_
  refine QF rfl rfl rfl (X9 rfl XB Xc (by exact hS7.blk 0 rfl) (by exact Nat.le_of_ble_eq_true rfl) rfl) ?_
  refine QF rfl rfl rfl (Xz (k := k) 2 hS7 keysKey Tryz.underlying90 rfl rfl rfl Hz (u := ptrV x.ad 0) (Zs hl)) ?_
  refine Qk rfl rfl rfl (fun _ => (Qr rfl)) ?_
  refine Qk rfl rfl rfl (fun _ => (Qr rfl)) ?_
  refine Qk rfl rfl rfl (fun _ => (Qq rfl)) ?_
  refine Qk rfl rfl rfl (fun _ => (Qi rfl J3)) ?_
  refine QF rfl rfl rfl (Qm rfl QW (by exact hS7.cell 1 rfl rfl)) ?_
  refine QF rfl rfl rfl (X9 rfl XB Xc (by exact hS7.blk 0 rfl) (by exact Nat.le_of_ble_eq_true rfl) rfl) ?_
  refine Xn rfl rfl rfl rfl rfl rfl ?_
  have hC8 := hS7.split [6, 7, 8, 5, 9] [false, false, false, false, false, true, true, true, true, true, false, false, false, false] rfl; dsimp only [QC, Qz, Q9, Q8, Q7] at hC8
  refine Qo Ht rfl (DK (i0 := id) hC8 (hI.rank.ends hm) hAv t.parent (hA0 t ht) k) rfl ?_
  rintro e w8 ⟨_, rfl, rfl, hS8⟩; refine ⟨_, rfl, ?_⟩
  replace hS8 := hS8.join rfl; dsimp only [QU, QT, Q8, Q7] at hS8; clear hC8
  clear hS7
  refine XJ (.skip (by kernel_rfl) (.skip (by kernel_rfl) (.cons (.inl ⟨rfl, (Xz (k := k) 7 hS8 keysKey Tryz.underlying90 rfl rfl rfl Hz (u := ptrV x.ad 0) (Zs hl))⟩) (.cons (.inl ⟨rfl, (X9 rfl XB Xc (by exact hS8.blk 5 rfl) (by exact Nat.le_of_ble_eq_true rfl) rfl)⟩) (.cons (.inl ⟨rfl, (Qm rfl Jq (by exact hS8.cell 6 rfl rfl))⟩) .nil))))) ?_
  refine Qk rfl rfl rfl (fun _ => (Q6 rfl)) ?_
  refine Qk rfl rfl rfl (fun _ => (Q6 rfl)) ?_
  refine VC.nil (Qc ?_)
  refine Qh (L' := [(12, _), (11, _), (10, _), (0, _), (1, _), (8, _), (21, _), (22, _), (23, _)]) (G6 rfl rfl rfl rfl rfl rfl rfl rfl rfl) ?_
  refine Qd (Qd ?_)
  have hS9 := Yu (hS8.pick [8, 0, 1, 2, 3, 4, 5, 6, 7, 9, 10, 11, 12, 13] rfl) hl
  refine Qa (Qb rfl rfl (Qj rfl rfl ?_))
  refine Qg rfl Wn rfl ?_
  refine Qu rfl JB (by exact hS9.cell 0 rfl rfl) rfl ?_
  refine X2 rfl rfl rfl ?_
  refine Qb rfl rfl ?_
  refine Xk 45 rfl (fun h10 => ?_) (fun h10 => ?_)
  ·have hnn : ¬ U5 L t k x := fun e => e.1 (zerW h10)
   refine Ql rfl rfl (decide_eq_true h10) rfl ?_
   refine Ql rfl rfl (decide_eq_true h10) rfl ?_
   refine Ql rfl rfl (decide_eq_true h10) rfl ?_
   refine Ql rfl rfl (decide_eq_true h10) rfl ?_
   refine Ql rfl rfl (decide_eq_true h10) rfl ?_
   refine Xg rfl (decide_eq_true h10) rfl rfl ?_
   refine Qb rfl rfl ?_
   refine Ql rfl rfl rfl rfl ?_
   refine Ql rfl rfl rfl rfl ?_
   refine Ql rfl rfl rfl rfl ?_
   refine Ql rfl rfl rfl rfl ?_
   refine Ql rfl rfl rfl rfl ?_
   refine Ql rfl rfl rfl rfl ?_
   refine Xg rfl rfl rfl rfl ?_
   refine Qf (Qc ?_)
   refine Qh (L' := [(59, _), (12, _), (11, _), (10, _), (0, _), (1, _), (8, _), (21, _), (22, _), (23, _)]) (Yg rfl rfl rfl rfl rfl rfl rfl rfl rfl rfl) ?_
   refine XP rfl ?_
   refine QZ (Qv (Q4 (Qc (Qa ?_))))
   refine QN rfl rfl (by omega) (by omega) rfl ?_
   refine Qb rfl rfl (Qf ?_)
   have hS11 := Z7 hl (hS9.pick [0, 1, 2, 3, 4, 5, 6, 7, 8, 9, 10, 11, 12, 13, 14] rfl)
   exact QG (L1 := [(0, _), (1, _), (8, _), (21, _), (22, _), (23, intV ((i + 1 : Nat) : Int))]) (Wf rfl rfl rfl rfl rfl rfl) (k1 := order.length - (i + 1)) (by omega) ⟨i + 1, V1, ex, made, by omega, rfl, (Xx (m := n + (i + 1)) (by omega) (hS11.pick [10, 7, 8, 0, 9, 4, 1, 2, 3, 5, 11, 12, 13] rfl)).reorder [1, 2, 3, 4, 5, 6, 7, 8, 9, 0, 10, 11, 12] rfl, by omega, hmd.skip hk hl hnn⟩
  have hw0 : x.wr ≠ 0#64 := fun e => h10 (by rw [e]; rfl)
  refine Qn rfl rfl (decide_eq_false h10) ?_
  refine Qb rfl rfl ?_
  refine Qn rfl rfl (decide_eq_false h10) ?_
  refine Qj rfl rfl ?_
  refine Qn rfl rfl (decide_eq_false h10) ?_
  refine Qg rfl Wn rfl ?_
  refine Qn rfl rfl (decide_eq_false h10) ?_
  refine Qu rfl JB (by exact hS9.cell 0 rfl rfl) rfl ?_
  refine Qn rfl rfl (decide_eq_false h10) ?_
  refine X2 rfl rfl rfl ?_
  refine QX rfl (decide_eq_false h10) rfl rfl ?_
  refine Qb rfl rfl ?_
  refine Xk 52 rfl (fun h12 => ?_) (fun h12 => ?_)
  ·have hnn : ¬ U5 L t k x := fun e => e.2.1 (all64 h12)
   refine Ql rfl rfl (decide_eq_true h12) rfl ?_
   refine Ql rfl rfl (decide_eq_true h12) rfl ?_
   refine Ql rfl rfl (decide_eq_true h12) rfl ?_
   refine Ql rfl rfl (decide_eq_true h12) rfl ?_
   refine Ql rfl rfl (decide_eq_true h12) rfl ?_
   refine Ql rfl rfl (decide_eq_true h12) rfl ?_
   refine Xg rfl (decide_eq_true h12) rfl rfl ?_
   refine Qf (Qc ?_)
   refine Qh (L' := [(59, _), (12, _), (11, _), (10, _), (0, _), (1, _), (8, _), (21, _), (22, _), (23, _)]) (Yg rfl rfl rfl rfl rfl rfl rfl rfl rfl rfl) ?_
   refine XP rfl ?_
   refine QZ (Qv (Q4 (Qc (Qa ?_))))
   refine QN rfl rfl (by omega) (by omega) rfl ?_
   refine Qb rfl rfl (Qf ?_)
   have hS13 := Z7 hl (hS9.pick [0, 1, 2, 3, 4, 5, 6, 7, 8, 9, 10, 11, 12, 13, 14] rfl)
   exact QG (L1 := [(0, _), (1, _), (8, _), (21, _), (22, _), (23, intV ((i + 1 : Nat) : Int))]) (Wf rfl rfl rfl rfl rfl rfl) (k1 := order.length - (i + 1)) (by omega) ⟨i + 1, V1, ex, made, by omega, rfl, (Xx (m := n + (i + 1)) (by omega) (hS13.pick [10, 7, 8, 0, 9, 4, 1, 2, 3, 5, 11, 12, 13] rfl)).reorder [1, 2, 3, 4, 5, 6, 7, 8, 9, 0, 10, 11, 12] rfl, by omega, hmd.skip hk hl hnn⟩
  have hw1 : x.wr ≠ BitVec.allOnes 64 := fun e => h12 (by rw [e]; rfl)
  refine Qn rfl rfl (decide_eq_false h12) ?_
  refine Qb rfl rfl ?_
  refine Qn rfl rfl (decide_eq_false h12) ?_
  refine Qb rfl rfl ?_
  refine Qn rfl rfl (decide_eq_false h12) ?_
  refine Qj rfl rfl ?_
  refine Qn rfl rfl (decide_eq_false h12) ?_
  refine Qg rfl Rk rfl ?_
  refine Qn rfl rfl (decide_eq_false h12) ?_
  refine Qu rfl QW (by exact hS9.cell 0 rfl rfl) rfl ?_
  refine Qn rfl rfl (decide_eq_false h12) ?_
  refine X2 rfl rfl rfl ?_
  refine QX rfl (decide_eq_false h12) rfl rfl ?_
  refine Qf (Qc ?_)
  refine Qh (L' := [(59, _), (12, _), (11, _), (10, _), (0, _), (1, _), (8, _), (21, _), (22, _), (23, _)]) (Yg rfl rfl rfl rfl rfl rfl rfl rfl rfl rfl) ?_
  refine Qx rfl (fun h14 => ?_) (fun h14 => ?_)
  ·have hnn : ¬ U5 L t k x := fun e => e.2.2 h14
   refine QZ (Qv (Q4 (Qc (Qa ?_))))
   refine QN rfl rfl (by omega) (by omega) rfl ?_
   refine Qb rfl rfl (Qf ?_)
   have hS15 := Z7 hl (hS9.pick [0, 1, 2, 3, 4, 5, 6, 7, 8, 9, 10, 11, 12, 13, 14] rfl)
   exact QG (L1 := [(0, _), (1, _), (8, _), (21, _), (22, _), (23, intV ((i + 1 : Nat) : Int))]) (Wf rfl rfl rfl rfl rfl rfl) (k1 := order.length - (i + 1)) (by omega) ⟨i + 1, V1, ex, made, by omega, rfl, (Xx (m := n + (i + 1)) (by omega) (hS15.pick [10, 7, 8, 0, 9, 4, 1, 2, 3, 5, 11, 12, 13] rfl)).reorder [1, 2, 3, 4, 5, 6, 7, 8, 9, 0, 10, 11, 12] rfl, by omega, hmd.skip hk hl hnn⟩
  have hneed : U5 L t k x := ⟨hw0, hw1, h14⟩
  refine Qy (Qc (Qd ?_))
  have hS16 := hS9.drew
  refine D5 ZT ?_
  refine My 6 15 rfl ?_ ?_
  ·refine KM (sp := [5, 6, 15]) [0, 1, 2, 3, 4, 7, 8, 9, 10, 11, 12, 13, 14, 5, 6, 15, 16, 17] (by kernel_rfl) ?_
   refine Qk rfl rfl rfl (fun _ => (Qr rfl)) ?_
   refine Qk rfl rfl rfl (fun _ => (Qq rfl)) ?_
   refine Qk rfl rfl rfl (fun _ => (Qi rfl XK)) ?_
   refine QF rfl rfl rfl (Qm rfl Xe (by exact hS16.cell 2 rfl rfl)) ?_
   refine Qk rfl rfl rfl (fun _ => (Qr rfl)) ?_
   refine Qk rfl rfl rfl (fun _ => (Qr rfl)) ?_
   refine Qk rfl rfl rfl (fun _ => (Qq rfl)) ?_
   refine Qk rfl rfl rfl (fun _ => (Qi rfl XK)) ?_
   refine QF rfl rfl rfl (Qm rfl Xe (by exact hS16.cell 2 rfl rfl)) ?_
   refine Qk rfl rfl rfl (fun _ => (Qr rfl)) ?_
   refine Qk rfl rfl rfl (fun _ => (Qq rfl)) ?_
   refine Qk rfl rfl rfl (fun _ => (Qi rfl WE)) ?_
   refine QF rfl rfl rfl (Qm rfl QW (by exact hS16.cell 0 rfl rfl)) ?_
   refine Xn rfl rfl rfl rfl rfl rfl ?_
   have hC17 := hS16.split [11] [false, false, false, false, false, false, false, false, false, false, false, true, false, false, false] rfl; dsimp only [QC, Qz, Q9, Q8, Q7] at hC17
   refine Qo Jz rfl (YG hC17 (Xo L t.parent k)) rfl ?_
   rintro e w17 ⟨_, rfl, rfl, hS17⟩; refine ⟨_, rfl, ?_⟩
   replace hS17 := hS17.join rfl; dsimp only [QU, QT, Q8, Q7] at hS17; clear hC17
   clear hS16
   refine XJ (.cons (.inl ⟨rfl, (Qm rfl QW (by exact hS17.cell 1 rfl rfl))⟩) (.cons (.inl ⟨rfl, (Qm rfl Xe (by exact hS17.cell 3 rfl rfl))⟩) (.skip (by kernel_rfl) .nil))) ?_
   refine Xn rfl rfl rfl rfl rfl rfl ?_
   refine K8 hS17 rfl Tryz.underlying9 Tryz.underlying143 Tryz.underlying5 rfl ?_
   intro v18 w18 hS18
   clear hS17
   refine XJ (.cons (.inl ⟨rfl, (Qm rfl QW (by exact hS18.cell 2 rfl rfl))⟩) (.cons (.inl ⟨rfl, (Qm rfl Xe (by exact hS18.cell 4 rfl rfl))⟩) (.skip (by kernel_rfl) .nil))) ?_
   refine Xn rfl rfl rfl rfl rfl rfl ?_
   have hC19 := hS18.split [1] [false, true, false, false, false, false, false, false, false, false, false, false, false, false, false, false] rfl; dsimp only [QC, Qz, Q9, Q8, Q7] at hC19
   refine Qo Jz rfl (YG hC19 (x.own)) rfl ?_
   rintro e w19 ⟨_, rfl, rfl, hS19⟩; refine ⟨_, rfl, ?_⟩
   replace hS19 := hS19.join rfl; dsimp only [QU, QT, Q8, Q7] at hS19; clear hC19
   clear hS18
   refine XJ (.skip (by kernel_rfl) (.skip (by kernel_rfl) (.skip (by kernel_rfl) .nil))) ?_
   refine Qk rfl rfl rfl (fun _ => (Q6 rfl)) ?_
   refine Qk rfl rfl rfl (fun _ => (Q6 rfl)) ?_
   refine VC.nil (Qc ?_)
   refine Qh (L' := [(14, _), (13, _), (11, _), (10, _), (0, _), (1, _), (8, _), (21, _), (22, _), (23, _)]) (Yg rfl rfl rfl rfl rfl rfl rfl rfl rfl rfl) ?_
   refine Qd (Qd ?_)
   have hnl : (XM V1 (Xo L t.parent k)).length = 64 := by rw [hmd.pg _ (hI.aliveS _ _)]; exact hI.len (hI.aliveS _ _)
   have hao : XH V x.own := by have ha := hI.alive (.inr (id, k, true)); rw [X3 ht hl] at ha; exact ha
   have hol : (XM V1 x.own).length = 64 := by rw [hmd.pg _ hao]; exact hI.len hao
   obtain ⟨ab, cb, hvb, _⟩ := hS19.own_shape 1 rfl; rw [hnl] at hvb; obtain rfl := hvb
   refine Qa (Qb rfl rfl ?_)
   refine XU Tryz.underlying143 rfl rfl ?_
   refine Qb rfl rfl (Qf (Qc (Q1 ?_)))
   have hoz := hS19.pick [1, 0, 2, 3, 4, 5, 6, 7, 8, 9, 10, 11, 12, 13, 14, 15] rfl
   refine Xw (fun K0 E0 W0 => ∃ (q : Nat) (r : Bs), K0 = 64 - q ∧ E0 = [(0, ptrV b 0), (1, ptrV t.ad 0), (8, .map (some mm)), (21, .slice ar order.length cr), (22, intV (order.length : Int)), (23, intV (i : Int)), (10, ptrV kb 0), (11, ptrV x.ad 0), (13, .slice ab 64 cb), (14, strV (XM V1 x.own)), (77, intV 64), (78, intV (q : Int))] ∧ Sat W0 [rowT byC (.slice ab 64 cb) r, QO x.ad [intV x.base, intV x.own, XG x.rd, XG x.wr], Zh Ka (Xj t.lv k none), QO kb [strV k.1, intV k.2], QO t.ad [intV t.parent, .map (some t.ml), .map (some t.md)], QH Xu t.ml (XV LfD.ad t.lv), QH WM t.md (Jc t.dr), Zh UW (Xj L.tr id none), QO b [ptrV L.sp 0, .map (some L.mp), .map (some L.mt), intV L.cur, .map (some L.ms)], QH Xu L.mp (Zo L.pres), QH Xd L.mt (XV TrD.ad L.tr), QH Xd L.ms (Jc L.sh), Zv L.sp (n + i) Fr V1, rowT kC (.slice ar order.length cr) order, QH Xu mm (VZ made), F] ∧ (q ≤ 64) ∧ (MgI (XM V1 (Xo L t.parent k)) (XM V1 x.own) r x.wr q)) (L0 := [(0, _), (1, _), (8, _), (21, _), (22, _), (23, _), (10, _), (11, _), (13, _), (14, _), (77, _), (78, _)]) (64) (Kb rfl rfl rfl rfl rfl rfl rfl rfl rfl rfl rfl rfl) ⟨0, _, rfl, rfl, hoz.pick [0, 2, 3, 9, 10, 11, 12, 7, 4, 5, 6, 8, 1, 13, 14, 15] rfl, by omega, MgI.start hnl⟩ ?_
   rintro _ _ w20 ⟨q, r, rfl, rfl, hS20, hq, hmg⟩
   refine Qd (Qa ?_)
   refine Xt rfl rfl rfl ?_
   refine Qf (Qc (Qd ?_))
   refine Qx rfl (fun h21 => ?_) (fun h21 => ?_)
   ·refine Qy (Qc (Qd (Q1 (Qd (Qa (Qb rfl rfl (Qe rfl rfl (Qf (Qc (Qd (Qa (Qb rfl rfl (Qj rfl rfl ?_)))))))))))))
    refine Qg rfl Wn rfl ?_
    refine Qu rfl JB (by exact hS20.cell 1 rfl rfl) rfl ?_
    refine Qb rfl rfl ?_
    refine J5 q rfl rfl (by omega) rfl ?_
    refine WL (b := 1#64) rfl rfl rfl ?_
    refine X2 rfl rfl rfl ?_
    refine Qf (Qc ?_)
    refine Qh (L' := [(88, _), (15, _), (0, _), (1, _), (8, _), (21, _), (22, _), (23, _), (10, _), (11, _), (13, _), (14, _), (77, _), (78, _)]) (zb14 rfl rfl rfl rfl rfl rfl rfl rfl rfl rfl rfl rfl rfl rfl) ?_
    refine Qx rfl (fun h22 => ?_) (fun h22 => ?_)
    ·have hwb := (VP (by omega)).1 h22
     obtain ⟨co, hco⟩ : ∃ co, (XM V1 x.own)[q]? = some co := ⟨_, List.getElem?_eq_getElem (by omega)⟩
     obtain ⟨cr0, hcr0⟩ : ∃ co, r[q]? = some co := ⟨_, List.getElem?_eq_getElem (by rw [hmg.1]; omega)⟩
     refine Qa (Qb rfl rfl (Qb rfl rfl (Qb rfl rfl (Qb rfl rfl ?_))))
     refine ZW q Tryz.underlying9 rfl rfl rfl hco rfl ?_
     refine Xp byC 0 q hS20 rfl rfl rfl (by rfl) hcr0 Sw rfl ?_
     intro bx23 capx23 hvx23
     refine ZJ 0 q co hS20 rfl hvx23 rfl rfl D8 (by rfl) (by exact (List.getElem?_eq_some_iff.1 hcr0).1) ?_
     intro w24 hS25; dsimp only [List.set] at hS25
     clear hS20
     refine Qf (Qp (Qc ?_))
     refine Qh (L' := [(0, _), (1, _), (8, _), (21, _), (22, _), (23, _), (10, _), (11, _), (13, _), (14, _), (77, _), (78, _)]) (Kb rfl rfl rfl rfl rfl rfl rfl rfl rfl rfl rfl rfl) ?_
     refine Qa ?_
     refine QN rfl rfl (by omega) (by omega) rfl ?_
     refine Qb rfl rfl (Qf ?_)
     exact QG (L1 := [(0, _), (1, _), (8, _), (21, _), (22, _), (23, _), (10, _), (11, _), (13, _), (14, _), (77, _), (78, intV ((q + 1 : Nat) : Int))]) (Kb rfl rfl rfl rfl rfl rfl rfl rfl rfl rfl rfl rfl) (k1 := 64 - (q + 1)) (by omega) ⟨q + 1, _, rfl, rfl, hS25.pick [0, 1, 2, 3, 4, 5, 6, 7, 8, 9, 10, 11, 12, 13, 14, 15] rfl, by omega, hmg.T (by omega) hwb hco⟩
    have hwb : x.wr.getLsbD q = false := by have := (not_congr (VP (by omega))).1 h22; simpa using this
    refine Qy (Qp (Qc (Qa ?_)))
    refine QN rfl rfl (by omega) (by omega) rfl ?_
    refine Qb rfl rfl (Qf ?_)
    exact QG (L1 := [(0, _), (1, _), (8, _), (21, _), (22, _), (23, _), (10, _), (11, _), (13, _), (14, _), (77, _), (78, intV ((q + 1 : Nat) : Int))]) (Kb rfl rfl rfl rfl rfl rfl rfl rfl rfl rfl rfl rfl) (k1 := 64 - (q + 1)) (by omega) ⟨q + 1, _, rfl, rfl, hS20.pick [0, 1, 2, 3, 4, 5, 6, 7, 8, 9, 10, 11, 12, 13, 14, 15] rfl, by omega, hmg.F hwb⟩
   refine QZ (Qv (Qv (Q4 (Qc ?_))))
   refine Qh (L' := [(0, _), (1, _), (8, _), (21, _), (22, _), (23, _), (10, _), (13, _)]) (WT rfl rfl rfl rfl rfl rfl rfl rfl) ?_
   refine Qd ?_
   have hS26 := hS20.drew
   refine QK [0, 1, 2, 3, 4, 5, 6, 7, 8, 9, 10, 11] [6] ZT (by kernel_rfl) ?_
   refine Qk rfl rfl rfl (fun _ => (Qr rfl)) ?_
   refine Qk rfl rfl rfl (fun _ => (Qq rfl)) ?_
   refine Qk rfl rfl rfl (fun _ => (Qi rfl XK)) ?_
   refine QF rfl rfl rfl (Qm rfl Xe (by exact hS26.cell 8 rfl rfl)) ?_
   refine Qk rfl rfl rfl (fun _ => (Qr rfl)) ?_
   refine QF rfl rfl rfl (Bx 0 hS26 rfl rfl Tryz.underlying143 Tryz.underlying5 Tryz.underlying9) ?_
   refine Xn rfl rfl rfl rfl rfl rfl ?_
   have hr64 : q = 64 := by omega
   subst hr64
   have hre := hmg.fin hnl hol
   rw [hmd.pg _ (hI.aliveS _ _), hmd.pg x.own hao] at hre
   have hC27 := hS26.split [12] [false, false, false, false, false, false, false, false, false, false, false, false, true, false, false, false] rfl; dsimp only [QC, Qz, Q9, Q8, Q7] at hC27
   refine Qo Cx rfl (Pk hC27 (by omega) (by rw [hre]; exact Ul)) rfl ?_
   rintro e w27 ⟨_, rfl, (⟨hz0, rfl, hS27⟩ | ⟨hz0, rfl, hag, hS27⟩ | ⟨s2, hz0, rfl, hs1, hv1, hS27⟩)⟩
   ·refine ⟨_, rfl, ?_⟩
    replace hS27 := hS27.join rfl; dsimp only [QU, QT, Q8, Q7] at hS27; clear hC27
    clear hS26
    have hmd2 := hmd.zero hk hnd hl hneed hz0 hre
    refine XJ (.skip (by kernel_rfl) (.skip (by kernel_rfl) .nil)) ?_
    refine Qk rfl rfl rfl (fun _ => (Qr rfl)) ?_
    refine Qk rfl rfl rfl (fun _ => (QJ rfl rfl)) ?_
    refine Qk rfl rfl rfl (fun _ => (QJ rfl rfl)) ?_
    refine Qk rfl rfl rfl (fun _ => (Q6 rfl)) ?_
    refine Qk rfl rfl rfl (fun _ => (Q6 rfl)) ?_
    refine VC.nil (Qc ?_)
    refine Qh (L' := [(17, _), (16, _), (0, _), (1, _), (8, _), (21, _), (22, _), (23, _), (10, _)]) (G6 rfl rfl rfl rfl rfl rfl rfl rfl rfl) ?_
    refine Qd (Qd (Qa (Qb rfl rfl ?_)))
    refine Xh rfl rfl rfl ?_
    refine Qf (Qc ?_)
    refine Qx rfl (fun h28 => ?_) (fun h28 => ?_)
    ·exact absurd rfl h28
    refine Qy (Qc ?_)
    refine Qh (L' := [(16, _), (0, _), (1, _), (8, _), (21, _), (22, _), (23, _), (10, _)]) (WT rfl rfl rfl rfl rfl rfl rfl rfl) ?_
    have hS29 := Z7 hl (hS27.pick [2, 3, 0, 1, 4, 5, 6, 7, 8, 9, 10, 11, 12, 13, 14, 15] rfl)
    refine Qa (Qb rfl rfl ?_)
    refine XX rfl XB Xc (by exact hS29.blk 3 rfl) (by exact Nat.le_of_ble_eq_true rfl) rfl rfl ?_
    refine Qb rfl rfl ?_
    refine X1 (k := k) (v := intV 0) 13 hS29 keysKey Tryz.underlying81 rfl rfl rfl rfl ?_
    intro w30 hS30; dsimp only [List.set] at hS30; rw [BP] at hS30
    clear hS29
    refine Qf (Qp (Qc ?_))
    refine Qh (L' := [(0, _), (1, _), (8, _), (21, _), (22, _), (23, _)]) (Wf rfl rfl rfl rfl rfl rfl) ?_
    refine Qa ?_
    refine QN rfl rfl (by omega) (by omega) rfl ?_
    refine Qb rfl rfl (Qf ?_)
    exact QG (L1 := [(0, _), (1, _), (8, _), (21, _), (22, _), (23, intV ((i + 1 : Nat) : Int))]) (Wf rfl rfl rfl rfl rfl rfl) (k1 := order.length - (i + 1)) (by omega) ⟨i + 1, _, _, _, by omega, rfl, hS30.pick [4, 5, 0, 6, 7, 8, 9, 10, 11, 1, 12, 13, 14] rfl, by omega, hmd2⟩
   ·refine ⟨_, rfl, ?_⟩
    replace hS27 := hS27.join rfl; dsimp only [QU, QT, Q8, Q7] at hS27; clear hC27
    clear hS26
    refine XJ (.skip (by kernel_rfl) (.skip (by kernel_rfl) .nil)) ?_
    refine Qk rfl rfl rfl (fun _ => (Qr rfl)) ?_
    refine Qk rfl rfl rfl (fun _ => (QJ rfl rfl)) ?_
    refine Qk rfl rfl rfl (fun _ => (QJ rfl rfl)) ?_
    refine Qk rfl rfl rfl (fun _ => (Q6 rfl)) ?_
    refine Qk rfl rfl rfl (fun _ => (Q6 rfl)) ?_
    refine VC.nil (Qc ?_)
    refine Qh (L' := [(17, _), (16, _), (0, _), (1, _), (8, _), (21, _), (22, _), (23, _), (10, _)]) (G6 rfl rfl rfl rfl rfl rfl rfl rfl rfl) ?_
    refine Qd (Qd (Qa (Qb rfl rfl ?_)))
    refine Xh rfl rfl rfl ?_
    refine Qf (Qc ?_)
    refine Qx rfl (fun h31 => ?_) (fun h31 => ?_)
    ·refine Qd (Qd (Qa (Qb rfl rfl ?_)))
     have hS32 := Z7 hl (hS27.pick [2, 3, 0, 1, 4, 5, 6, 7, 8, 9, 10, 11, 12, 13, 14, 15] rfl)
     have hcm : ∀ {ks : List KD}, Came (VZ made) ks → ks.length ≤ c := fun h => Nat.le_trans (hmd.came h) (by rw [List.length_take]; omega)
     have hC33 := hS32.split [13] [false, false, false, false, false, false, false, false, false, false, false, false, false, true, false] rfl; dsimp only [QC, Qz, Q9, Q8, Q7] at hC33
     refine Qo T9 rfl (RU hC33 (fun ks h => by have := hcm h; omega)) rfl ?_
     rintro e w33 ⟨_, rfl, ks, hks, hS33⟩; refine ⟨_, rfl, ?_⟩
     replace hS33 := hS33.join rfl; dsimp only [QU, QT, Q8, Q7] at hS33; clear hC33
     clear hS32
     obtain ⟨au, cu, hvu, _⟩ := hS33.own_shape 0 rfl; obtain rfl := hvu
     have hndk := Y6 hks.nodup
     have hlk : (QL ks).length ≤ c := by rw [ZZ]; exact hcm (Came.of_all hks)
     refine XU Tryz.underlying98 rfl rfl ?_
     refine Qb rfl rfl (Qf (Qc ?_))
     refine Qh (L' := [(111, _), (110, _), (109, _), (17, _), (16, _), (0, _), (1, _), (8, _), (21, _), (22, _), (23, _), (10, _)]) (Kb rfl rfl rfl rfl rfl rfl rfl rfl rfl rfl rfl rfl) ?_
     refine Q1 ?_
     refine Xw (fun K0 E0 W0 => ∃ (j : Nat) (V2 : VS) (ex2 : Int → Int), K0 = (QL ks).length - j ∧ E0 = [(0, ptrV b 0), (8, .map (some mm)), (17, intV 6), (109, .slice au (QL ks).length cu), (110, intV ((QL ks).length : Int)), (111, intV (j : Int))] ∧ Sat W0 [QO t.ad [intV t.parent, .map (some t.ml), .map (some t.md)], QH Xu t.ml (XV LfD.ad t.lv), Zh Ka t.lv, QH WM t.md (Jc t.dr), Zh UW (Xj L.tr id none), QO b [ptrV L.sp 0, .map (some L.mp), .map (some L.mt), intV L.cur, .map (some L.ms)], QH Xu L.mp (Zo L.pres), QH Xd L.mt (XV TrD.ad L.tr), QH Xd L.ms (Jc L.sh), Zv L.sp (n + i + 1 + j) Fr V2, rowT kC (.slice ar order.length cr) order, QH Xu mm (VZ made), rowT kC (.slice au (QL ks).length cu) (QL ks), F] ∧ (j ≤ (QL ks).length) ∧ (UnI m L V1 V2 made ((QL ks).take j) ex2)) (L0 := [(0, _), (8, _), (17, _), (109, _), (110, _), (111, _)]) ((QL ks).length) (Wf rfl rfl rfl rfl rfl rfl) ⟨0, V1, ex, by omega, rfl, hS33.pick [6, 7, 2, 8, 9, 10, 11, 12, 13, 3, 14, 1, 0, 15] rfl, by omega, hmd.un⟩ ?_
     rintro _ _ w34 ⟨j, V2, ex2, rfl, rfl, hS34, hjl, hun⟩
     refine Qd (Qa ?_)
     refine Xt rfl rfl rfl ?_
     refine Qf (Qc (Qd ?_))
     refine Qx rfl (fun h35 => ?_) (fun h35 => ?_)
     ·obtain ⟨k2, hj⟩ : ∃ k, (QL ks)[j]? = some k := ⟨_, List.getElem?_eq_getElem (by omega)⟩
      refine Qy (Qc (Qd (Q1 (Qd (Qa ?_)))))
      refine Xp kC 12 j hS34 rfl rfl rfl (by rfl) hj KJ rfl ?_
      intro bx36 capx36 hvx36
      refine ZA 12 j hS34 rfl hvx36 rfl hj XB Xc rfl rfl ?_
      refine Xl hS34 Wp rfl rfl ?_
      intro kb wk37 hk37
      clear hS34
      refine Xa hk37 rfl rfl Xc rfl (by rfl) (i := 0) rfl (by decide) ?_
      intro wk38 hk38; dsimp only [List.set] at hk38
      clear hk37
      replace hk38 := XR (k := k2) hk38
      refine Qf (Qc ?_)
      have hS39 := hk38.drew
      refine QK [0, 1, 2, 3, 4, 5, 6, 7] [7] ZT (by kernel_rfl) ?_
      refine Qk rfl rfl rfl (fun _ => (Qr rfl)) ?_
      refine Qk rfl rfl rfl (fun _ => (Qq rfl)) ?_
      refine Qk rfl rfl rfl (fun _ => (Qi rfl XK)) ?_
      refine QF rfl rfl rfl (Qm rfl Xe (by exact hS39.cell 6 rfl rfl)) ?_
      refine Qk rfl rfl rfl (fun _ => (Qr rfl)) ?_
      refine QF rfl rfl rfl (X9 rfl XB Xc (by exact hS39.blk 0 rfl) (by exact Nat.le_of_ble_eq_true rfl) rfl) ?_
      refine QF rfl rfl rfl (Xz (k := k2) 12 hS39 keysKey Tryz.underlying81 rfl rfl rfl Y1 (u := intV (Y8 made k2)) TV) ?_
      refine Xn rfl rfl rfl rfl rfl rfl ?_
      have hC40 := hS39.split [10] [false, false, false, false, false, false, false, false, false, false, true, false, false, false, false] rfl; dsimp only [QC, Qz, Q9, Q8, Q7] at hC40
      refine Qo Ru rfl (Rd hC40 (by omega) (Y8 made k2)) rfl ?_
      rintro e w40 ⟨_, rfl, e0, rfl, hS40⟩; refine ⟨_, rfl, ?_⟩
      replace hS40 := hS40.join rfl; dsimp only [QU, QT, Q8, Q7] at hS40; clear hC40
      clear hS39
      refine XJ (.skip (by kernel_rfl) (.skip (by kernel_rfl) (.skip (by kernel_rfl) .nil))) ?_
      refine VC.nil (Qp (Qc ?_))
      refine Qh (L' := [(0, _), (8, _), (17, _), (109, _), (110, _), (111, _)]) (Wf rfl rfl rfl rfl rfl rfl) ?_
      refine Qa ?_
      refine QN rfl rfl (by omega) (by omega) rfl ?_
      refine Qb rfl rfl (Qf ?_)
      have hun2 := hun.step hj hndk
      exact QG (L1 := [(0, _), (8, _), (17, _), (109, _), (110, _), (111, intV ((j + 1 : Nat) : Int))]) (Wf rfl rfl rfl rfl rfl rfl) (k1 := (QL ks).length - (j + 1)) (by omega) ⟨j + 1, _, _, by omega, rfl, hS40.pick [2, 3, 4, 5, 6, 7, 8, 9, 10, 0, 11, 12, 13, 14] rfl, by omega, hun2⟩
     refine QZ (Qv (Qv (Q4 (Qc (Qd (Qa (Qb rfl rfl (Qe rfl rfl (Qe rfl rfl (Qf (Qc (Q0 (Qs (QE (Qs (Qs (QE (Qs ?_))))))))))))))))))
     refine Wo (.inr rfl) rfl rfl rfl ?_
     have hjj : j = (QL ks).length := by omega
     rw [hjj, List.take_length] at hun
     have huf := hun.fin (fun k hk => (Ju ks).mem_iff.2 ((hks.mem k).2 (by unfold VZ; cases q : made k with | none => exact absurd q hk | some s => simp)))
     have hS41 := Z6 ht (hS34.pick [0, 1, 2, 3, 4, 5, 6, 7, 8, 9, 10, 11, 12, 13] rfl)
     exact ⟨_, rfl, V2, .inr ⟨rfl, huf, hun.ab.trans hmd.ab, fun c q => by have := YC (hmd.al c q) hag; exact Nat.le_trans this (Nat.add_le_add_left (Vn hilt) c), fun c q => (hun.al _ (hmd.al c q)).mono (Nat.add_le_add_left (Vn hilt) c), ((Xx (m := n + 2 * c) (by omega) (hS41.pick [5, 1, 2, 3, 0, 4, 6, 9] rfl)).reorder [1, 2, 3, 4, 5, 0, 6, 7] rfl |> fun q => QY q)⟩⟩
    exact absurd (by decide) h31
   refine ⟨_, rfl, ?_⟩
   replace hS27 := hS27.join rfl; dsimp only [QU, QT, Q8, Q7] at hS27; clear hC27
   clear hS26
   have hmd2 := hmd.fresh hk hnd hl hneed hs1 hv1 hre
   refine XJ (.skip (by kernel_rfl) (.skip (by kernel_rfl) .nil)) ?_
   refine Qk rfl rfl rfl (fun _ => (Qr rfl)) ?_
   refine Qk rfl rfl rfl (fun _ => (QJ rfl rfl)) ?_
   refine Qk rfl rfl rfl (fun _ => (QJ rfl rfl)) ?_
   refine Qk rfl rfl rfl (fun _ => (Q6 rfl)) ?_
   refine Qk rfl rfl rfl (fun _ => (Q6 rfl)) ?_
   refine VC.nil (Qc ?_)
   refine Qh (L' := [(17, _), (16, _), (0, _), (1, _), (8, _), (21, _), (22, _), (23, _), (10, _)]) (G6 rfl rfl rfl rfl rfl rfl rfl rfl rfl) ?_
   refine Qd (Qd (Qa (Qb rfl rfl ?_)))
   refine Xh rfl rfl rfl ?_
   refine Qf (Qc ?_)
   refine Qx rfl (fun h42 => ?_) (fun h42 => ?_)
   ·exact absurd rfl h42
   refine Qy (Qc ?_)
   refine Qh (L' := [(16, _), (0, _), (1, _), (8, _), (21, _), (22, _), (23, _), (10, _)]) (WT rfl rfl rfl rfl rfl rfl rfl rfl) ?_
   have hS43 := Z7 hl (hS27.pick [2, 3, 0, 1, 4, 5, 6, 7, 8, 9, 10, 11, 12, 13, 14, 15] rfl)
   refine Qa (Qb rfl rfl ?_)
   refine XX rfl XB Xc (by exact hS43.blk 3 rfl) (by exact Nat.le_of_ble_eq_true rfl) rfl rfl ?_
   refine Qb rfl rfl ?_
   refine X1 (k := k) (v := intV s2) 13 hS43 keysKey Tryz.underlying81 rfl rfl rfl rfl ?_
   intro w44 hS44; dsimp only [List.set] at hS44; rw [BP] at hS44
   clear hS43
   refine Qf (Qp (Qc ?_))
   refine Qh (L' := [(0, _), (1, _), (8, _), (21, _), (22, _), (23, _)]) (Wf rfl rfl rfl rfl rfl rfl) ?_
   refine Qa ?_
   refine QN rfl rfl (by omega) (by omega) rfl ?_
   refine Qb rfl rfl (Qf ?_)
   exact QG (L1 := [(0, _), (1, _), (8, _), (21, _), (22, _), (23, intV ((i + 1 : Nat) : Int))]) (Wf rfl rfl rfl rfl rfl rfl) (k1 := order.length - (i + 1)) (by omega) ⟨i + 1, _, _, _, by omega, rfl, hS44.pick [4, 5, 0, 6, 7, 8, 9, 10, 11, 1, 12, 13, 14] rfl, by omega, hmd2⟩
  refine KM (sp := [5, 6, 15]) [0, 1, 2, 3, 4, 7, 8, 9, 10, 11, 12, 13, 14, 5, 15, 6, 16, 17] (by kernel_rfl) ?_
  refine Qk rfl rfl rfl (fun _ => (Qr rfl)) ?_
  refine Qk rfl rfl rfl (fun _ => (Qq rfl)) ?_
  refine Qk rfl rfl rfl (fun _ => (Qi rfl XK)) ?_
  refine QF rfl rfl rfl (Qm rfl Xe (by exact hS16.cell 2 rfl rfl)) ?_
  refine Qk rfl rfl rfl (fun _ => (Qr rfl)) ?_
  refine Qk rfl rfl rfl (fun _ => (Qr rfl)) ?_
  refine Qk rfl rfl rfl (fun _ => (Qq rfl)) ?_
  refine Qk rfl rfl rfl (fun _ => (Qi rfl XK)) ?_
  refine QF rfl rfl rfl (Qm rfl Xe (by exact hS16.cell 2 rfl rfl)) ?_
  refine Qk rfl rfl rfl (fun _ => (Qr rfl)) ?_
  refine Qk rfl rfl rfl (fun _ => (Qq rfl)) ?_
  refine Qk rfl rfl rfl (fun _ => (Qi rfl WE)) ?_
  refine QF rfl rfl rfl (Qm rfl QW (by exact hS16.cell 0 rfl rfl)) ?_
  refine Xn rfl rfl rfl rfl rfl rfl ?_
  have hC45 := hS16.split [11] [false, false, false, false, false, false, false, false, false, false, false, true, false, false, false] rfl; dsimp only [QC, Qz, Q9, Q8, Q7] at hC45
  refine Qo Jz rfl (YG hC45 (Xo L t.parent k)) rfl ?_
  rintro e w45 ⟨_, rfl, rfl, hS45⟩; refine ⟨_, rfl, ?_⟩
  replace hS45 := hS45.join rfl; dsimp only [QU, QT, Q8, Q7] at hS45; clear hC45
  clear hS16
  refine XJ (.cons (.inl ⟨rfl, (Qm rfl QW (by exact hS45.cell 1 rfl rfl))⟩) (.cons (.inl ⟨rfl, (Qm rfl Xe (by exact hS45.cell 3 rfl rfl))⟩) (.skip (by kernel_rfl) .nil))) ?_
  refine Xn rfl rfl rfl rfl rfl rfl ?_
  have hC46 := hS45.split [0] [true, false, false, false, false, false, false, false, false, false, false, false, false, false, false] rfl; dsimp only [QC, Qz, Q9, Q8, Q7] at hC46
  refine Qo Jz rfl (YG hC46 (x.own)) rfl ?_
  rintro e w46 ⟨_, rfl, rfl, hS46⟩; refine ⟨_, rfl, ?_⟩
  replace hS46 := hS46.join rfl; dsimp only [QU, QT, Q8, Q7] at hS46; clear hC46
  clear hS45
  refine XJ (.skip (by kernel_rfl) (.skip (by kernel_rfl) (.skip (by kernel_rfl) .nil))) ?_
  refine Xn rfl rfl rfl rfl rfl rfl ?_
  refine K8 hS46 rfl Tryz.underlying9 Tryz.underlying143 Tryz.underlying5 rfl ?_
  intro v47 w47 hS47
  clear hS46
  refine XJ (.cons (.inl ⟨rfl, (Qm rfl QW (by exact hS47.cell 2 rfl rfl))⟩) (.cons (.inl ⟨rfl, (Qm rfl Xe (by exact hS47.cell 4 rfl rfl))⟩) (.skip (by kernel_rfl) .nil))) ?_
  refine Qk rfl rfl rfl (fun _ => (Q6 rfl)) ?_
  refine Qk rfl rfl rfl (fun _ => (Q6 rfl)) ?_
  refine VC.nil (Qc ?_)
  refine Qh (L' := [(14, _), (13, _), (11, _), (10, _), (0, _), (1, _), (8, _), (21, _), (22, _), (23, _)]) (Yg rfl rfl rfl rfl rfl rfl rfl rfl rfl rfl) ?_
  refine Qd (Qd ?_)
  have hnl : (XM V1 (Xo L t.parent k)).length = 64 := by rw [hmd.pg _ (hI.aliveS _ _)]; exact hI.len (hI.aliveS _ _)
  have hao : XH V x.own := by have ha := hI.alive (.inr (id, k, true)); rw [X3 ht hl] at ha; exact ha
  have hol : (XM V1 x.own).length = 64 := by rw [hmd.pg _ hao]; exact hI.len hao
  obtain ⟨ab, cb, hvb, _⟩ := hS47.own_shape 0 rfl; rw [hnl] at hvb; obtain rfl := hvb
  refine Qa (Qb rfl rfl ?_)
  refine XU Tryz.underlying143 rfl rfl ?_
  refine Qb rfl rfl (Qf (Qc (Q1 ?_)))
  have hoz := hS47.pick [0, 1, 2, 3, 4, 5, 6, 7, 8, 9, 10, 11, 12, 13, 14, 15] rfl
  refine Xw (fun K0 E0 W0 => ∃ (q : Nat) (r : Bs), K0 = 64 - q ∧ E0 = [(0, ptrV b 0), (1, ptrV t.ad 0), (8, .map (some mm)), (21, .slice ar order.length cr), (22, intV (order.length : Int)), (23, intV (i : Int)), (10, ptrV kb 0), (11, ptrV x.ad 0), (13, .slice ab 64 cb), (14, strV (XM V1 x.own)), (77, intV 64), (78, intV (q : Int))] ∧ Sat W0 [rowT byC (.slice ab 64 cb) r, QO x.ad [intV x.base, intV x.own, XG x.rd, XG x.wr], Zh Ka (Xj t.lv k none), QO kb [strV k.1, intV k.2], QO t.ad [intV t.parent, .map (some t.ml), .map (some t.md)], QH Xu t.ml (XV LfD.ad t.lv), QH WM t.md (Jc t.dr), Zh UW (Xj L.tr id none), QO b [ptrV L.sp 0, .map (some L.mp), .map (some L.mt), intV L.cur, .map (some L.ms)], QH Xu L.mp (Zo L.pres), QH Xd L.mt (XV TrD.ad L.tr), QH Xd L.ms (Jc L.sh), Zv L.sp (n + i) Fr V1, rowT kC (.slice ar order.length cr) order, QH Xu mm (VZ made), F] ∧ (q ≤ 64) ∧ (MgI (XM V1 (Xo L t.parent k)) (XM V1 x.own) r x.wr q)) (L0 := [(0, _), (1, _), (8, _), (21, _), (22, _), (23, _), (10, _), (11, _), (13, _), (14, _), (77, _), (78, _)]) (64) (Kb rfl rfl rfl rfl rfl rfl rfl rfl rfl rfl rfl rfl) ⟨0, _, rfl, rfl, hoz.pick [0, 2, 3, 9, 10, 11, 12, 7, 4, 5, 6, 8, 1, 13, 14, 15] rfl, by omega, MgI.start hnl⟩ ?_
  rintro _ _ w48 ⟨q, r, rfl, rfl, hS48, hq, hmg⟩
  refine Qd (Qa ?_)
  refine Xt rfl rfl rfl ?_
  refine Qf (Qc (Qd ?_))
  refine Qx rfl (fun h49 => ?_) (fun h49 => ?_)
  ·refine Qy (Qc (Qd (Q1 (Qd (Qa (Qb rfl rfl (Qe rfl rfl (Qf (Qc (Qd (Qa (Qb rfl rfl (Qj rfl rfl ?_)))))))))))))
   refine Qg rfl Wn rfl ?_
   refine Qu rfl JB (by exact hS48.cell 1 rfl rfl) rfl ?_
   refine Qb rfl rfl ?_
   refine J5 q rfl rfl (by omega) rfl ?_
   refine WL (b := 1#64) rfl rfl rfl ?_
   refine X2 rfl rfl rfl ?_
   refine Qf (Qc ?_)
   refine Qh (L' := [(88, _), (15, _), (0, _), (1, _), (8, _), (21, _), (22, _), (23, _), (10, _), (11, _), (13, _), (14, _), (77, _), (78, _)]) (zb14 rfl rfl rfl rfl rfl rfl rfl rfl rfl rfl rfl rfl rfl rfl) ?_
   refine Qx rfl (fun h50 => ?_) (fun h50 => ?_)
   ·have hwb := (VP (by omega)).1 h50
    obtain ⟨co, hco⟩ : ∃ co, (XM V1 x.own)[q]? = some co := ⟨_, List.getElem?_eq_getElem (by omega)⟩
    obtain ⟨cr0, hcr0⟩ : ∃ co, r[q]? = some co := ⟨_, List.getElem?_eq_getElem (by rw [hmg.1]; omega)⟩
    refine Qa (Qb rfl rfl (Qb rfl rfl (Qb rfl rfl (Qb rfl rfl ?_))))
    refine ZW q Tryz.underlying9 rfl rfl rfl hco rfl ?_
    refine Xp byC 0 q hS48 rfl rfl rfl (by rfl) hcr0 Sw rfl ?_
    intro bx51 capx51 hvx51
    refine ZJ 0 q co hS48 rfl hvx51 rfl rfl D8 (by rfl) (by exact (List.getElem?_eq_some_iff.1 hcr0).1) ?_
    intro w52 hS53; dsimp only [List.set] at hS53
    clear hS48
    refine Qf (Qp (Qc ?_))
    refine Qh (L' := [(0, _), (1, _), (8, _), (21, _), (22, _), (23, _), (10, _), (11, _), (13, _), (14, _), (77, _), (78, _)]) (Kb rfl rfl rfl rfl rfl rfl rfl rfl rfl rfl rfl rfl) ?_
    refine Qa ?_
    refine QN rfl rfl (by omega) (by omega) rfl ?_
    refine Qb rfl rfl (Qf ?_)
    exact QG (L1 := [(0, _), (1, _), (8, _), (21, _), (22, _), (23, _), (10, _), (11, _), (13, _), (14, _), (77, _), (78, intV ((q + 1 : Nat) : Int))]) (Kb rfl rfl rfl rfl rfl rfl rfl rfl rfl rfl rfl rfl) (k1 := 64 - (q + 1)) (by omega) ⟨q + 1, _, rfl, rfl, hS53.pick [0, 1, 2, 3, 4, 5, 6, 7, 8, 9, 10, 11, 12, 13, 14, 15] rfl, by omega, hmg.T (by omega) hwb hco⟩
   have hwb : x.wr.getLsbD q = false := by have := (not_congr (VP (by omega))).1 h50; simpa using this
   refine Qy (Qp (Qc (Qa ?_)))
   refine QN rfl rfl (by omega) (by omega) rfl ?_
   refine Qb rfl rfl (Qf ?_)
   exact QG (L1 := [(0, _), (1, _), (8, _), (21, _), (22, _), (23, _), (10, _), (11, _), (13, _), (14, _), (77, _), (78, intV ((q + 1 : Nat) : Int))]) (Kb rfl rfl rfl rfl rfl rfl rfl rfl rfl rfl rfl rfl) (k1 := 64 - (q + 1)) (by omega) ⟨q + 1, _, rfl, rfl, hS48.pick [0, 1, 2, 3, 4, 5, 6, 7, 8, 9, 10, 11, 12, 13, 14, 15] rfl, by omega, hmg.F hwb⟩
  refine QZ (Qv (Qv (Q4 (Qc ?_))))
  refine Qh (L' := [(0, _), (1, _), (8, _), (21, _), (22, _), (23, _), (10, _), (13, _)]) (WT rfl rfl rfl rfl rfl rfl rfl rfl) ?_
  refine Qd ?_
  have hS54 := hS48.drew
  refine QK [0, 1, 2, 3, 4, 5, 6, 7, 8, 9, 10, 11] [6] ZT (by kernel_rfl) ?_
  refine Qk rfl rfl rfl (fun _ => (Qr rfl)) ?_
  refine Qk rfl rfl rfl (fun _ => (Qq rfl)) ?_
  refine Qk rfl rfl rfl (fun _ => (Qi rfl XK)) ?_
  refine QF rfl rfl rfl (Qm rfl Xe (by exact hS54.cell 8 rfl rfl)) ?_
  refine Qk rfl rfl rfl (fun _ => (Qr rfl)) ?_
  refine QF rfl rfl rfl (Bx 0 hS54 rfl rfl Tryz.underlying143 Tryz.underlying5 Tryz.underlying9) ?_
  refine Xn rfl rfl rfl rfl rfl rfl ?_
  have hr64 : q = 64 := by omega
  subst hr64
  have hre := hmg.fin hnl hol
  rw [hmd.pg _ (hI.aliveS _ _), hmd.pg x.own hao] at hre
  have hC55 := hS54.split [12] [false, false, false, false, false, false, false, false, false, false, false, false, true, false, false, false] rfl; dsimp only [QC, Qz, Q9, Q8, Q7] at hC55
  refine Qo Cx rfl (Pk hC55 (by omega) (by rw [hre]; exact Ul)) rfl ?_
  rintro e w55 ⟨_, rfl, (⟨hz0, rfl, hS55⟩ | ⟨hz0, rfl, hag, hS55⟩ | ⟨s2, hz0, rfl, hs1, hv1, hS55⟩)⟩
  ·refine ⟨_, rfl, ?_⟩
   replace hS55 := hS55.join rfl; dsimp only [QU, QT, Q8, Q7] at hS55; clear hC55
   clear hS54
   have hmd2 := hmd.zero hk hnd hl hneed hz0 hre
   refine XJ (.skip (by kernel_rfl) (.skip (by kernel_rfl) .nil)) ?_
   refine Qk rfl rfl rfl (fun _ => (Qr rfl)) ?_
   refine Qk rfl rfl rfl (fun _ => (QJ rfl rfl)) ?_
   refine Qk rfl rfl rfl (fun _ => (QJ rfl rfl)) ?_
   refine Qk rfl rfl rfl (fun _ => (Q6 rfl)) ?_
   refine Qk rfl rfl rfl (fun _ => (Q6 rfl)) ?_
   refine VC.nil (Qc ?_)
   refine Qh (L' := [(17, _), (16, _), (0, _), (1, _), (8, _), (21, _), (22, _), (23, _), (10, _)]) (G6 rfl rfl rfl rfl rfl rfl rfl rfl rfl) ?_
   refine Qd (Qd (Qa (Qb rfl rfl ?_)))
   refine Xh rfl rfl rfl ?_
   refine Qf (Qc ?_)
   refine Qx rfl (fun h56 => ?_) (fun h56 => ?_)
   ·exact absurd rfl h56
   refine Qy (Qc ?_)
   refine Qh (L' := [(16, _), (0, _), (1, _), (8, _), (21, _), (22, _), (23, _), (10, _)]) (WT rfl rfl rfl rfl rfl rfl rfl rfl) ?_
   have hS57 := Z7 hl (hS55.pick [2, 3, 0, 1, 4, 5, 6, 7, 8, 9, 10, 11, 12, 13, 14, 15] rfl)
   refine Qa (Qb rfl rfl ?_)
   refine XX rfl XB Xc (by exact hS57.blk 3 rfl) (by exact Nat.le_of_ble_eq_true rfl) rfl rfl ?_
   refine Qb rfl rfl ?_
   refine X1 (k := k) (v := intV 0) 13 hS57 keysKey Tryz.underlying81 rfl rfl rfl rfl ?_
   intro w58 hS58; dsimp only [List.set] at hS58; rw [BP] at hS58
   clear hS57
   refine Qf (Qp (Qc ?_))
   refine Qh (L' := [(0, _), (1, _), (8, _), (21, _), (22, _), (23, _)]) (Wf rfl rfl rfl rfl rfl rfl) ?_
   refine Qa ?_
   refine QN rfl rfl (by omega) (by omega) rfl ?_
   refine Qb rfl rfl (Qf ?_)
   exact QG (L1 := [(0, _), (1, _), (8, _), (21, _), (22, _), (23, intV ((i + 1 : Nat) : Int))]) (Wf rfl rfl rfl rfl rfl rfl) (k1 := order.length - (i + 1)) (by omega) ⟨i + 1, _, _, _, by omega, rfl, hS58.pick [4, 5, 0, 6, 7, 8, 9, 10, 11, 1, 12, 13, 14] rfl, by omega, hmd2⟩
  ·refine ⟨_, rfl, ?_⟩
   replace hS55 := hS55.join rfl; dsimp only [QU, QT, Q8, Q7] at hS55; clear hC55
   clear hS54
   refine XJ (.skip (by kernel_rfl) (.skip (by kernel_rfl) .nil)) ?_
   refine Qk rfl rfl rfl (fun _ => (Qr rfl)) ?_
   refine Qk rfl rfl rfl (fun _ => (QJ rfl rfl)) ?_
   refine Qk rfl rfl rfl (fun _ => (QJ rfl rfl)) ?_
   refine Qk rfl rfl rfl (fun _ => (Q6 rfl)) ?_
   refine Qk rfl rfl rfl (fun _ => (Q6 rfl)) ?_
   refine VC.nil (Qc ?_)
   refine Qh (L' := [(17, _), (16, _), (0, _), (1, _), (8, _), (21, _), (22, _), (23, _), (10, _)]) (G6 rfl rfl rfl rfl rfl rfl rfl rfl rfl) ?_
   refine Qd (Qd (Qa (Qb rfl rfl ?_)))
   refine Xh rfl rfl rfl ?_
   refine Qf (Qc ?_)
   refine Qx rfl (fun h59 => ?_) (fun h59 => ?_)
   ·refine Qd (Qd (Qa (Qb rfl rfl ?_)))
    have hS60 := Z7 hl (hS55.pick [2, 3, 0, 1, 4, 5, 6, 7, 8, 9, 10, 11, 12, 13, 14, 15] rfl)
    have hcm : ∀ {ks : List KD}, Came (VZ made) ks → ks.length ≤ c := fun h => Nat.le_trans (hmd.came h) (by rw [List.length_take]; omega)
    have hC61 := hS60.split [13] [false, false, false, false, false, false, false, false, false, false, false, false, false, true, false] rfl; dsimp only [QC, Qz, Q9, Q8, Q7] at hC61
    refine Qo T9 rfl (RU hC61 (fun ks h => by have := hcm h; omega)) rfl ?_
    rintro e w61 ⟨_, rfl, ks, hks, hS61⟩; refine ⟨_, rfl, ?_⟩
    replace hS61 := hS61.join rfl; dsimp only [QU, QT, Q8, Q7] at hS61; clear hC61
    clear hS60
    obtain ⟨au, cu, hvu, _⟩ := hS61.own_shape 0 rfl; obtain rfl := hvu
    have hndk := Y6 hks.nodup
    have hlk : (QL ks).length ≤ c := by rw [ZZ]; exact hcm (Came.of_all hks)
    refine XU Tryz.underlying98 rfl rfl ?_
    refine Qb rfl rfl (Qf (Qc ?_))
    refine Qh (L' := [(111, _), (110, _), (109, _), (17, _), (16, _), (0, _), (1, _), (8, _), (21, _), (22, _), (23, _), (10, _)]) (Kb rfl rfl rfl rfl rfl rfl rfl rfl rfl rfl rfl rfl) ?_
    refine Q1 ?_
    refine Xw (fun K0 E0 W0 => ∃ (j : Nat) (V2 : VS) (ex2 : Int → Int), K0 = (QL ks).length - j ∧ E0 = [(0, ptrV b 0), (8, .map (some mm)), (17, intV 6), (109, .slice au (QL ks).length cu), (110, intV ((QL ks).length : Int)), (111, intV (j : Int))] ∧ Sat W0 [QO t.ad [intV t.parent, .map (some t.ml), .map (some t.md)], QH Xu t.ml (XV LfD.ad t.lv), Zh Ka t.lv, QH WM t.md (Jc t.dr), Zh UW (Xj L.tr id none), QO b [ptrV L.sp 0, .map (some L.mp), .map (some L.mt), intV L.cur, .map (some L.ms)], QH Xu L.mp (Zo L.pres), QH Xd L.mt (XV TrD.ad L.tr), QH Xd L.ms (Jc L.sh), Zv L.sp (n + i + 1 + j) Fr V2, rowT kC (.slice ar order.length cr) order, QH Xu mm (VZ made), rowT kC (.slice au (QL ks).length cu) (QL ks), F] ∧ (j ≤ (QL ks).length) ∧ (UnI m L V1 V2 made ((QL ks).take j) ex2)) (L0 := [(0, _), (8, _), (17, _), (109, _), (110, _), (111, _)]) ((QL ks).length) (Wf rfl rfl rfl rfl rfl rfl) ⟨0, V1, ex, by omega, rfl, hS61.pick [6, 7, 2, 8, 9, 10, 11, 12, 13, 3, 14, 1, 0, 15] rfl, by omega, hmd.un⟩ ?_
    rintro _ _ w62 ⟨j, V2, ex2, rfl, rfl, hS62, hjl, hun⟩
    refine Qd (Qa ?_)
    refine Xt rfl rfl rfl ?_
    refine Qf (Qc (Qd ?_))
    refine Qx rfl (fun h63 => ?_) (fun h63 => ?_)
    ·obtain ⟨k2, hj⟩ : ∃ k, (QL ks)[j]? = some k := ⟨_, List.getElem?_eq_getElem (by omega)⟩
     refine Qy (Qc (Qd (Q1 (Qd (Qa ?_)))))
     refine Xp kC 12 j hS62 rfl rfl rfl (by rfl) hj KJ rfl ?_
     intro bx64 capx64 hvx64
     refine ZA 12 j hS62 rfl hvx64 rfl hj XB Xc rfl rfl ?_
     refine Xl hS62 Wp rfl rfl ?_
     intro kb wk65 hk65
     clear hS62
     refine Xa hk65 rfl rfl Xc rfl (by rfl) (i := 0) rfl (by decide) ?_
     intro wk66 hk66; dsimp only [List.set] at hk66
     clear hk65
     replace hk66 := XR (k := k2) hk66
     refine Qf (Qc ?_)
     have hS67 := hk66.drew
     refine QK [0, 1, 2, 3, 4, 5, 6, 7] [7] ZT (by kernel_rfl) ?_
     refine Qk rfl rfl rfl (fun _ => (Qr rfl)) ?_
     refine Qk rfl rfl rfl (fun _ => (Qq rfl)) ?_
     refine Qk rfl rfl rfl (fun _ => (Qi rfl XK)) ?_
     refine QF rfl rfl rfl (Qm rfl Xe (by exact hS67.cell 6 rfl rfl)) ?_
     refine Qk rfl rfl rfl (fun _ => (Qr rfl)) ?_
     refine QF rfl rfl rfl (X9 rfl XB Xc (by exact hS67.blk 0 rfl) (by exact Nat.le_of_ble_eq_true rfl) rfl) ?_
     refine QF rfl rfl rfl (Xz (k := k2) 12 hS67 keysKey Tryz.underlying81 rfl rfl rfl Y1 (u := intV (Y8 made k2)) TV) ?_
     refine Xn rfl rfl rfl rfl rfl rfl ?_
     have hC68 := hS67.split [10] [false, false, false, false, false, false, false, false, false, false, true, false, false, false, false] rfl; dsimp only [QC, Qz, Q9, Q8, Q7] at hC68
     refine Qo Ru rfl (Rd hC68 (by omega) (Y8 made k2)) rfl ?_
     rintro e w68 ⟨_, rfl, e0, rfl, hS68⟩; refine ⟨_, rfl, ?_⟩
     replace hS68 := hS68.join rfl; dsimp only [QU, QT, Q8, Q7] at hS68; clear hC68
     clear hS67
     refine XJ (.skip (by kernel_rfl) (.skip (by kernel_rfl) (.skip (by kernel_rfl) .nil))) ?_
     refine VC.nil (Qp (Qc ?_))
     refine Qh (L' := [(0, _), (8, _), (17, _), (109, _), (110, _), (111, _)]) (Wf rfl rfl rfl rfl rfl rfl) ?_
     refine Qa ?_
     refine QN rfl rfl (by omega) (by omega) rfl ?_
     refine Qb rfl rfl (Qf ?_)
     have hun2 := hun.step hj hndk
     exact QG (L1 := [(0, _), (8, _), (17, _), (109, _), (110, _), (111, intV ((j + 1 : Nat) : Int))]) (Wf rfl rfl rfl rfl rfl rfl) (k1 := (QL ks).length - (j + 1)) (by omega) ⟨j + 1, _, _, by omega, rfl, hS68.pick [2, 3, 4, 5, 6, 7, 8, 9, 10, 0, 11, 12, 13, 14] rfl, by omega, hun2⟩
    refine QZ (Qv (Qv (Q4 (Qc (Qd (Qa (Qb rfl rfl (Qe rfl rfl (Qe rfl rfl (Qf (Qc (Q0 (Qs (QE (Qs (Qs (QE (Qs ?_))))))))))))))))))
    refine Wo (.inr rfl) rfl rfl rfl ?_
    have hjj : j = (QL ks).length := by omega
    rw [hjj, List.take_length] at hun
    have huf := hun.fin (fun k hk => (Ju ks).mem_iff.2 ((hks.mem k).2 (by unfold VZ; cases q : made k with | none => exact absurd q hk | some s => simp)))
    have hS69 := Z6 ht (hS62.pick [0, 1, 2, 3, 4, 5, 6, 7, 8, 9, 10, 11, 12, 13] rfl)
    exact ⟨_, rfl, V2, .inr ⟨rfl, huf, hun.ab.trans hmd.ab, fun c q => by have := YC (hmd.al c q) hag; exact Nat.le_trans this (Nat.add_le_add_left (Vn hilt) c), fun c q => (hun.al _ (hmd.al c q)).mono (Nat.add_le_add_left (Vn hilt) c), ((Xx (m := n + 2 * c) (by omega) (hS69.pick [5, 1, 2, 3, 0, 4, 6, 9] rfl)).reorder [1, 2, 3, 4, 5, 0, 6, 7] rfl |> fun q => QY q)⟩⟩
   exact absurd (by decide) h59
  refine ⟨_, rfl, ?_⟩
  replace hS55 := hS55.join rfl; dsimp only [QU, QT, Q8, Q7] at hS55; clear hC55
  clear hS54
  have hmd2 := hmd.fresh hk hnd hl hneed hs1 hv1 hre
  refine XJ (.skip (by kernel_rfl) (.skip (by kernel_rfl) .nil)) ?_
  refine Qk rfl rfl rfl (fun _ => (Qr rfl)) ?_
  refine Qk rfl rfl rfl (fun _ => (QJ rfl rfl)) ?_
  refine Qk rfl rfl rfl (fun _ => (QJ rfl rfl)) ?_
  refine Qk rfl rfl rfl (fun _ => (Q6 rfl)) ?_
  refine Qk rfl rfl rfl (fun _ => (Q6 rfl)) ?_
  refine VC.nil (Qc ?_)
  refine Qh (L' := [(17, _), (16, _), (0, _), (1, _), (8, _), (21, _), (22, _), (23, _), (10, _)]) (G6 rfl rfl rfl rfl rfl rfl rfl rfl rfl) ?_
  refine Qd (Qd (Qa (Qb rfl rfl ?_)))
  refine Xh rfl rfl rfl ?_
  refine Qf (Qc ?_)
  refine Qx rfl (fun h70 => ?_) (fun h70 => ?_)
  ·exact absurd rfl h70
  refine Qy (Qc ?_)
  refine Qh (L' := [(16, _), (0, _), (1, _), (8, _), (21, _), (22, _), (23, _), (10, _)]) (WT rfl rfl rfl rfl rfl rfl rfl rfl) ?_
  have hS71 := Z7 hl (hS55.pick [2, 3, 0, 1, 4, 5, 6, 7, 8, 9, 10, 11, 12, 13, 14, 15] rfl)
  refine Qa (Qb rfl rfl ?_)
  refine XX rfl XB Xc (by exact hS71.blk 3 rfl) (by exact Nat.le_of_ble_eq_true rfl) rfl rfl ?_
  refine Qb rfl rfl ?_
  refine X1 (k := k) (v := intV s2) 13 hS71 keysKey Tryz.underlying81 rfl rfl rfl rfl ?_
  intro w72 hS72; dsimp only [List.set] at hS72; rw [BP] at hS72
  clear hS71
  refine Qf (Qp (Qc ?_))
  refine Qh (L' := [(0, _), (1, _), (8, _), (21, _), (22, _), (23, _)]) (Wf rfl rfl rfl rfl rfl rfl) ?_
  refine Qa ?_
  refine QN rfl rfl (by omega) (by omega) rfl ?_
  refine Qb rfl rfl (Qf ?_)
  exact QG (L1 := [(0, _), (1, _), (8, _), (21, _), (22, _), (23, intV ((i + 1 : Nat) : Int))]) (Wf rfl rfl rfl rfl rfl rfl) (k1 := order.length - (i + 1)) (by omega) ⟨i + 1, _, _, _, by omega, rfl, hS72.pick [4, 5, 0, 6, 7, 8, 9, 10, 11, 1, 12, 13, 14] rfl, by omega, hmd2⟩
 refine QZ (Qv (Qv (Q4 (Qc (Qd (Qa (Qb rfl rfl (Qe rfl rfl (Qe rfl rfl (Qf (Qc (Q0 ?_))))))))))))
 refine Wo (.inr rfl) rfl rfl rfl ?_
 have hil : i = order.length := by omega
 rw [hil, List.take_length] at hmd
 have hS73 := Z6 ht (hS2.pick [0, 1, 2, 3, 4, 5, 6, 7, 8, 9, 10, 11, 12] rfl)
 exact ⟨_, rfl, V1, .inl ⟨mm, made, ex, rfl, hmd, ((Xx (m := n + 2 * c) (by omega) (hS73.pick [5, 1, 2, 3, 0, 4, 6, 7, 8] rfl)).reorder [1, 2, 3, 4, 5, 0, 6, 7, 8] rfl |> fun q => QY q)⟩⟩
end Go.Proofs.YtkcjfoaejijdoaaGreatDoor
