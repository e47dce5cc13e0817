/- leaves: sees with a hole -/
import Derived.Test.YtkcjfoaejijdoaaGreatDoorLv9
import Derived.Shelf.Spec.TrailingZeros
namespace Go.Proofs.YtkcjfoaejijdoaaGreatDoor
open Go.RowKit M
set_option linter.unusedVariables false
theorem M3 (x : BitVec 64) (h : x ≠ 0#64) : Lib.ctz 64 x.toNat < 64 ∧ ∀ j, j < 64 → ((x &&& (x - 1#64)).getLsbD j = (x.getLsbD j && decide (j ≠ Lib.ctz 64 x.toNat))) ∧ x.getLsbD (Lib.ctz 64 x.toNat) = true := by
  have h0 : x.toNat ≠ 0 := fun q => h (BitVec.eq_of_toNat_eq (by simpa using q))
  obtain ⟨m, hm, hk⟩ := Lib.ctzFrom_spec 64 x.toNat (by omega) x.isLt
  have e : Lib.ctz 64 x.toNat = Lib.ctzFrom 64 x.toNat := by simp [Lib.ctz, h0]
  rw [← e] at hm hk
  generalize Lib.ctz 64 x.toNat = k at hm hk
  have hx1 : (x - 1#64).toNat = x.toNat - 1 := by
    rw [BitVec.toNat_sub]; have := x.isLt; simp; omega
  have hp : 0 < 2 ^ k := Nat.two_pow_pos k
  have hbit : ∀ j, x.getLsbD j = x.toNat.testBit j := fun j => by rw [← BitVec.testBit_toNat]
  have hbit1 : ∀ j, (x - 1#64).getLsbD j = (x.toNat - 1).testBit j := fun j => by rw [← BitVec.testBit_toNat, hx1]
  have q1 : x.toNat = 2 ^ k * (2 * m) + 2 ^ k := by rw [hm]; rw [Nat.mul_add]; simp
  have q2 : x.toNat - 1 = 2 ^ k * (2 * m) + (2 ^ k - 1) := by omega
  refine ⟨hk, fun j hj => ⟨?_, ?_⟩⟩
  · rw [BitVec.getLsbD_and, hbit, hbit1]
    rcases Nat.lt_trichotomy j k with hjk | rfl | hjk
    · have a : x.toNat.testBit j = false := by
        rw [hm, Nat.testBit_two_pow_mul]; simp; omega
      simp [a]
    · have b : (x.toNat - 1).testBit j = false := by
        rw [q2, Nat.testBit_two_pow_mul_add _ (by omega)]; simp
      simp [b]
    · have b : (x.toNat - 1).testBit j = x.toNat.testBit j := by
        rw [q2, hm, Nat.testBit_two_pow_mul_add _ (by omega), Nat.testBit_two_pow_mul]
        have h3 : ¬ j < k := by omega
        have h4 : j ≥ k := by omega
        simp only [h3, if_false, h4, decide_true, Bool.true_and]
        obtain ⟨i, hi⟩ : ∃ i, j - k = i + 1 := ⟨j - k - 1, by omega⟩
        rw [hi, Nat.testBit_succ, Nat.testBit_succ]
        congr 1; omega
      rw [b]
      have : j ≠ k := by omega
      simp [this]
  · rw [hbit, hm, Nat.testBit_two_pow_mul]; simp
/-- how a chain of parents goes on without a trial -/
theorem RankI.av {T : Int → Option TrD} {m : Nat} (h : RankI T m) (i0 : Int) : ∃ Av : Int → Prop, (∀ t, T i0 = some t → Av t.parent) ∧ ∀ i u, Av i → T i = some u → i ≠ i0 ∧ Av u.parent := by
  obtain ⟨h0, r, a, b⟩ := h
  refine ⟨fun i => T i ≠ none → r i < r i0, fun t ht hp => ?_, fun i u hi hu => ?_⟩
  · rcases b i0 t ht with e | e
    · rw [e] at hp; exact absurd h0 hp
    · exact e.2
  · have h1 : r i < r i0 := hi (by rw [hu]; simp)
    refine ⟨fun e => by rw [e] at h1; omega, fun hp => ?_⟩
    rcases b i u hu with e | e
    · rw [e] at hp; exact absurd h0 hp
    · omega
def GT (w : World) : Prop := TabAt 0 Lib.deBruijn64tab w
/-- what a trial has read of a page is as it was -/
def VK (L : LvD) (V : VS) (t : TrD) (k : KD) (x : LfD) : Prop := ∀ j, j < 64 → x.rd.getLsbD j = true → (XM V x.base)[j]? = (XM V (Xo L t.parent k))[j]?
theorem TQ {κ α : Type} {ad : α → Nat} {f : κ → Option α} {k : κ} {v : Value} (h : XV ad f k = some v) : ∃ x, f k = some x ∧ v = ptrV (ad x) 0 := by
  unfold XV at h
  cases q : f k with
  | none => rw [q] at h; cases h
  | some x => rw [q] at h; exact ⟨x, rfl, by simpa using h.symm⟩
theorem tz_sp (x : BitVec 64) (w : World) (hT : GT w) : Calls Tryz.prog 56 #[XG x] w (Ret fun v w' => v = intV (Lib.ctz 64 x.toNat) ∧ w' = w) :=
  (Any7.bits_TrailingZeros64 Tryz.tz64 x.toNat x.isLt w (fun _ => hT)).mono fun e w' ⟨h1, h2⟩ => ⟨_, h1, rfl, h2⟩
set_option maxRecDepth 100000 in
set_option maxHeartbeats 800000000 in
theorem DK {w : World} {b : Nat} {L : LvD} {i0 : Int} {F : Th} (hS : Sat w [QO b [ptrV L.sp 0, .map (some L.mp), .map (some L.mt), intV L.cur, .map (some L.ms)], QH Xu L.mp (Zo L.pres), QH Xd L.mt (XV TrD.ad L.tr), Zh UW (Xj L.tr i0 none), QH Xd L.ms (Jc L.sh), F]) (hE : ∀ i, JI L.tr Z9 i) {Av : Int → Prop} (hAv : ∀ i u, Av i → L.tr i = some u → i ≠ i0 ∧ Av u.parent) (id : Int) (hA0 : Av id) (k : KD) :
    Calls Tryz.prog 48 #[ptrV b 0, intV id, Xu k] w (Ret fun v w' => v = intV (Xo L id k) ∧ Sat w' [QO b [ptrV L.sp 0, .map (some L.mp), .map (some L.mt), intV L.cur, .map (some L.ms)], QH Xu L.mp (Zo L.pres), QH Xd L.mt (XV TrD.ad L.tr), Zh UW (Xj L.tr i0 none), QH Xd L.ms (Jc L.sh), F]) := by
 refine Qt Tryz.func48 rfl Tryz.ntmps48 rfl ?_
 refine Qd (Qa ?_)
 refine Zf hS rfl rfl rfl ?_
 intro kb w1 hS1
 change Sat w1 [QO kb [strV k.1, intV k.2], _, _, _, _, _, _] at hS1
 refine Qe rfl rfl (Qf (Qc (Qd (Q1 ?_))))
 refine Xw (fun K0 E0 W0 => ∃ (m : Nat) (i : Int), K0 = m + 1 ∧ E0 = [(0, ptrV b 0), (1, intV i), (5, ptrV kb 0)] ∧ Sat W0 [QO kb [strV k.1, intV k.2], QO b [ptrV L.sp 0, .map (some L.mp), .map (some L.mt), intV L.cur, .map (some L.ms)], QH Xu L.mp (Zo L.pres), QH Xd L.mt (XV TrD.ad L.tr), Zh UW (Xj L.tr i0 none), QH Xd L.ms (Jc L.sh), F] ∧ (Xo L id k = WO L (m + 1) i k) ∧ (JI L.tr m i) ∧ (m ≤ Z9) ∧ (Av i)) (L0 := [(0, _), (1, _), (5, _)]) (Z9 + 1) (Y2 rfl rfl rfl) ⟨Z9, id, rfl, rfl, hS1, rfl, hE id, Nat.le_refl _, hA0⟩ ?_
 rintro _ _ w2 ⟨m, i, rfl, rfl, hS2, hse, hen, hm, hav⟩
 refine Qd (Qd (Qa (Qb rfl rfl ?_)))
 refine Xh rfl rfl rfl ?_
 refine Qf (Qc ?_)
 refine Qx rfl (fun h3 => ?_) (fun h3 => ?_)
 ·have hid0 : i ≠ 0 := h3
  refine Qy (Qc (Q1 (Qd (Qa (Qb rfl rfl (Qj rfl rfl ?_))))))
  refine Qg rfl Wz rfl ?_
  refine Qu rfl YD (by exact hS2.cell 1 rfl rfl) rfl ?_
  refine Qb rfl rfl ?_
  refine Ze (k := i) 3 hS2 keysInt Tryz.underlying82 rfl rfl rfl H1 (u := (ptO TrD.ad (L.tr i))) (Ug _) rfl ?_
  refine Qe rfl rfl (Qf (Qc ?_))
  refine Qh (L' := [(7, _), (0, _), (1, _), (5, _)]) (Jr rfl rfl rfl rfl) ?_
  refine Qd (Qd (Qa (Qb rfl rfl ?_)))
  rcases hq_T : L.tr i with _ | t
  ·refine Je Tryz.underlying94 rfl rfl rfl ?_
   refine Qf (Qc ?_)
   refine XP rfl ?_
   refine Qd (Qa (Qe rfl rfl (Qf (Qc (Q0 (Qs (QE (Qs (QE (Qs ?_))))))))))
   refine QV (.inr rfl) rfl rfl ?_
   exact ⟨_, rfl, by rw [hse, Bd hid0 hq_T], hS2.pick [1, 2, 3, 4, 5, 6] rfl⟩
  refine ZX Tryz.underlying94 rfl rfl rfl ?_
  have hqH : Xj L.tr i0 none i = some t := by rw [QI (hAv _ _ hav hq_T).1]; exact hq_T
  have hS4 := Z5 (hS2.pick [4, 0, 1, 2, 3, 5, 6] rfl) hqH
  refine Qf (Qc ?_)
  refine Xm rfl ?_
  refine Qy (Qc (Qd (Qd ?_)))
  have hS5 := hS4.drew
  refine QK [0, 1, 2, 3, 4, 5, 6] [] ZT (by kernel_rfl) ?_
  refine Qk rfl rfl rfl (fun _ => (Qr rfl)) ?_
  refine Qk rfl rfl rfl (fun _ => (Qq rfl)) ?_
  refine Qk rfl rfl rfl (fun _ => (Qi rfl ZN)) ?_
  refine QF rfl rfl rfl (Qm rfl Jq (by exact hS5.cell 0 rfl rfl)) ?_
  refine QF rfl rfl rfl (X9 rfl XB Xc (by exact hS5.blk 5 rfl) (by exact Nat.le_of_ble_eq_true rfl) rfl) ?_
  refine QF rfl rfl rfl (Xz (k := k) 1 hS5 keysKey Tryz.underlying90 rfl rfl rfl Hz (u := (ptO LfD.ad (t.lv k))) (Ug _)) ?_
  refine Qk rfl rfl rfl (fun _ => (Q6 rfl)) ?_
  refine VC.nil (Qc ?_)
  refine Qh (L' := [(8, _), (7, _), (0, _), (1, _), (5, _)]) (ZH rfl rfl rfl rfl rfl) ?_
  refine Qd (Qa (Qb rfl rfl ?_))
  rcases hq_X : t.lv k with _ | x
  ·refine Jd Tryz.underlying89 rfl rfl rfl ?_
   refine Qf (Qc ?_)
   refine Xm rfl ?_
   refine Qy (Qc (Qd (Qd ?_)))
   have hS7 := hS5.drew
   refine QK [0, 1, 2, 3, 4, 5, 6] [] ZT (by kernel_rfl) ?_
   refine Qk rfl rfl rfl (fun _ => (Qr rfl)) ?_
   refine Qk rfl rfl rfl (fun _ => (Qq rfl)) ?_
   refine Qk rfl rfl rfl (fun _ => (Qi rfl Vz)) ?_
   refine QF rfl rfl rfl (Qm rfl B7 (by exact hS7.cell 0 rfl rfl)) ?_
   refine Qk rfl rfl rfl (fun _ => (Qi rfl JQ)) ?_
   refine QF rfl rfl rfl (Qm rfl Yz (by exact hS7.cell 5 rfl rfl)) ?_
   refine QF rfl rfl rfl (Xz (k := k.1) 3 hS7 keysStr Tryz.underlying91 rfl rfl rfl zr_4 (u := .bool (t.dr k.1)) (Ds _ _)) ?_
   refine VC.nil (Qc ?_)
   refine Qh (L' := [(37, _), (7, _), (0, _), (1, _), (5, _)]) (ZH rfl rfl rfl rfl rfl) ?_
   refine QR rfl (fun h8 => ?_) (fun h8 => ?_)
   ·have hdr : t.dr k.1 = true := h8
    refine Qd (Qa (Qe rfl rfl (Qf (Qc (Q0 (Qs (QE (Qs (QE (Qs ?_))))))))))
    refine QV (.inr rfl) rfl rfl ?_
    have hS9 := Z6 hqH (hS7.pick [0, 1, 2, 3, 4, 5, 6, 7, 8, 9, 10] rfl)
    exact ⟨_, rfl, by rw [hse, Bf hid0 hq_T hq_X hdr], hS9.pick [2, 3, 4, 0, 5, 6] rfl⟩
   have hdr : t.dr k.1 = false := h8
   refine Qy (Qc (Qa (Qb rfl rfl (Qj rfl rfl ?_))))
   refine Qg rfl J3 rfl ?_
   refine Qu rfl QW (by exact hS7.cell 0 rfl rfl) rfl ?_
   refine Qe rfl rfl (Qf (Qp ?_))
   have hS10 := Z6 hqH (hS7.pick [0, 1, 2, 3, 4, 5, 6, 7, 8, 9, 10] rfl)
   obtain ⟨m2, hm2, hen2⟩ := Cj hen hid0 hq_T
   exact QG (L1 := [(0, _), (1, intV t.parent), (5, _)]) (Y2 rfl rfl rfl) (k1 := m2 + 1) (by omega) ⟨m2, t.parent, rfl, rfl, hS10.pick [1, 2, 3, 4, 0, 5, 6] rfl, by rw [hse, hm2, TN hid0 hq_T hq_X hdr], hen2, by omega, (hAv _ _ hav hq_T).2⟩
  refine YJ Tryz.underlying89 rfl rfl rfl ?_
  have hS6 := Yu (hS5.pick [2, 0, 1, 3, 4, 5, 6, 7, 8, 9, 10] rfl) hq_X
  refine Qf (Qc ?_)
  refine XP rfl ?_
  refine Qd (Qa (Qb rfl rfl (Qj rfl rfl ?_)))
  refine Qg rfl WE rfl ?_
  refine Qu rfl QW (by exact hS6.cell 0 rfl rfl) rfl ?_
  refine Qe rfl rfl (Qf (Qc ?_))
  refine Qh (L' := [(6, _), (7, _), (0, _), (1, _), (5, _)]) (ZH rfl rfl rfl rfl rfl) ?_
  refine Q0 (Qs (QE (Qs (QE (Qs ?_)))))
  refine QV (.inr rfl) rfl rfl ?_
  have hS11 := Z7 hq_X (hS6.pick [0, 1, 2, 3, 4, 5, 6, 7, 8, 9, 10, 11] rfl)
  have hS12 := Z6 hqH (hS11.pick [1, 2, 0, 3, 4, 5, 6, 7, 8, 9, 10] rfl)
  exact ⟨_, rfl, by rw [hse, YN hid0 hq_T hq_X], hS12.pick [2, 3, 4, 0, 5, 6] rfl⟩
 have hid0 : i = 0 := Decidable.not_not.1 h3
 refine QZ (Qv (Qv (Q4 (Qc (Qd ?_)))))
 have hS13 := hS2.drew
 refine QK [0, 1, 2, 3, 4, 5, 6] [] ZT (by kernel_rfl) ?_
 refine Qk rfl rfl rfl (fun _ => (Qr rfl)) ?_
 refine Qk rfl rfl rfl (fun _ => (Qq rfl)) ?_
 refine Qk rfl rfl rfl (fun _ => (Qi rfl Uo)) ?_
 refine QF rfl rfl rfl (Qm rfl Gy (by exact hS13.cell 1 rfl rfl)) ?_
 refine QF rfl rfl rfl (X9 rfl XB Xc (by exact hS13.blk 0 rfl) (by exact Nat.le_of_ble_eq_true rfl) rfl) ?_
 refine QF rfl rfl rfl (Xz (k := k) 2 hS13 keysKey Tryz.underlying81 rfl rfl rfl Y1 (u := intV (L.pres k)) (Ko _ _)) ?_
 refine Qk rfl rfl rfl (fun _ => (Q6 rfl)) ?_
 refine VC.nil (Qc ?_)
 refine Qh (L' := [(6, _)]) (Hd rfl) ?_
 refine Q0 ?_
 refine QV (.inr rfl) rfl rfl ?_
 exact ⟨_, rfl, by rw [hse, Jw hid0], hS13.pick [1, 2, 3, 4, 5, 6] rfl⟩
end Go.Proofs.YtkcjfoaejijdoaaGreatDoor
/- leaves: Valid -/
namespace Go.Proofs.YtkcjfoaejijdoaaGreatDoor
open Go.RowKit M
set_option linter.unusedVariables false
theorem NO {st s2 rd : BitVec 64} {pa pb : Bs} (hne : st ≠ 0#64) (hsub : ∀ j, j < 64 → st.getLsbD j = true → rd.getLsbD j = true) (hin : ∀ j, j < 64 → rd.getLsbD j = true → st.getLsbD j = true ∨ pa[j]? = pb[j]?) (heq : pa[Lib.ctz 64 st.toNat]? = pb[Lib.ctz 64 st.toNat]?) :
    (∀ j, j < 64 → (st &&& (st - 1#64)).getLsbD j = true → rd.getLsbD j = true) ∧ (∀ j, j < 64 → rd.getLsbD j = true → (st &&& (st - 1#64)).getLsbD j = true ∨ pa[j]? = pb[j]?) ∧ (st &&& (st - 1#64)).toNat < st.toNat := by
  obtain ⟨h1, h2⟩ := M3 st hne
  refine ⟨fun j hj h => ?_, fun j hj h => ?_, ?_⟩
  · rw [(h2 j hj).1, Bool.and_eq_true] at h; exact hsub j hj h.1
  · rcases hin j hj h with q | q
    · by_cases e : j = Lib.ctz 64 st.toNat
      · right; rw [e]; exact heq
      · left; rw [(h2 j hj).1, q]; simp [e]
    · exact .inr q
  · have h0 : st.toNat ≠ 0 := fun q => hne (BitVec.eq_of_toNat_eq (by simpa using q))
    have h3 : (st - 1#64).toNat = st.toNat - 1 := by
      rw [BitVec.toNat_sub]; have := st.isLt; simp; omega
    rw [BitVec.toNat_and, h3]
    have := Nat.and_le_right (n := st.toNat) (m := st.toNat - 1)
    omega
set_option maxRecDepth 100000 in
set_option maxHeartbeats 1600000 in
theorem CJ {w : World} {m : Nat} {b n Fr : Nat} {L : LvD} {V : VS} {F : Th} (hS : Sat w [ZV b L, Zv L.sp n Fr V, F]) (hn : n ≤ 600000000) (hI : LvI m L V) (hm : m < Z9) (hG : Ent F GT) {id : Int} {t : TrD} (ht : L.tr id = some t) :
    Calls Tryz.prog 14 #[ptrV b 0, intV id] w (Ret fun v w' => ∃ r : Bool, v = .bool r ∧ (r = true ↔ ∀ k x, t.lv k = some x → VK L V t k x) ∧ Sat w' [ZV b L, Zv L.sp n Fr V, F]) := by
 have h0 : id ≠ 0 := hI.rank.none0 ht
 obtain ⟨Av, hA0, hAv⟩ := hI.rank.av id
 replace hS := XQ hS
 refine Qt Tryz.func14 rfl Tryz.ntmps14 rfl ?_
 refine Qd (Qa (Qe rfl rfl (Qf (Qc (Qd (Qd (Qa (Qb rfl rfl ?_))))))))
 refine X2 rfl rfl rfl ?_
 refine Qf (Qc ?_)
 refine Qx rfl (fun h1 => ?_) (fun h1 => ?_)
 ·exact absurd h1 h0
 refine Qy (Qc (Qd (Qa (Qb rfl rfl (Qj rfl rfl ?_)))))
 refine Qg rfl Wz rfl ?_
 refine Qu rfl YD (by exact hS.cell 0 rfl rfl) rfl ?_
 refine Qb rfl rfl ?_
 refine Ze (k := id) 2 hS keysInt Tryz.underlying82 rfl rfl rfl H1 (u := ptrV t.ad 0) (Zs ht) rfl ?_
 refine Qe rfl rfl (Qf (Qc ?_))
 refine Qh (L' := [(5, _), (4, _), (0, _)]) (Y2 rfl rfl rfl) ?_
 refine Qd (Qd (Qa (Qb rfl rfl ?_)))
 refine ZX Tryz.underlying94 rfl rfl rfl ?_
 refine Qf (Qc ?_)
 refine Xm rfl ?_
 refine Qy (Qc (Qd (Qd ?_)))
 have hS2 := Z5 (hS.pick [3, 0, 1, 2, 4, 5, 6] rfl) ht
 refine Qa (Qb rfl rfl (Qj rfl rfl ?_))
 refine Qg rfl ZN rfl ?_
 refine Qu rfl Jq (by exact hS2.cell 0 rfl rfl) rfl ?_
 refine H3 1 hS2 Tryz.underlying90 rfl rfl rfl ?_
 intro RR left0 wR hSR; dsimp only [List.set] at hSR
 clear hS2
 refine Qf (Qc (Q1 ?_))
 refine Xw (fun K0 E0 W0 => ∃ (dn : KD → Prop) (cur : Option KD) (left : Nat), K0 = left ∧ E0 = [(0, ptrV b 0), (4, .bool false), (5, ptrV t.ad 0), (27, ptrV RR 0)] ∧ Sat W0 [QO t.ad [intV t.parent, .map (some t.ml), .map (some t.md)], Yp Xu t.ml RR (XV LfD.ad t.lv) dn cur left, Zh Ka t.lv, QH WM t.md (Jc t.dr), Zh UW (Xj L.tr id none), QO b [ptrV L.sp 0, .map (some L.mp), .map (some L.mt), intV L.cur, .map (some L.ms)], QH Xu L.mp (Zo L.pres), QH Xd L.mt (XV TrD.ad L.tr), QH Xd L.ms (Jc L.sh), Zv L.sp n Fr V, F] ∧ (∀ k x, dn k → t.lv k = some x → VK L V t k x)) (L0 := [(0, _), (4, _), (5, _), (27, _)]) (left0) (Jr rfl rfl rfl rfl) ⟨_, _, _, rfl, rfl, hSR.pick [0, 1, 2, 3, 4, 5, 6, 7, 8, 9, 10] rfl, fun _ _ h => h.elim⟩ ?_
 rintro _ _ w3 ⟨dn, cur, left, rfl, rfl, hS3, hok⟩
 refine Qd (Qa ?_)
 refine Vc 1 hS3 keysKey.inj rfl rfl rfl (fun hdone => ?_) (fun k v left2 wN hleft hgk hnd hSN => ?_)
 ·refine Qw rfl rfl rfl (Qf (Qc (Qd ?_)))
  refine Xm rfl ?_
  refine QZ (Qv (Qv (Q4 (Qc (Qd (Qa (Qe rfl rfl (Qf (Qc (Q0 ?_))))))))))
  refine QV (.inr rfl) rfl rfl ?_
  have hz := Yd (hS3.pick [1, 0, 2, 3, 4, 5, 6, 7, 8, 9, 10] rfl)
  have hS4 := Z6 ht (hz.pick [1, 0, 2, 3, 4, 5, 6, 7, 8, 9, 10] rfl)
  exact ⟨_, rfl, true, rfl, ⟨fun _ k x hx => hok k x (hdone _ _ (show XV LfD.ad t.lv k = some (ptrV x.ad 0) by unfold XV; rw [hx]; rfl)) hx, fun _ => rfl⟩, QY (hS4.pick [1, 2, 3, 0, 4, 5, 6] rfl)⟩
 dsimp only [List.set] at hSN
 obtain ⟨x, hx, rfl⟩ := TQ hgk
 refine Qw rfl rfl rfl (Qf (Qc (Qd ?_)))
 refine XP rfl ?_
 refine Qy (Qc (Q1 (Qd (Qa ?_))))
 refine H4 1 hSN rfl hgk rfl rfl ?_
 refine Qw rfl rfl rfl (Qw rfl rfl rfl ?_)
 refine Xl hSN Wp rfl rfl ?_
 intro kb wk5 hk5
 clear hSN
 refine Xa hk5 rfl rfl Xc rfl (by rfl) (i := 0) rfl (by decide) ?_
 intro wk6 hk6; dsimp only [List.set] at hk6
 clear hk5
 replace hk6 := XR (k := k) hk6
 refine Qe rfl rfl (Qf (Qc ?_))
 refine Qh (L' := [(7, _), (6, _), (0, _), (4, _), (5, _), (27, _)]) (Wf rfl rfl rfl rfl rfl rfl) ?_
 refine Qd ?_
 have hS7 := Yu (hk6.pick [3, 0, 1, 2, 4, 5, 6, 7, 8, 9, 10, 11] rfl) hx
 have hS8 := hS7.drew
 refine QK [0, 1, 2, 3, 4, 5, 6, 7] [6] ZT (by kernel_rfl) ?_
 refine Qk rfl rfl rfl (fun _ => (Qr rfl)) ?_
 refine Qk rfl rfl rfl (fun _ => (Qr rfl)) ?_
 refine Qk rfl rfl rfl (fun _ => (Qq rfl)) ?_
 refine Qk rfl rfl rfl (fun _ => (Qi rfl J3)) ?_
 refine QF rfl rfl rfl (Qm rfl QW (by exact hS8.cell 3 rfl rfl)) ?_
 refine QF rfl rfl rfl (X9 rfl XB Xc (by exact hS8.blk 2 rfl) (by exact Nat.le_of_ble_eq_true rfl) rfl) ?_
 refine Xn rfl rfl rfl rfl rfl rfl ?_
 have hC9 := hS8.split [7, 8, 9, 6, 10] [false, false, false, false, false, false, true, true, true, true, true, false, false] rfl; dsimp only [QC, Qz, Q9, Q8, Q7] at hC9
 refine Qo Ht rfl (DK (i0 := id) hC9 (hI.rank.ends hm) hAv t.parent (hA0 t ht) k) rfl ?_
 rintro e w9 ⟨_, rfl, rfl, hS9⟩; refine ⟨_, rfl, ?_⟩
 replace hS9 := hS9.join rfl; dsimp only [QU, QT, Q8, Q7] at hS9; clear hC9
 clear hS8
 refine XJ (.skip (by kernel_rfl) (.skip (by kernel_rfl) .nil)) ?_
 refine Qk rfl rfl rfl (fun _ => (Q6 rfl)) ?_
 refine VC.nil (Qc ?_)
 refine Qh (L' := [(8, _), (7, _), (0, _), (4, _), (5, _), (27, _)]) (Wf rfl rfl rfl rfl rfl rfl) ?_
 refine Qd (Qd (Qa (Qb rfl rfl (Qj rfl rfl ?_))))
 refine Qg rfl YA rfl ?_
 refine Qu rfl JB (by exact hS9.cell 5 rfl rfl) rfl ?_
 refine X2 rfl rfl rfl ?_
 refine Qb rfl rfl ?_
 refine Xk 45 rfl (fun h10 => ?_) (fun h10 => ?_)
 ·have hrd0 : x.rd = 0#64 := BitVec.eq_of_toNat_eq (by simpa using h10)
  refine Ql rfl rfl (decide_eq_true h10) rfl ?_
  refine Ql rfl rfl (decide_eq_true h10) rfl ?_
  refine Ql rfl rfl (decide_eq_true h10) rfl ?_
  refine Ql rfl rfl (decide_eq_true h10) rfl ?_
  refine Ql rfl rfl (decide_eq_true h10) rfl ?_
  refine Ql rfl rfl (decide_eq_true h10) rfl ?_
  refine Xg rfl (decide_eq_true h10) rfl rfl ?_
  refine Qf (Qc ?_)
  refine Qh (L' := [(52, _), (8, _), (7, _), (0, _), (4, _), (5, _), (27, _)]) (WK rfl rfl rfl rfl rfl rfl rfl) ?_
  refine XP rfl ?_
  refine QZ (Qv (Q4 ?_))
  have hvk : VK L V t k x := fun j hj h => (by (rw [hrd0] at h; simp at h))
  have hS11 := Z7 hx (hS9.pick [5, 6, 0, 1, 2, 3, 4, 7, 8, 9, 10, 11, 12] rfl)
  exact QG (L1 := [(0, _), (4, _), (5, _), (27, _)]) (Jr rfl rfl rfl rfl) (k1 := left2) (by omega) ⟨_, _, _, rfl, rfl, hS11.pick [7, 8, 0, 9, 4, 1, 2, 3, 5, 10, 11] rfl, fun q y hq hy => hq.elim (fun h => hok q y h hy) (fun h => by subst h; rw [hx] at hy; cases hy; exact hvk)⟩
 refine Qn rfl rfl (decide_eq_false h10) ?_
 refine Qb rfl rfl ?_
 refine Qn rfl rfl (decide_eq_false h10) ?_
 refine Qb rfl rfl ?_
 refine Qn rfl rfl (decide_eq_false h10) ?_
 refine Qj rfl rfl ?_
 refine Qn rfl rfl (decide_eq_false h10) ?_
 refine Qg rfl Rk rfl ?_
 refine Qn rfl rfl (decide_eq_false h10) ?_
 refine Qu rfl QW (by exact hS9.cell 5 rfl rfl) rfl ?_
 refine Qn rfl rfl (decide_eq_false h10) ?_
 refine X2 rfl rfl rfl ?_
 refine QX rfl (decide_eq_false h10) rfl rfl ?_
 refine Qf (Qc ?_)
 refine Qh (L' := [(52, _), (8, _), (7, _), (0, _), (4, _), (5, _), (27, _)]) (WK rfl rfl rfl rfl rfl rfl rfl) ?_
 refine Qx rfl (fun h12 => ?_) (fun h12 => ?_)
 ·have hnb : Xo L t.parent k = x.base := h12
  refine QZ (Qv (Q4 ?_))
  have hvk : VK L V t k x := fun j hj h => (by rw [hnb])
  have hS13 := Z7 hx (hS9.pick [5, 6, 0, 1, 2, 3, 4, 7, 8, 9, 10, 11, 12] rfl)
  exact QG (L1 := [(0, _), (4, _), (5, _), (27, _)]) (Jr rfl rfl rfl rfl) (k1 := left2) (by omega) ⟨_, _, _, rfl, rfl, hS13.pick [7, 8, 0, 9, 4, 1, 2, 3, 5, 10, 11] rfl, fun q y hq hy => hq.elim (fun h => hok q y h hy) (fun h => by subst h; rw [hx] at hy; cases hy; exact hvk)⟩
 refine Qy (Qc (Qd ?_))
 have hS14 := hS9.drew
 refine QK [0, 1, 2, 3, 4, 5, 6, 7, 9, 10, 11, 12, 13, 8, 14, 15, 16] [8, 14] ZT (by kernel_rfl) ?_
 refine Qk rfl rfl rfl (fun _ => (Qr rfl)) ?_
 refine Qk rfl rfl rfl (fun _ => (Qq rfl)) ?_
 refine Qk rfl rfl rfl (fun _ => (Qi rfl XK)) ?_
 refine QF rfl rfl rfl (Qm rfl Xe (by exact hS14.cell 0 rfl rfl)) ?_
 refine Qk rfl rfl rfl (fun _ => (Qr rfl)) ?_
 refine Qk rfl rfl rfl (fun _ => (Qq rfl)) ?_
 refine Qk rfl rfl rfl (fun _ => (Qi rfl Rk)) ?_
 refine QF rfl rfl rfl (Qm rfl QW (by exact hS14.cell 5 rfl rfl)) ?_
 refine Qk rfl rfl rfl (fun _ => (Qr rfl)) ?_
 refine Qk rfl rfl rfl (fun _ => (Qq rfl)) ?_
 refine Qk rfl rfl rfl (fun _ => (Qi rfl XK)) ?_
 refine QF rfl rfl rfl (Qm rfl Xe (by exact hS14.cell 0 rfl rfl)) ?_
 refine Qk rfl rfl rfl (fun _ => (Qr rfl)) ?_
 refine Xn rfl rfl rfl rfl rfl rfl ?_
 have hC15 := hS14.split [11] [false, false, false, false, false, false, false, false, false, false, false, true, false] rfl; dsimp only [QC, Qz, Q9, Q8, Q7] at hC15
 refine Qo Jz rfl (YG hC15 (x.base)) rfl ?_
 rintro e w15 ⟨_, rfl, rfl, hS15⟩; refine ⟨_, rfl, ?_⟩
 replace hS15 := hS15.join rfl; dsimp only [QU, QT, Q8, Q7] at hS15; clear hC15
 clear hS14
 refine XJ (.cons (.inl ⟨rfl, (Qm rfl Xe (by exact hS15.cell 1 rfl rfl))⟩) (.skip (by kernel_rfl) (.skip (by kernel_rfl) .nil))) ?_
 refine Xn rfl rfl rfl rfl rfl rfl ?_
 have hC16 := hS15.split [0] [true, false, false, false, false, false, false, false, false, false, false, false, false] rfl; dsimp only [QC, Qz, Q9, Q8, Q7] at hC16
 refine Qo Jz rfl (YG hC16 (Xo L t.parent k)) rfl ?_
 rintro e w16 ⟨_, rfl, rfl, hS16⟩; refine ⟨_, rfl, ?_⟩
 replace hS16 := hS16.join rfl; dsimp only [QU, QT, Q8, Q7] at hS16; clear hC16
 clear hS15
 refine XJ (.skip (by kernel_rfl) (.skip (by kernel_rfl) (.skip (by kernel_rfl) .nil))) ?_
 refine Qk rfl rfl rfl (fun _ => (Q6 rfl)) ?_
 refine Qk rfl rfl rfl (fun _ => (Q6 rfl)) ?_
 refine VC.nil (Qc ?_)
 refine Qh (L' := [(10, _), (9, _), (7, _), (0, _), (4, _), (5, _), (27, _)]) (WK rfl rfl rfl rfl rfl rfl rfl) ?_
 refine Qd ?_
 have hlb := hI.len (s := x.base) (by have := hI.alive (.inr (id, k, false)); rwa [X3 ht hx] at this)
 have hln := hI.len (hI.aliveS t.parent k)
 refine Qa (Qb rfl rfl (Qj rfl rfl ?_))
 refine Qg rfl YA rfl ?_
 refine Qu rfl JB (by exact hS16.cell 6 rfl rfl) rfl ?_
 refine Qe rfl rfl (Qf (Qc ?_))
 refine Qh (L' := [(11, _), (10, _), (9, _), (0, _), (4, _), (5, _), (27, _)]) (WK rfl rfl rfl rfl rfl rfl rfl) ?_
 refine Q1 ?_
 refine Xw (fun K0 E0 W0 => ∃ (st : BitVec 64), K0 = st.toNat ∧ E0 = [(0, ptrV b 0), (4, .bool false), (5, ptrV t.ad 0), (27, ptrV RR 0), (9, strV (XM V x.base)), (10, strV (XM V (Xo L t.parent k))), (11, XG st)] ∧ Sat W0 [QO x.ad [intV x.base, intV x.own, XG x.rd, XG x.wr], Zh Ka (Xj t.lv k none), QO kb [strV k.1, intV k.2], QO t.ad [intV t.parent, .map (some t.ml), .map (some t.md)], Yp Xu t.ml RR (XV LfD.ad t.lv) (fun j => dn j ∨ j = k) (some k) left2, QH WM t.md (Jc t.dr), Zh UW (Xj L.tr id none), QO b [ptrV L.sp 0, .map (some L.mp), .map (some L.mt), intV L.cur, .map (some L.ms)], QH Xu L.mp (Zo L.pres), QH Xd L.mt (XV TrD.ad L.tr), QH Xd L.ms (Jc L.sh), Zv L.sp n Fr V, F] ∧ (∀ j, j < 64 → st.getLsbD j = true → x.rd.getLsbD j = true) ∧ (∀ j, j < 64 → x.rd.getLsbD j = true → st.getLsbD j = true ∨ (XM V x.base)[j]? = (XM V (Xo L t.parent k))[j]?)) (L0 := [(0, _), (4, _), (5, _), (27, _), (9, _), (10, _), (11, _)]) (x.rd.toNat) (WK rfl rfl rfl rfl rfl rfl rfl) ⟨x.rd, rfl, rfl, hS16.pick [6, 7, 8, 9, 10, 11, 4, 1, 2, 3, 5, 0, 12] rfl, fun _ _ h => h, fun _ _ h => .inl h⟩ ?_
 rintro _ _ w17 ⟨st, rfl, rfl, hS17, hsub, hin⟩
 refine Qd (Qd (Qa (Qb rfl rfl ?_)))
 refine Xh rfl rfl rfl ?_
 refine Qf (Qc ?_)
 refine Qx rfl (fun h18 => ?_) (fun h18 => ?_)
 ·have hne : st ≠ 0#64 := fun q => by subst q; exact absurd h18 (by decide)
  refine Qy (Qc (Qd (Q1 (Qd (Qa (Qb rfl rfl ?_))))))
  refine Qo cal_56 rfl (tz_sp st _ (hG.sat hS17 12 rfl)) rfl ?_
  rintro e _ ⟨_, rfl, rfl, rfl⟩; refine ⟨_, rfl, ?_⟩
  have hcz := M3 st hne
  have hci := hcz.1
  obtain ⟨ca, hca⟩ : ∃ ca, (XM V x.base)[Lib.ctz 64 st.toNat]? = some ca := ⟨_, List.getElem?_eq_getElem (by rw [hlb]; omega)⟩
  obtain ⟨cb, hcb⟩ : ∃ cb, (XM V (Xo L t.parent k))[Lib.ctz 64 st.toNat]? = some cb := ⟨_, List.getElem?_eq_getElem (by rw [hln]; omega)⟩
  refine Qe rfl rfl (Qf (Qc ?_))
  refine Qh (L' := [(12, _), (0, _), (4, _), (5, _), (27, _), (9, _), (10, _), (11, _)]) (WT rfl rfl rfl rfl rfl rfl rfl rfl) ?_
  refine Qd ?_
  have hS19 := hS17.drew
  refine QK [0, 1, 2, 3, 4, 5, 6] [] ZT (by kernel_rfl) ?_
  refine Qk rfl rfl rfl (fun _ => (Qr rfl)) ?_
  refine Qk rfl rfl rfl (fun _ => (Qr rfl)) ?_
  refine QF rfl rfl rfl (YX _ Tryz.underlying9 rfl rfl (by rfl) (by assumption)) ?_
  refine Qk rfl rfl rfl (fun _ => (Qr rfl)) ?_
  refine Qk rfl rfl rfl (fun _ => (Qr rfl)) ?_
  refine QF rfl rfl rfl (YX _ Tryz.underlying9 rfl rfl (by rfl) (by assumption)) ?_
  refine Qk rfl rfl rfl (fun _ => (BW rfl rfl)) ?_
  refine VC.nil (Qc ?_)
  refine Qh (L' := [(86, _), (0, _), (4, _), (5, _), (27, _), (9, _), (10, _), (11, _)]) (WT rfl rfl rfl rfl rfl rfl rfl rfl) ?_
  refine Qx rfl (fun h20 => ?_) (fun h20 => ?_)
  ·have hnq : ca ≠ cb := fun q => by subst q; exact h20 rfl
   refine Qd (Qa (Qe rfl rfl (Qf (Qc (Q0 (QE (Qs (Qs (QE (QE (Qs (QE (Qs ?_)))))))))))))
   refine QV (.inr rfl) rfl rfl ?_
   have hbad : ¬ VK L V t k x := fun q => by have h1 := q _ hci (hsub _ hci ((hcz.2 0 (by omega)).2)); rw [hca, hcb] at h1; simp at h1; subst h1; exact hnq rfl
   have hS21 := Z7 hx (hS19.pick [0, 1, 2, 3, 4, 5, 6, 7, 8, 9, 10, 11, 12] rfl)
   have hz := Yd (hS21.pick [3, 2, 0, 4, 5, 6, 7, 8, 9, 10, 11] rfl)
   have hS22 := Z6 ht (hz.pick [1, 0, 2, 3, 4, 5, 6, 7, 8, 9, 10] rfl)
   exact ⟨_, rfl, false, rfl, ⟨(fun q => by cases q), fun q => absurd (q k x hx) hbad⟩, QY (hS22.pick [1, 2, 3, 0, 4, 5, 6] rfl)⟩
  have heq : (XM V x.base)[Lib.ctz 64 st.toNat]? = (XM V (Xo L t.parent k))[Lib.ctz 64 st.toNat]? := by rw [hca, hcb]; congr 1; have h0 := Decidable.not_not.1 h20; exact UInt8.toNat_inj.1 (by omega)
  refine Qy (Qp (Qc (Qa (Qb rfl rfl (Qb rfl rfl ?_)))))
  refine NV (b := 1#64) rfl rfl rfl ?_
  refine WL rfl rfl rfl ?_
  refine Qe rfl rfl (Qf ?_)
  have hbn := NO (s2 := st) hne hsub hin heq
  exact QG (L1 := [(0, _), (4, _), (5, _), (27, _), (9, _), (10, _), (11, XG (st &&& (st - 1#64)))]) (WK rfl rfl rfl rfl rfl rfl rfl) (k1 := (st &&& (st - 1#64)).toNat) hbn.2.2 ⟨_, rfl, rfl, hS19.pick [0, 1, 2, 3, 4, 5, 6, 7, 8, 9, 10, 11, 12] rfl, hbn.1, hbn.2.1⟩
 have hz0 : st = 0#64 := BitVec.eq_of_toNat_eq (by have := Decidable.not_not.1 h18; simpa using this)
 refine QZ (Qv (Qv (Q4 (Qp ?_))))
 have hvk : VK L V t k x := fun j hj h => (hin j hj h).resolve_left (by rw [hz0]; simp)
 have hS23 := Z7 hx (hS17.pick [0, 1, 2, 3, 4, 5, 6, 7, 8, 9, 10, 11, 12] rfl)
 exact QG (L1 := [(0, _), (4, _), (5, _), (27, _)]) (Jr rfl rfl rfl rfl) (k1 := left2) (by omega) ⟨_, _, _, rfl, rfl, hS23.pick [2, 3, 0, 4, 5, 6, 7, 8, 9, 10, 11] rfl, fun q y hq hy => hq.elim (fun h => hok q y h hy) (fun h => by subst h; rw [hx] at hy; cases hy; exact hvk)⟩
end Go.Proofs.YtkcjfoaejijdoaaGreatDoor
/- leaves: references held elsewhere, plain -/
namespace Go.Proofs.YtkcjfoaejijdoaaGreatDoor
open Go.RowKit M
set_option linter.unusedVariables false
/-- references have changed, and sheets have vanished: contents have not changed -/
def Pgs (V V' : VS) : Prop := ∀ j, XH V' j → XH V j ∧ XM V' j = XM V j
theorem MX {V : VS} {s j : Int} (h : XH (Zg V s) j) : XH V j := by
  rcases h with h | h
  · exact .inl h
  · exact .inr (GV h)
theorem Pgs.refl {V : VS} : Pgs V V := fun _ h => ⟨h, rfl⟩
theorem Pgs.trans {V V1 V2 : VS} (h : Pgs V V1) (h' : Pgs V1 V2) : Pgs V V2 := fun j q => ⟨(h j (h' j q).1).1, (h' j q).2.trans (h j (h' j q).1).2⟩
theorem Pgs.ref {V : VS} {s : Int} : Pgs V (refW V s) := fun j q => ⟨q.imp_right Yo.1, J2⟩
theorem Pgs.unr {V : VS} {s : Int} (h0 : V 0 = none) : Pgs V (Zg V s) := fun j q => ⟨MX q, RM h0 q⟩
section
variable {ex : Int → Int} {L L1 L' : LvD} {V V1 V' : VS} {id : Int} {t t1 t' : TrD} {k : KD} {x y x1 : LfD} {m Fr : Nat} {s a : Int}
theorem Tn (hx : NN ex) (hs : s ≠ 0 → 1 ≤ ex s) : NN (fun j => ex j - dl s j) := fun j hj => by
  show 0 ≤ ex j - dl s j
  have := hx j hj
  by_cases e : j = s
  · subst e; have := hs hj; rw [ZE]; omega
  · rw [W2 e]; omega
/-- the present gets a sheet that has its reference already -/
theorem setX (hI : LvX ex m L V) (hx : NN ex) (hs : s ≠ 0 → 1 ≤ ex s) (hp : L'.pres = XZ L.pres k s) (hT : L'.tr = L.tr) :
    LvX (fun j => ex j - dl s j) m L' (Zg V (L.pres k)) ∧ Q5 L' (Zg V (L.pres k)) = { Q5 L V with pres := HW (Q5 L V).pres k (XM V s) } := by
  have hf := Br hp hT
  have hh : Xf L (.inl k) = L.pres k := rfl
  have a1 := (((hI.ref.put (.inl k) s).fn hf).unr (hI.aliveX hx (.inl k)))
  rw [hh] at a1
  have a2 : RefI (Xf L') (Zg V (L.pres k)) (fun j => ex j - dl s j) := a1.ext fun j hj => by omega
  have nn : NN (fun j => ex j - dl s j) := Tn hx hs
  have hc : ∀ p, XM (Zg V (L.pres k)) (Xf L' p) = XM V (Xf L' p) := fun p => RM hI.zero (a2.aliveN rfl (nn _))
  have e1 : Q5 L' (Zg V (L.pres k)) = { Q5 L V with pres := HW (Q5 L V).pres k (XM V s) } := by
    rw [K6 (V := V) (V' := Zg V (L.pres k)) hp hT fun p hp => by have := hc p; rwa [hf, XL hp] at this]
    have := hc (.inl k)
    rw [hf, X7] at this
    rw [this]
  exact ⟨⟨a2, by rw [hT]; exact hI.rank, by rw [e1]; exact hI.agree⟩, e1⟩
/-- a leaf gets a sheet that has its reference already -/
theorem ownX (hI : LvX ex m L V) (hx : NN ex) (hs : s ≠ 0 → 1 ≤ ex s) (ht : L.tr id = some t) (hl : t.lv k = some x) (hp : L'.pres = L.pres) (hT : L'.tr = Xj L.tr id (some { t with lv := Xj t.lv k (some y) })) (hb : y.base = x.base) (ho : y.own = s)
    (hg : NR { ZG V x with own := XM V s, rd := y.rd, wr := y.wr }) :
    LvX (fun j => ex j - dl s j) m L' (Zg V x.own) ∧ Q5 L' (Zg V x.own) = Zt (Q5 L V) id k { ZG V x with own := XM V s, rd := y.rd, wr := y.wr } := by
  have hf : ∀ q, Xf L' q = HW (Xf L) (.inr (id, k, true)) s q := fun q => by
    rw [Ye (x := y) hp hT ht rfl, hb, ho, Yj (f := Xf L) (v := x.base) (by rw [X3 ht hl]; rfl)]
  have hh : Xf L (.inr (id, k, true)) = x.own := by rw [X3 ht hl]; rfl
  have a1 := (((hI.ref.put (.inr (id, k, true)) s).fn hf).unr (hI.aliveX hx (.inr (id, k, true))))
  rw [hh] at a1
  have a2 : RefI (Xf L') (Zg V x.own) (fun j => ex j - dl s j) := a1.ext fun j hj => by omega
  have nn : NN (fun j => ex j - dl s j) := Tn hx hs
  have hc : ∀ p, XM (Zg V x.own) (Xf L' p) = XM V (Xf L' p) := fun p => RM hI.zero (a2.aliveN rfl (nn _))
  have e1 : Q5 L' (Zg V x.own) = Zt (Q5 L V) id k { ZG V x with own := XM V s, rd := y.rd, wr := y.wr } := by
    rw [J1 (V := V) (V' := Zg V x.own) (x := y) hp hT ht rfl fun p h1 h2 => by have := hc p; rwa [hf, XL h2] at this]
    congr 1
    have h1 := hc (.inr (id, k, true))
    have h2 := hc (.inr (id, k, false))
    rw [hf, X7] at h1
    rw [hf, XL (by simp), X3 ht hl] at h2
    simp at h2
    simp [ZG, hb, ho, h1, h2]
  exact ⟨⟨a2, by rw [hT]; exact hI.rank.same (Wk ht rfl), by rw [e1]; exact hI.agree.put hg⟩, e1⟩
/-- one more reference -/
theorem LvX.refW (hI : LvX ex m L V) (ha : XH V s) : LvX (fun j => ex j + dl s j) m L (refW V s) ∧ Q5 L (refW V s) = Q5 L V := by
  have e : Q5 L (Go.Proofs.YtkcjfoaejijdoaaGreatDoor.refW V s) = Q5 L V := Hy fun p => J2
  exact ⟨⟨hI.ref.ref ha, hI.rank, by rw [e]; exact hI.agree⟩, e⟩
/-- one reference less -/
theorem LvX.unr (hI : LvX ex m L V) (hx : NN ex) (hs : s ≠ 0 → 1 ≤ ex s) : LvX (fun j => ex j - dl s j) m L (Zg V s) ∧ Q5 L (Zg V s) = Q5 L V := by
  have ha : XH V s := by
    by_cases h0 : s = 0
    · exact .inl h0
    · obtain ⟨n, a, b⟩ := hI.ref.1 s h0
      have := hs h0
      exact .inr (hI.ref.alive_of (by omega))
  have nn : NN (fun j => ex j - dl s j) := Tn hx hs
  have a2 := hI.ref.unr ha
  have e : Q5 L (Zg V s) = Q5 L V := Hy fun p => RM hI.zero (a2.aliveN rfl (nn _))
  exact ⟨⟨a2, hI.rank, by rw [e]; exact hI.agree⟩, e⟩
theorem LvX.ext {ex' : Int → Int} (hI : LvX ex m L V) (h : ∀ j, j ≠ 0 → ex' j = ex j) : LvX ex' m L V := ⟨hI.ref.ext h, hI.rank, hI.agree⟩
theorem LvX.same (hI : LvX ex m L V) (hp : L'.pres = L.pres) (hT : L'.tr = L.tr) : LvX ex m L' V ∧ Q5 L' V = Q5 L V := by
  have e : Q5 L' V = Q5 L V := by unfold Q5; rw [hp, hT]
  have hf : Xf L' = Xf L := by funext p; cases p <;> simp [Xf, hp, hT]
  exact ⟨⟨by rw [hf]; exact hI.ref, by rw [hT]; exact hI.rank, by rw [e]; exact hI.agree⟩, e⟩
end
/-- a step with references that are held elsewhere -/
structure StepX (ex : Int → Int) (m : Nat) (L : LvD) (V : VS) (ex' : Int → Int) (m' d e : Nat) (L' : LvD) (V' : VS) : Prop where
  inv : LvX ex' m' L' V'
  sp : L'.sp = L.sp
  al : ∀ c, AliveLe V c → AliveLe V' (c + d)
  sz : ∀ c, SzLe L c → SzLe L' (c + e)
  pg : Pgs V V'
theorem StepX.refl {ex : Int → Int} {m d e : Nat} {L : LvD} {V : VS} (h : LvX ex m L V) : StepX ex m L V ex m d e L V := ⟨h, rfl, fun _ q => q.mono (by omega), fun _ q => q.mono (by omega), .refl⟩
theorem StepX.trans {ex ex1 ex2 : Int → Int} {m m1 m2 : Nat} {L L1 L2 : LvD} {V V1 V2 : VS} {d d1 e e1 : Nat} (h : StepX ex m L V ex1 m1 d e L1 V1) (h' : StepX ex1 m1 L1 V1 ex2 m2 d1 e1 L2 V2) : StepX ex m L V ex2 m2 (d + d1) (e + e1) L2 V2 :=
  ⟨h'.inv, h'.sp.trans h.sp, fun c q => (h'.al _ (h.al c q)).mono (by omega), fun c q => (h'.sz _ (h.sz c q)).mono (by omega), h.pg.trans h'.pg⟩
theorem StepX.up {ex ex1 : Int → Int} {m m1 : Nat} {L L1 : LvD} {V V1 : VS} {d d1 e e1 : Nat} (h : StepX ex m L V ex1 m1 d e L1 V1) (h1 : d ≤ d1) (h2 : e ≤ e1) : StepX ex m L V ex1 m1 d1 e1 L1 V1 :=
  ⟨h.inv, h.sp, fun c q => (h.al c q).mono (by omega), fun c q => (h.sz c q).mono (by omega), h.pg⟩
theorem StepX.plain {m m1 : Nat} {L L1 : LvD} {V V1 : VS} {d e : Nat} (h : StepX (fun _ => 0) m L V (fun _ => 0) m1 d e L1 V1) : StepI m L V m1 d e L1 V1 := ⟨h.inv, h.sp, h.al, h.sz⟩
/-- a place in which a sheet may be held -/
def MN (L : LvD) (j : Int) (q : KD) : Prop := (j = 0 ∧ L.pres q ≠ 0) ∨ ∃ t x, L.tr j = some t ∧ t.lv q = some x
/-- only p has changed, and has at most the pages of P in addition -/
def OthK (L L' : LvD) (p : Int) (P : KD → Prop) : Prop := (∀ i, i ≠ p → L'.tr i = L.tr i) ∧ ∀ j q, MN L' j q → MN L j q ∨ (j = p ∧ P q)
theorem OthK.refl {L : LvD} {p : Int} {P : KD → Prop} : OthK L L p P := ⟨fun _ _ => rfl, fun _ _ h => .inl h⟩
theorem OthK.trans {L L1 L2 : LvD} {p : Int} {P Q R : KD → Prop} (h : OthK L L1 p P) (h' : OthK L1 L2 p Q) (hP : ∀ q, P q → R q) (hQ : ∀ q, Q q → R q) : OthK L L2 p R :=
  ⟨fun i hi => (h'.1 i hi).trans (h.1 i hi), fun j q hk => by
    rcases h'.2 j q hk with a | ⟨a, b⟩
    · rcases h.2 j q a with c | ⟨c, d⟩
      · exact .inl c
      · exact .inr ⟨c, hP q d⟩
    · exact .inr ⟨a, hQ q b⟩⟩
theorem SzLe.keys {L : LvD} {c : Nat} (h : SzLe L c) : ∃ l : List (Int × KD), l.length ≤ c ∧ ∀ j q, MN L j q → (j, q) ∈ l := by
  obtain ⟨l, a, b, d⟩ := h
  refine ⟨l, a, fun j q hk => ?_⟩
  rcases hk with ⟨rfl, e⟩ | ⟨t, x, e, f⟩
  · exact b q e
  · exact d j t q x e f
theorem SzLe.of_keys {L : LvD} {c : Nat} {l : List (Int × KD)} (h : l.length ≤ c) (hk : ∀ j q, MN L j q → (j, q) ∈ l) : SzLe L c := ⟨l, h, fun k e => hk 0 k (.inl ⟨rfl, e⟩), fun i t k x e f => hk i k (.inr ⟨t, x, e, f⟩)⟩
theorem OthK.sz2 {L L' : LvD} {p id : Int} {P : KD → Prop} {c : Nat} (h : OthK L L' p P) (hP : ∀ q, P q → MN L id q) (hc : SzLe L c) : SzLe L' (2 * c) := by
  obtain ⟨l, a, b⟩ := hc.keys
  refine SzLe.of_keys (l := l ++ l.map fun e => (p, e.2)) (by simp; omega) fun j q hk => ?_
  rcases h.2 j q hk with e | ⟨rfl, e⟩
  · exact List.mem_append_left _ (b j q e)
  · exact List.mem_append_right _ (List.mem_map.2 ⟨(id, q), b id q (hP q e), rfl⟩)
theorem OthK.szRem {L L1 L' : LvD} {p id : Int} {P : KD → Prop} {c : Nat} (h : OthK L L1 p P) (hP : ∀ q, P q → MN L id q) (h0 : id ≠ 0) (hr : L'.pres = L1.pres) (ht : L'.tr = Xj L1.tr id none) (hc : SzLe L c) : SzLe L' c := by
  obtain ⟨l, a, b⟩ := hc.keys
  refine SzLe.of_keys (l := l.map fun e => if e.1 = id then (p, e.2) else e) (by simpa using a) fun j q hk => ?_
  have hj : j ≠ id ∧ MN L1 j q := by
    rcases hk with ⟨rfl, e⟩ | ⟨t, x, e, f⟩
    · exact ⟨fun a => h0 a.symm, .inl ⟨rfl, by rwa [hr] at e⟩⟩
    · rw [ht] at e
      by_cases g : j = id
      · subst g; rw [Q3] at e; cases e
      · rw [QI g] at e; exact ⟨g, .inr ⟨t, x, e, f⟩⟩
  rcases h.2 j q hj.2 with e | ⟨rfl, e⟩
  · exact List.mem_map.2 ⟨(j, q), b j q e, by rw [if_neg hj.1]⟩
  · exact List.mem_map.2 ⟨(id, q), b id q (hP q e), by rw [if_pos rfl]⟩
theorem TouR.oth {L L1 : LvD} {V V1 : VS} {id i : Int} {t t1 : TrD} {k : KD} {x1 : LfD} (hT : TouR L V id t k L1 V1 t1 x1) (hi : i ≠ id) : L1.tr i = L.tr i := by
  rcases hT with ⟨_, rfl, _, _⟩ | ⟨_, a, _, _, rfl, _⟩
  · rfl
  · exact QI hi
theorem TouR.othK {L L1 L' : LvD} {V V1 : VS} {id : Int} {t t1 : TrD} {k : KD} {x1 y : LfD} (hT : TouR L V id t k L1 V1 t1 x1) (ht : L.tr id = some t) (hp : L'.pres = L1.pres) (hT' : L'.tr = Xj L1.tr id (some { t1 with lv := Xj t1.lv k (some y) })) : OthK L L' id (fun q => q = k) := by
  refine ⟨fun i hi => by rw [hT', QI hi, hT.oth hi], fun j q hk => ?_⟩
  have hpr : L1.pres = L.pres := by
    rcases hT with ⟨_, rfl, _, _⟩ | ⟨_, a, _, _, rfl, _⟩
    · rfl
    · rfl
  have hlv : ∀ q, q ≠ k → t1.lv q = t.lv q := fun q hq => by
    rcases hT with ⟨_, _, _, rfl⟩ | ⟨_, a, _, rfl, _, _⟩
    · rfl
    · exact QI hq
  by_cases e : j = id
  · subst e
    by_cases e2 : q = k
    · exact .inr ⟨rfl, e2⟩
    · left
      rcases hk with ⟨e3, e4⟩ | ⟨u, x, e3, e4⟩
      · exact .inl ⟨e3, by rwa [hp, hpr] at e4⟩
      · rw [hT', Q3] at e3
        cases e3
        dsimp only at e4
        rw [QI e2, hlv q e2] at e4
        exact .inr ⟨t, x, ht, e4⟩
  · left
    rcases hk with ⟨e3, e4⟩ | ⟨u, x, e3, e4⟩
    · exact .inl ⟨e3, by rwa [hp, hpr] at e4⟩
    · rw [hT', QI e, hT.oth e] at e3
      exact .inr ⟨u, x, e3, e4⟩
theorem Px {L : LvD} {k : KD} {s : Int} {f : Int → Bool} : OthK L { L with pres := XZ L.pres k s, sh := f } 0 (fun q => q = k) := by
  refine ⟨fun _ _ => rfl, fun j q hk => ?_⟩
  rcases hk with ⟨e, h⟩ | h
  · by_cases e2 : q = k
    · exact .inr ⟨e, e2⟩
    · simp only [XZ, if_neg e2] at h
      exact .inl (.inl ⟨e, h⟩)
  · exact .inl (.inr h)
theorem Tx {L L' : LvD} {p : Int} {P : KD → Prop} (hp : ∀ q, L'.pres q ≠ 0 → L.pres q ≠ 0) (hT : L'.tr = L.tr) : OthK L L' p P :=
  ⟨fun i _ => by rw [hT], fun j q hk => .inl (hk.imp (fun a => ⟨a.1, hp q a.2⟩) (fun ⟨t, x, a, b⟩ => ⟨t, x, by rwa [hT] at a, b⟩))⟩
theorem Tw {L L' : LvD} {id : Int} {t t' : TrD} {P : KD → Prop} (ht : L.tr id = some t) (hp : L'.pres = L.pres) (hT : L'.tr = Xj L.tr id (some t')) (hg : ∀ k x, t'.lv k = some x → t.lv k ≠ none) : OthK L L' id P := by
  refine ⟨fun i hi => by rw [hT, QI hi], fun j q hk => .inl ?_⟩
  rcases hk with ⟨e, h⟩ | ⟨u, x, e, h⟩
  · exact .inl ⟨e, by rwa [hp] at h⟩
  · rw [hT] at e
    by_cases e2 : j = id
    · subst e2
      rw [Q3] at e
      cases e
      cases q2 : t.lv q with
      | none => exact absurd q2 (hg q x h)
      | some y => exact .inr ⟨t, y, ht, q2⟩
    · rw [QI e2] at e; exact .inr ⟨u, x, e, h⟩
end Go.Proofs.YtkcjfoaejijdoaaGreatDoor
/- leaves: set, give, replace -/
namespace Go.Proofs.YtkcjfoaejijdoaaGreatDoor
open Go.RowKit M
set_option linter.unusedVariables false
section
variable {ex : Int → Int} {L L1 L' : LvD} {V V1 V' : VS} {id : Int} {t t1 t' : TrD} {k : KD} {x y x1 : LfD} {m Fr : Nat} {s a : Int}
theorem TouR.pg (hT : TouR L V id t k L1 V1 t1 x1) (j : Int) : XM V1 j = XM V j := by
  rcases hT with ⟨_, _, rfl, _⟩ | ⟨_, a, _, _, _, rfl⟩
  · rfl
  · rw [J2, J2]
theorem TouR.pgs (hT : TouR L V id t k L1 V1 t1 x1) : Pgs V V1 := by
  rcases hT with ⟨_, _, rfl, _⟩ | ⟨_, a, _, _, _, rfl⟩
  · exact .refl
  · exact Pgs.ref.trans .ref
theorem Uc (hI : LvX ex m L V) (hx : NN ex) (hs : s ≠ 0 → 1 ≤ ex s) (f : Int → Bool) :
    StepX ex m L V (fun j => ex j - dl s j) m 0 1 { L with pres := XZ L.pres k s, sh := f } (Zg V (L.pres k)) ∧ Q5 { L with pres := XZ L.pres k s, sh := f } (Zg V (L.pres k)) = { Q5 L V with pres := HW (Q5 L V).pres k (XM V s) } := by
  obtain ⟨h1, h2⟩ := setX (L' := { L with pres := XZ L.pres k s, sh := f }) hI hx hs rfl rfl
  refine ⟨⟨h1, rfl, fun c q => q.unr.mono (by omega), fun c q => q.add 0 k (fun j hj => ?_) fun j u q y hj hq => .inl ⟨u, y, hj, hq⟩, Pgs.unr hI.zero⟩, h2⟩
  by_cases e : j = k
  · right; rw [e]
  · simp only [XZ, if_neg e] at hj; exact .inl hj
theorem Bu (hT : TouR L V id t k L1 V1 t1 x1) (ht : L.tr id = some t) (hI : LvX ex m L V) (hx : NN ex) (hs : s ≠ 0 → 1 ≤ ex s) {wr : BitVec 64} (f : Int → Bool)
    (hg : NR { Zb (Q5 L V) id k with own := XM V s, wr := (Zb (Q5 L V) id k).wr ||| wr }) :
    StepX ex m L V (fun j => ex j - dl s j) m 0 1 (Zj { L1 with sh := f } id t1 k { x1 with own := s, wr := x1.wr ||| wr }) (Zg V1 x1.own) ∧
    Q5 (Zj { L1 with sh := f } id t1 k { x1 with own := s, wr := x1.wr ||| wr }) (Zg V1 x1.own) = Zt (Q5 L V) id k { Zb (Q5 L V) id k with own := XM V s, wr := (Zb (Q5 L V) id k).wr ||| wr } := by
  obtain ⟨h1, h2, h3, h4, h5⟩ := hT.invX ht hI hx
  obtain ⟨h6, h7⟩ := h1.same (L' := { L1 with sh := f }) rfl rfl
  have e : { ZG V1 x1 with own := XM V1 s, rd := x1.rd, wr := x1.wr ||| wr } = { Zb (Q5 L V) id k with own := XM V s, wr := (Zb (Q5 L V) id k).wr ||| wr } := by
    rw [hT.pg, ← h2]; rfl
  obtain ⟨h8, h9⟩ := ownX (L' := Zj { L1 with sh := f } id t1 k { x1 with own := s, wr := x1.wr ||| wr }) (y := { x1 with own := s, wr := x1.wr ||| wr }) h6 hx hs (hT.tr ht) hT.lv rfl rfl rfl rfl (by rw [e]; exact hg)
  refine ⟨⟨h8, hT.sp, fun c q => (h4 c q).unr.mono (by omega), fun c q => (hT.sz ht q).putOld (hT.tr ht) hT.lv rfl rfl, hT.pgs.trans (Pgs.unr h1.zero)⟩, ?_⟩
  rw [h9, h7, h3, Ue, e]
/-- a leaf as a whole -/
def ML (x : LfA) (c : Bs) : LfA := { x with own := c, wr := BitVec.allOnes 64 }
theorem allX_ag {x : LfA} {c : Bs} : NR (ML x c) := fun j hj h => by
  rw [show (ML x c).wr = BitVec.allOnes 64 from rfl, BitVec.getLsbD_allOnes] at h
  simp [hj] at h
theorem Nr (hI : LvX ex m L V) (hx : NN ex) (ha : XH V s) (ht : L.tr id = some t) (hl : t.lv k = some x) (f : Int → Bool) :
    StepX ex m L V ex m 0 0 (Zj { L with sh := f } id t k { x with own := s, wr := BitVec.allOnes 64 }) (Zg (refW V s) x.own) ∧
    Q5 (Zj { L with sh := f } id t k { x with own := s, wr := BitVec.allOnes 64 }) (Zg (refW V s) x.own) = Zt (Q5 L V) id k (ML (ZG V x) (XM V s)) := by
  obtain ⟨h1, h2⟩ := hI.refW ha
  obtain ⟨h6, h7⟩ := h1.same (L' := { L with sh := f }) rfl rfl
  have nn : NN (fun j => ex j + dl s j) := fun j hj => by
    show 0 ≤ ex j + dl s j
    have := hx j hj
    by_cases e : j = s
    · subst e; rw [ZE]; omega
    · rw [W2 e]; omega
  have e : ({ ZG (refW V s) x with own := XM (refW V s) s, rd := x.rd, wr := BitVec.allOnes 64 } : LfA) = ML (ZG V x) (XM V s) := by
    simp only [ZG, J2]; rfl
  obtain ⟨h8, h9⟩ := ownX (L' := Zj { L with sh := f } id t k { x with own := s, wr := BitVec.allOnes 64 }) (y := { x with own := s, wr := BitVec.allOnes 64 }) h6 nn (fun h0 => by show 1 ≤ ex s + dl s s; rw [ZE]; have := hx s h0; omega) ht hl rfl rfl rfl rfl (by rw [e]; exact allX_ag)
  refine ⟨⟨h8.ext fun j _ => (by show ex j = ex j + dl s j - dl s j; omega), rfl, fun c q => q.refW.unr.mono (by omega), fun c q => q.putOld ht hl rfl rfl, Pgs.ref.trans (Pgs.unr h1.zero)⟩, ?_⟩
  rw [h9, h7, h2, e]
theorem Vj (hI : LvX ex m L V) (hx : NN ex) (ha : XH V s) (f : Int → Bool) :
    StepX ex m L V ex m 0 1 { L with pres := XZ L.pres k s, sh := f } (Zg (refW V s) (L.pres k)) ∧ Q5 { L with pres := XZ L.pres k s, sh := f } (Zg (refW V s) (L.pres k)) = { Q5 L V with pres := HW (Q5 L V).pres k (XM V s) } := by
  obtain ⟨h1, h2⟩ := hI.refW ha
  have nn : NN (fun j => ex j + dl s j) := fun j hj => by
    show 0 ≤ ex j + dl s j
    have := hx j hj
    by_cases e : j = s
    · subst e; rw [ZE]; omega
    · rw [W2 e]; omega
  obtain ⟨h3, h4⟩ := Uc (k := k) h1 nn (fun h0 => by show 1 ≤ ex s + dl s s; rw [ZE]; have := hx s h0; omega) f
  refine ⟨⟨h3.inv.ext fun j _ => (by show ex j = ex j + dl s j - dl s j; omega), rfl, fun c q => (h3.al c q.refW), h3.sz, Pgs.ref.trans h3.pg⟩, ?_⟩
  rw [h4, h2, J2]
end
theorem BH {w : World} {b n Fr : Nat} {L : LvD} {V : VS} {F : Th} (hS : Sat w [ZV b L, Zv L.sp n Fr V, F]) (hn : n ≤ 650000000) (k : KD) (s : Int) : Calls Tryz.prog 72 #[ptrV b 0, Xu k, intV s] w (Ret fun v w' => v = .tuple #[] ∧ Sat w' [ZV b { L with pres := XZ L.pres k s, sh := Jt V L.sh (L.pres k) }, Zv L.sp (n + 1) Fr (Zg V (L.pres k)), F]) := by
  have h1 := XQ hS
  refine (Pw (h1.split [0, 1, 4, 5] [true, true, false, false, true, true, false] rfl) (by omega) k s).mono fun e w h => h.mono fun v w h => ?_
  obtain ⟨rfl, h⟩ := h
  have h2 := h.join rfl
  exact ⟨rfl, QY (L := { L with pres := XZ L.pres k s, sh := Jt V L.sh (L.pres k) }) (h2.reorder [0, 1, 4, 5, 2, 3, 6] rfl)⟩
set_option maxRecDepth 100000 in
theorem Sh {w : World} {ex : Int → Int} {m : Nat} {b n Fr : Nat} {L : LvD} {V : VS} {F : Th} (hS : Sat w [ZV b L, Zv L.sp n Fr V, F]) (hn : n ≤ 600000000) (hI : LvX ex m L V) (hx : NN ex) {s : Int} (hs : s ≠ 0 → 1 ≤ ex s) (k : KD) (wr : BitVec 64) :
    Calls Tryz.prog 54 #[ptrV b 0, intV 0, Xu k, intV s, XG wr] w (Ret fun v w' => ∃ L' V', StepX ex m L V (fun j => ex j - dl s j) m 0 1 L' V' ∧ Q5 L' V' = { Q5 L V with pres := HW (Q5 L V).pres k (XM V s) } ∧ OthK L L' 0 (fun q => q = k) ∧ Sat w' [ZV b L', Zv L'.sp (n + 4) Fr V', F]) := by
 refine Qt Tryz.func54 rfl Tryz.ntmps54 rfl ?_
 refine Qd (Qa ?_)
 refine Zf hS rfl rfl rfl ?_
 intro kb w1 hS1
 replace hS1 := XR hS1
 refine Qf (Qc (Qd (Qd (Qa (Qb rfl rfl ?_)))))
 refine X2 rfl rfl rfl ?_
 refine Qf (Qc ?_)
 refine Qx rfl (fun h2 => ?_) (fun h2 => ?_)
 ·refine Qd (Qa (Qb rfl rfl ?_))
  refine XX rfl XB Xc (by first | exact hS1.blk 0 rfl) (by exact Nat.le_of_ble_eq_true rfl) rfl rfl ?_
  refine Qb rfl rfl ?_
  have hC3 := hS1.split [1, 2] [false, true, true, false] rfl; dsimp only [QC, Qz, Q9, Q8, Q7] at hC3
  refine Qo Gr rfl (BH hC3 (by omega) k s) rfl ?_
  rintro e w3 ⟨_, rfl, rfl, hS3⟩; refine ⟨_, rfl, ?_⟩
  replace hS3 := hS3.join rfl; dsimp only [QU, QT, Q8, Q7] at hS3; clear hC3
  clear hS1
  refine Qf (Qc ?_)
  refine Qh (L' := [(7, _), (0, _), (1, _), (3, _), (4, _)]) (ZH rfl rfl rfl rfl rfl) ?_
  refine Q0 (Qs ?_)
  refine W4 (.inr rfl) rfl ?_
  exact ⟨_, rfl, _, _, (Uc hI hx hs (Jt V L.sh (L.pres k))).1, (Uc hI hx hs (Jt V L.sh (L.pres k))).2, Px, (Xx (m := n + 4) (by omega) (hS3.pick [1, 0, 3] rfl)).reorder [1, 0, 2] rfl⟩
 exact absurd rfl h2
set_option maxRecDepth 100000 in
set_option maxHeartbeats 800000000 in
theorem Sg {w : World} {ex : Int → Int} {m : Nat} {b n Fr : Nat} {L : LvD} {V : VS} {F : Th} (hS : Sat w [ZV b L, Zv L.sp n Fr V, F]) (hn : n ≤ 600000000) (hI : LvX ex m L V) (hx : NN ex) (hm : m < Z9) {id : Int} {t : TrD} (ht : L.tr id = some t) {s : Int} (hs : s ≠ 0 → 1 ≤ ex s) (k : KD) (wr : BitVec 64) (hg : NR { Zb (Q5 L V) id k with own := XM V s, wr := (Zb (Q5 L V) id k).wr ||| wr }) :
    Calls Tryz.prog 54 #[ptrV b 0, intV id, Xu k, intV s, XG wr] w (Ret fun v w' => ∃ L' V', StepX ex m L V (fun j => ex j - dl s j) m 0 1 L' V' ∧ Q5 L' V' = Zt (Q5 L V) id k { Zb (Q5 L V) id k with own := XM V s, wr := (Zb (Q5 L V) id k).wr ||| wr } ∧ OthK L L' id (fun q => q = k) ∧ Sat w' [ZV b L', Zv L'.sp (n + 4) Fr V', F]) := by
 have h0 : id ≠ 0 := hI.rank.none0 ht
 refine Qt Tryz.func54 rfl Tryz.ntmps54 rfl ?_
 refine Qd (Qa ?_)
 refine Zf hS rfl rfl rfl ?_
 intro kb w1 hS1
 replace hS1 := XR hS1
 refine Qf (Qc (Qd (Qd (Qa (Qb rfl rfl ?_)))))
 refine X2 rfl rfl rfl ?_
 refine Qf (Qc ?_)
 refine Qx rfl (fun h2 => ?_) (fun h2 => ?_)
 ·exact absurd h2 h0
 refine Qy (Qc (Qd (Qa (Qb rfl rfl (Qb rfl rfl ?_)))))
 refine XX rfl XB Xc (by first | exact hS1.blk 0 rfl) (by exact Nat.le_of_ble_eq_true rfl) rfl rfl ?_
 have hC3 := hS1.split [1, 2] [false, true, true, false] rfl; dsimp only [QC, Qz, Q9, Q8, Q7] at hC3
 refine Qo Dg rfl (Vf hC3 (by omega) (hI.rank.ends hm) ht (k := k)) rfl ?_
 rintro e w3 ⟨_, rfl, L1, V1, t1, x1, rfl, hT, hS3⟩; refine ⟨_, rfl, ?_⟩
 replace hS3 := hS3.join rfl; dsimp only [QU, QT, Q8, Q7] at hS3; clear hC3
 clear hS1
 have ht1 := hT.tr ht
 have hx1 := hT.lv
 refine Qe rfl rfl (Qf (Qc ?_))
 refine Qh (L' := [(10, _), (0, _), (3, _), (4, _)]) (Jr rfl rfl rfl rfl) ?_
 refine Qd ?_
 have hS4 := JO ht1 hx1 (hS3.pick [0, 1, 2, 3] rfl)
 refine Qa (Qb rfl rfl (Qb rfl rfl (Qj rfl rfl ?_)))
 refine Qg rfl WE rfl ?_
 refine Qu rfl QW (by exact hS4.cell 0 rfl rfl) rfl ?_
 have hC5 := hS4.split [6, 9, 10] [false, false, false, false, false, false, true, false, false, true, true, false, false] rfl; dsimp only [QC, Qz, Q9, Q8, Q7] at hC5
 refine Qo Hu rfl (Hi hC5 (by omega) x1.own) rfl ?_
 rintro e w5 ⟨_, rfl, rfl, hS5⟩; refine ⟨_, rfl, ?_⟩
 replace hS5 := hS5.join rfl; dsimp only [QU, QT, Q8, Q7] at hS5; clear hC5
 clear hS4
 refine Qf (Qc (Qd (Qa (Qb rfl rfl (Qb rfl rfl (Qj rfl rfl ?_))))))
 refine Qg rfl WE rfl ?_
 refine Xb hS5 rfl rfl YM rfl (i := 3) rfl (by exact Nat.le_of_ble_eq_true rfl) ?_
 intro w6 hS6; dsimp only [List.set] at hS6
 clear hS5
 refine Qf (Qc ?_)
 refine Qh (L' := [(10, _), (4, _)]) (H0 rfl rfl) ?_
 refine Qa (Qb rfl rfl (Qj rfl rfl ?_))
 refine Qg rfl Wn rfl ?_
 refine Qu rfl JB (by exact hS6.cell 3 rfl rfl) rfl ?_
 refine Qb rfl rfl ?_
 refine wl_or64 rfl rfl rfl ?_
 refine Qj rfl rfl ?_
 refine Qg rfl Wn rfl ?_
 refine Xb hS6 rfl rfl GZ rfl (i := 3) rfl (by exact Nat.le_of_ble_eq_true rfl) ?_
 intro w7 hS7; dsimp only [List.set] at hS7
 clear hS6
 refine Qf ?_
 refine W4 (.inl rfl) rfl ?_
 have hS8 := WD (L := { L1 with sh := Jt V1 L1.sh x1.own }) (y := { x1 with own := s, wr := x1.wr ||| wr }) ht1 hx1 rfl (hS7.pick [3, 4, 5, 6, 7, 8, 0, 9, 10, 1, 2, 11, 12] rfl)
 exact ⟨_, rfl, _, _, (Bu hT ht hI hx hs (Jt V1 L1.sh x1.own) hg).1, (Bu hT ht hI hx hs (Jt V1 L1.sh x1.own) hg).2, hT.othK ht rfl rfl, (Xx (m := n + 4) (by omega) (hS8.pick [1, 0, 3] rfl)).reorder [1, 0, 2] rfl⟩
set_option maxRecDepth 100000 in
theorem DQ {w : World} {ex : Int → Int} {m : Nat} {b n Fr : Nat} {L : LvD} {V : VS} {F : Th} (hS : Sat w [ZV b L, Zv L.sp n Fr V, F]) (hn : n ≤ 600000000) (hI : LvX ex m L V) (hx : NN ex) {s : Int} (ha : XH V s) (k : KD) :
    Calls Tryz.prog 103 #[ptrV b 0, intV 0, Xu k, intV s] w (Ret fun v w' => ∃ L' V', StepX ex m L V ex m 0 1 L' V' ∧ Q5 L' V' = { Q5 L V with pres := HW (Q5 L V).pres k (XM V s) } ∧ L'.pres = XZ L.pres k s ∧ Sat w' [ZV b L', Zv L'.sp (n + 4) Fr V', F]) := by
 refine Qt Tryz.func103 rfl Tryz.ntmps103 rfl ?_
 refine Qd (Qa ?_)
 refine Zf hS rfl rfl rfl ?_
 intro kb w1 hS1
 replace hS1 := XR hS1
 refine Qf (Qc (Qd (Qd (Qa (Qb rfl rfl ?_)))))
 refine X2 rfl rfl rfl ?_
 refine Qf (Qc ?_)
 refine Qx rfl (fun h2 => ?_) (fun h2 => ?_)
 ·refine Qd ?_
  have hS3 := XQ (hS1.pick [1, 0, 2, 3] rfl)
  refine Qa (Qb rfl rfl (Qb rfl rfl ?_))
  have hC4 := hS3.split [0, 4, 6] [true, false, false, false, true, false, true, false] rfl; dsimp only [QC, Qz, Q9, Q8, Q7] at hC4
  refine Qo Gs rfl (DR hC4 (by omega) s) rfl ?_
  rintro e w4 ⟨_, rfl, rfl, hS4⟩; refine ⟨_, rfl, ?_⟩
  replace hS4 := hS4.join rfl; dsimp only [QU, QT, Q8, Q7] at hS4; clear hC4
  clear hS3
  refine Qf (Qc (Qd ?_))
  have hS5 := QY (L := { L with sh := Jx L.sh s }) (hS4.pick [0, 3, 4, 5, 1, 2, 6, 7] rfl)
  refine Qa (Qb rfl rfl ?_)
  refine XX rfl XB Xc (by first | exact hS5.blk 2 rfl) (by exact Nat.le_of_ble_eq_true rfl) rfl rfl ?_
  refine Qb rfl rfl ?_
  have hC6 := hS5.split [0, 1] [true, true, false, false] rfl; dsimp only [QC, Qz, Q9, Q8, Q7] at hC6
  refine Qo Gr rfl (BH (L := { L with sh := Jx L.sh s }) hC6 (by omega) k s) rfl ?_
  rintro e w6 ⟨_, rfl, rfl, hS6⟩; refine ⟨_, rfl, ?_⟩
  replace hS6 := hS6.join rfl; dsimp only [QU, QT, Q8, Q7] at hS6; clear hC6
  clear hS5
  refine Qf (Qc ?_)
  refine Qh (L' := [(6, _), (0, _), (1, _), (3, _)]) (Jr rfl rfl rfl rfl) ?_
  refine Q0 (Qs ?_)
  refine W4 (.inr rfl) rfl ?_
  exact ⟨_, rfl, _, _, (Vj hI hx ha _).1, (Vj hI hx ha _).2, rfl, (Xx (m := n + 4) (by omega) (hS6.pick [1, 0, 3] rfl)).reorder [1, 0, 2] rfl⟩
 exact absurd rfl h2
end Go.Proofs.YtkcjfoaejijdoaaGreatDoor
