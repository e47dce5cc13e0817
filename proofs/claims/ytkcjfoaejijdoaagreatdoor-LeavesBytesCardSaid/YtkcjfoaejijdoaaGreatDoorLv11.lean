/- leaves: sees with a hole -/
import Derived.Test.YtkcjfoaejijdoaaGreatDoorLv9
import Derived.Shelf.Spec.TrailingZeros
namespace Go.Proofs.YtkcjfoaejijdoaaGreatDoor
open Go.RowKit M
set_option linter.unusedVariables false
theorem M2 (x : BitVec 64) (h : x ≠ 0#64) : Lib.ctz 64 x.toNat < 64 ∧ ∀ j, j < 64 → ((x &&& (x - 1#64)).getLsbD j = (x.getLsbD j && decide (j ≠ Lib.ctz 64 x.toNat))) ∧ x.getLsbD (Lib.ctz 64 x.toNat) = true := by
  have h0 : x.toNat ≠ 0 := fun q => h (BitVec.eq_of_toNat_eq (by simpa using q))
  obtain ⟨m, hm, hk⟩ := Lib.ctzFrom_spec 64 x.toNat (by omega) x.isLt
  have e : Lib.ctz 64 x.toNat = Lib.ctzFrom 64 x.toNat := by simp [Lib.ctz, h0]
  rw [← e] at hm hk
  generalize Lib.ctz 64 x.toNat = k at hm hk
  have hx1 : (x - 1#64).toNat = x.toNat - 1 := by
    rw [BitVec.toNat_sub]; have := x.isLt; simp; omega
  have hp : 0 < 2 ^ k := Nat.two_pow_pos k
  have hbit : ∀ j, x.getLsbD j = x.toNat.testBit j := fun j => by rw [← BitVec.testBit_toNat]
  have hbit1 : ∀ j, (x - 1#64).getLsbD j = (x.toNat - 1).testBit j := fun j => by rw [← BitVec.testBit_toNat, hx1]
  have q1 : x.toNat = 2 ^ k * (2 * m) + 2 ^ k := by rw [hm]; rw [Nat.mul_add]; simp
  have q2 : x.toNat - 1 = 2 ^ k * (2 * m) + (2 ^ k - 1) := by omega
  refine ⟨hk, fun j hj => ⟨?_, ?_⟩⟩
  · rw [BitVec.getLsbD_and, hbit, hbit1]
    rcases Nat.lt_trichotomy j k with hjk | rfl | hjk
    · have a : x.toNat.testBit j = false := by
        rw [hm, Nat.testBit_two_pow_mul]; simp; omega
      simp [a]
    · have b : (x.toNat - 1).testBit j = false := by
        rw [q2, Nat.testBit_two_pow_mul_add _ (by omega)]; simp
      simp [b]
    · have b : (x.toNat - 1).testBit j = x.toNat.testBit j := by
        rw [q2, hm, Nat.testBit_two_pow_mul_add _ (by omega), Nat.testBit_two_pow_mul]
        have h3 : ¬ j < k := by omega
        have h4 : j ≥ k := by omega
        simp only [h3, if_false, h4, decide_true, Bool.true_and]
        obtain ⟨i, hi⟩ : ∃ i, j - k = i + 1 := ⟨j - k - 1, by omega⟩
        rw [hi, Nat.testBit_succ, Nat.testBit_succ]
        congr 1; omega
      rw [b]
      have : j ≠ k := by omega
      simp [this]
  · rw [hbit, hm, Nat.testBit_two_pow_mul]; simp
/-- how a chain of parents goes on without a trial -/
theorem RankI.av {T : Int → Option TrD} {m : Nat} (h : RankI T m) (i0 : Int) : ∃ Av : Int → Prop, (∀ t, T i0 = some t → Av t.parent) ∧ ∀ i u, Av i → T i = some u → i ≠ i0 ∧ Av u.parent := by
  obtain ⟨h0, r, a, b⟩ := h
  refine ⟨fun i => T i ≠ none → r i < r i0, fun t ht hp => ?_, fun i u hi hu => ?_⟩
  · rcases b i0 t ht with e | e
    · rw [e] at hp; exact absurd h0 hp
    · exact e.2
  · have h1 : r i < r i0 := hi (by rw [hu]; simp)
    refine ⟨fun e => by rw [e] at h1; omega, fun hp => ?_⟩
    rcases b i u hu with e | e
    · rw [e] at hp; exact absurd h0 hp
    · omega
def GT (w : World) : Prop := TabAt 0 Lib.deBruijn64tab w
/-- what a trial has read of a page is as it was -/
def VK (L : LvD) (V : VS) (t : TrD) (k : KD) (x : LfD) : Prop := ∀ j, j < 64 → x.rd.getLsbD j = true → (XL V x.base)[j]? = (XL V (Xn L t.parent k))[j]?
theorem TP {κ α : Type} {ad : α → Nat} {f : κ → Option α} {k : κ} {v : Value} (h : XU ad f k = some v) : ∃ x, f k = some x ∧ v = ptrV (ad x) 0 := by
  unfold XU at h
  cases q : f k with
  | none => rw [q] at h; cases h
  | some x => rw [q] at h; exact ⟨x, rfl, by simpa using h.symm⟩
theorem tz_sp (x : BitVec 64) (w : World) (hT : GT w) : Calls Tryz.prog 56 #[XF x] w (Ret fun v w' => v = intV (Lib.ctz 64 x.toNat) ∧ w' = w) :=
  (Any7.bits_TrailingZeros64 Tryz.tz64 x.toNat x.isLt w (fun _ => hT)).mono fun e w' ⟨h1, h2⟩ => ⟨_, h1, rfl, h2⟩
set_option maxRecDepth 100000 in
set_option maxHeartbeats 800000000 in
theorem DJ {w : World} {b : Nat} {L : LvD} {i0 : Int} {F : Th} (hS : Sat w [QN b [ptrV L.sp 0, .map (some L.mp), .map (some L.mt), intV L.cur, .map (some L.ms)], QG Xt L.mp (Zn L.pres), QG Xc L.mt (XU TrD.ad L.tr), Zg UV (Xi L.tr i0 none), QG Xc L.ms (Jb L.sh), F]) (hE : ∀ i, JH L.tr Z8 i) {Av : Int → Prop} (hAv : ∀ i u, Av i → L.tr i = some u → i ≠ i0 ∧ Av u.parent) (id : Int) (hA0 : Av id) (k : KD) :
    Calls Tryz.prog 48 #[ptrV b 0, intV id, Xt k] w (Ret fun v w' => v = intV (Xn L id k) ∧ Sat w' [QN b [ptrV L.sp 0, .map (some L.mp), .map (some L.mt), intV L.cur, .map (some L.ms)], QG Xt L.mp (Zn L.pres), QG Xc L.mt (XU TrD.ad L.tr), Zg UV (Xi L.tr i0 none), QG Xc L.ms (Jb L.sh), F]) := by
 refine Qt Tryz.func48 rfl Tryz.ntmps48 rfl ?_
 refine Qd (Qa ?_)
 refine Ze hS rfl rfl rfl ?_
 intro kb w1 hS1
 change Sat w1 [QN kb [strV k.1, intV k.2], _, _, _, _, _, _] at hS1
 refine Qe rfl rfl (Qf (Qc (Qd (Q1 ?_))))
 refine Xv (fun K0 E0 W0 => ∃ (m : Nat) (i : Int), K0 = m + 1 ∧ E0 = [(0, ptrV b 0), (1, intV i), (5, ptrV kb 0)] ∧ Sat W0 [QN kb [strV k.1, intV k.2], QN b [ptrV L.sp 0, .map (some L.mp), .map (some L.mt), intV L.cur, .map (some L.ms)], QG Xt L.mp (Zn L.pres), QG Xc L.mt (XU TrD.ad L.tr), Zg UV (Xi L.tr i0 none), QG Xc L.ms (Jb L.sh), F] ∧ (Xn L id k = WN L (m + 1) i k) ∧ (JH L.tr m i) ∧ (m ≤ Z8) ∧ (Av i)) (L0 := [(0, _), (1, _), (5, _)]) (Z8 + 1) (Y1 rfl rfl rfl) ⟨Z8, id, rfl, rfl, hS1, rfl, hE id, Nat.le_refl _, hA0⟩ ?_
 rintro _ _ w2 ⟨m, i, rfl, rfl, hS2, hse, hen, hm, hav⟩
 refine Qd (Qd (Qa (Qb rfl rfl ?_)))
 refine Xg rfl rfl rfl ?_
 refine Qf (Qc ?_)
 refine Qx rfl (fun h3 => ?_) (fun h3 => ?_)
 ·have hid0 : i ≠ 0 := h3
  refine Qy (Qc (Q1 (Qd (Qa (Qb rfl rfl (Qj rfl rfl ?_))))))
  refine Qg rfl Wy rfl ?_
  refine Qu rfl YC (by exact hS2.cell 1 rfl rfl) rfl ?_
  refine Qb rfl rfl ?_
  refine Zd (k := i) 3 hS2 keysInt Tryz.underlying82 rfl rfl rfl H0 (u := (ptO TrD.ad (L.tr i))) (Uf _) rfl ?_
  refine Qe rfl rfl (Qf (Qc ?_))
  refine Qh (L' := [(7, _), (0, _), (1, _), (5, _)]) (Jq rfl rfl rfl rfl) ?_
  refine Qd (Qd (Qa (Qb rfl rfl ?_)))
  rcases hq_T : L.tr i with _ | t
  ·refine Jd Tryz.underlying94 rfl rfl rfl ?_
   refine Qf (Qc ?_)
   refine XO rfl ?_
   refine Qd (Qa (Qe rfl rfl (Qf (Qc (Q0 (Qs (QC (Qs (QC (Qs ?_))))))))))
   refine QU (.inr rfl) rfl rfl ?_
   exact ⟨_, rfl, by rw [hse, Bc hid0 hq_T], hS2.pick [1, 2, 3, 4, 5, 6] rfl⟩
  refine ZW Tryz.underlying94 rfl rfl rfl ?_
  have hqH : Xi L.tr i0 none i = some t := by rw [QH (hAv _ _ hav hq_T).1]; exact hq_T
  have hS4 := Z4 (hS2.pick [4, 0, 1, 2, 3, 5, 6] rfl) hqH
  refine Qf (Qc ?_)
  refine Xl rfl ?_
  refine Qy (Qc (Qd (Qd ?_)))
  have hS5 := hS4.drew
  refine QJ [0, 1, 2, 3, 4, 5, 6] [] ZS (by kernel_rfl) ?_
  refine Qk rfl rfl rfl (fun _ => (Qr rfl)) ?_
  refine Qk rfl rfl rfl (fun _ => (Qq rfl)) ?_
  refine Qk rfl rfl rfl (fun _ => (Qi rfl ZM)) ?_
  refine QE rfl rfl rfl (Qm rfl Jo (by exact hS5.cell 0 rfl rfl)) ?_
  refine QE rfl rfl rfl (X8 rfl XA Xb (by exact hS5.blk 5 rfl) (by exact Nat.le_of_ble_eq_true rfl) rfl) ?_
  refine QE rfl rfl rfl (Xy (k := k) 1 hS5 keysKey Tryz.underlying90 rfl rfl rfl Hy (u := (ptO LfD.ad (t.lv k))) (Uf _)) ?_
  refine Qk rfl rfl rfl (fun _ => (Q6 rfl)) ?_
  refine VC.nil (Qc ?_)
  refine Qh (L' := [(8, _), (7, _), (0, _), (1, _), (5, _)]) (ZG rfl rfl rfl rfl rfl) ?_
  refine Qd (Qa (Qb rfl rfl ?_))
  rcases hq_X : t.lv k with _ | x
  ·refine Jc Tryz.underlying89 rfl rfl rfl ?_
   refine Qf (Qc ?_)
   refine Xl rfl ?_
   refine Qy (Qc (Qd (Qd ?_)))
   have hS7 := hS5.drew
   refine QJ [0, 1, 2, 3, 4, 5, 6] [] ZS (by kernel_rfl) ?_
   refine Qk rfl rfl rfl (fun _ => (Qr rfl)) ?_
   refine Qk rfl rfl rfl (fun _ => (Qq rfl)) ?_
   refine Qk rfl rfl rfl (fun _ => (Qi rfl Vy)) ?_
   refine QE rfl rfl rfl (Qm rfl B6 (by exact hS7.cell 0 rfl rfl)) ?_
   refine Qk rfl rfl rfl (fun _ => (Qi rfl JP)) ?_
   refine QE rfl rfl rfl (Qm rfl Yy (by exact hS7.cell 5 rfl rfl)) ?_
   refine QE rfl rfl rfl (Xy (k := k.1) 3 hS7 keysStr Tryz.underlying91 rfl rfl rfl zr_4 (u := .bool (t.dr k.1)) (Dr _ _)) ?_
   refine VC.nil (Qc ?_)
   refine Qh (L' := [(37, _), (7, _), (0, _), (1, _), (5, _)]) (ZG rfl rfl rfl rfl rfl) ?_
   refine QQ rfl (fun h8 => ?_) (fun h8 => ?_)
   ·have hdr : t.dr k.1 = true := h8
    refine Qd (Qa (Qe rfl rfl (Qf (Qc (Q0 (Qs (QC (Qs (QC (Qs ?_))))))))))
    refine QU (.inr rfl) rfl rfl ?_
    have hS9 := Z5 hqH (hS7.pick [0, 1, 2, 3, 4, 5, 6, 7, 8, 9, 10] rfl)
    exact ⟨_, rfl, by rw [hse, Be hid0 hq_T hq_X hdr], hS9.pick [2, 3, 4, 0, 5, 6] rfl⟩
   have hdr : t.dr k.1 = false := h8
   refine Qy (Qc (Qa (Qb rfl rfl (Qj rfl rfl ?_))))
   refine Qg rfl J2 rfl ?_
   refine Qu rfl QV (by exact hS7.cell 0 rfl rfl) rfl ?_
   refine Qe rfl rfl (Qf (Qp ?_))
   have hS10 := Z5 hqH (hS7.pick [0, 1, 2, 3, 4, 5, 6, 7, 8, 9, 10] rfl)
   obtain ⟨m2, hm2, hen2⟩ := Ci hen hid0 hq_T
   exact QF (L1 := [(0, _), (1, intV t.parent), (5, _)]) (Y1 rfl rfl rfl) (k1 := m2 + 1) (by omega) ⟨m2, t.parent, rfl, rfl, hS10.pick [1, 2, 3, 4, 0, 5, 6] rfl, by rw [hse, hm2, TM hid0 hq_T hq_X hdr], hen2, by omega, (hAv _ _ hav hq_T).2⟩
  refine YI Tryz.underlying89 rfl rfl rfl ?_
  have hS6 := Yt (hS5.pick [2, 0, 1, 3, 4, 5, 6, 7, 8, 9, 10] rfl) hq_X
  refine Qf (Qc ?_)
  refine XO rfl ?_
  refine Qd (Qa (Qb rfl rfl (Qj rfl rfl ?_)))
  refine Qg rfl WD rfl ?_
  refine Qu rfl QV (by exact hS6.cell 0 rfl rfl) rfl ?_
  refine Qe rfl rfl (Qf (Qc ?_))
  refine Qh (L' := [(6, _), (7, _), (0, _), (1, _), (5, _)]) (ZG rfl rfl rfl rfl rfl) ?_
  refine Q0 (Qs (QC (Qs (QC (Qs ?_)))))
  refine QU (.inr rfl) rfl rfl ?_
  have hS11 := Z6 hq_X (hS6.pick [0, 1, 2, 3, 4, 5, 6, 7, 8, 9, 10, 11] rfl)
  have hS12 := Z5 hqH (hS11.pick [1, 2, 0, 3, 4, 5, 6, 7, 8, 9, 10] rfl)
  exact ⟨_, rfl, by rw [hse, YM hid0 hq_T hq_X], hS12.pick [2, 3, 4, 0, 5, 6] rfl⟩
 have hid0 : i = 0 := Decidable.not_not.1 h3
 refine QY (Qv (Qv (Q4 (Qc (Qd ?_)))))
 have hS13 := hS2.drew
 refine QJ [0, 1, 2, 3, 4, 5, 6] [] ZS (by kernel_rfl) ?_
 refine Qk rfl rfl rfl (fun _ => (Qr rfl)) ?_
 refine Qk rfl rfl rfl (fun _ => (Qq rfl)) ?_
 refine Qk rfl rfl rfl (fun _ => (Qi rfl Un)) ?_
 refine QE rfl rfl rfl (Qm rfl Gx (by exact hS13.cell 1 rfl rfl)) ?_
 refine QE rfl rfl rfl (X8 rfl XA Xb (by exact hS13.blk 0 rfl) (by exact Nat.le_of_ble_eq_true rfl) rfl) ?_
 refine QE rfl rfl rfl (Xy (k := k) 2 hS13 keysKey Tryz.underlying81 rfl rfl rfl Y0 (u := intV (L.pres k)) (Kn _ _)) ?_
 refine Qk rfl rfl rfl (fun _ => (Q6 rfl)) ?_
 refine VC.nil (Qc ?_)
 refine Qh (L' := [(6, _)]) (Hc rfl) ?_
 refine Q0 ?_
 refine QU (.inr rfl) rfl rfl ?_
 exact ⟨_, rfl, by rw [hse, Jv hid0], hS13.pick [1, 2, 3, 4, 5, 6] rfl⟩
end Go.Proofs.YtkcjfoaejijdoaaGreatDoor
/- leaves: Valid -/
namespace Go.Proofs.YtkcjfoaejijdoaaGreatDoor
open Go.RowKit M
set_option linter.unusedVariables false
theorem NM {st s2 rd : BitVec 64} {pa pb : Bs} (hne : st ≠ 0#64) (hsub : ∀ j, j < 64 → st.getLsbD j = true → rd.getLsbD j = true) (hin : ∀ j, j < 64 → rd.getLsbD j = true → st.getLsbD j = true ∨ pa[j]? = pb[j]?) (heq : pa[Lib.ctz 64 st.toNat]? = pb[Lib.ctz 64 st.toNat]?) :
    (∀ j, j < 64 → (st &&& (st - 1#64)).getLsbD j = true → rd.getLsbD j = true) ∧ (∀ j, j < 64 → rd.getLsbD j = true → (st &&& (st - 1#64)).getLsbD j = true ∨ pa[j]? = pb[j]?) ∧ (st &&& (st - 1#64)).toNat < st.toNat := by
  obtain ⟨h1, h2⟩ := M2 st hne
  refine ⟨fun j hj h => ?_, fun j hj h => ?_, ?_⟩
  · rw [(h2 j hj).1, Bool.and_eq_true] at h; exact hsub j hj h.1
  · rcases hin j hj h with q | q
    · by_cases e : j = Lib.ctz 64 st.toNat
      · right; rw [e]; exact heq
      · left; rw [(h2 j hj).1, q]; simp [e]
    · exact .inr q
  · have h0 : st.toNat ≠ 0 := fun q => hne (BitVec.eq_of_toNat_eq (by simpa using q))
    have h3 : (st - 1#64).toNat = st.toNat - 1 := by
      rw [BitVec.toNat_sub]; have := st.isLt; simp; omega
    rw [BitVec.toNat_and, h3]
    have := Nat.and_le_right (n := st.toNat) (m := st.toNat - 1)
    omega
set_option maxRecDepth 100000 in
set_option maxHeartbeats 1600000 in
theorem CI {w : World} {m : Nat} {b n Fr : Nat} {L : LvD} {V : VS} {F : Th} (hS : Sat w [ZU b L, Zu L.sp n Fr V, F]) (hn : n ≤ 600000000) (hI : LvI m L V) (hm : m < Z8) (hG : Ent F GT) {id : Int} {t : TrD} (ht : L.tr id = some t) :
    Calls Tryz.prog 14 #[ptrV b 0, intV id] w (Ret fun v w' => ∃ r : Bool, v = .bool r ∧ (r = true ↔ ∀ k x, t.lv k = some x → VK L V t k x) ∧ Sat w' [ZU b L, Zu L.sp n Fr V, F]) := by
 have h0 : id ≠ 0 := hI.rank.none0 ht
 obtain ⟨Av, hA0, hAv⟩ := hI.rank.av id
 replace hS := XP hS
 refine Qt Tryz.func14 rfl Tryz.ntmps14 rfl ?_
 refine Qd (Qa (Qe rfl rfl (Qf (Qc (Qd (Qd (Qa (Qb rfl rfl ?_))))))))
 refine X1 rfl rfl rfl ?_
 refine Qf (Qc ?_)
 refine Qx rfl (fun h1 => ?_) (fun h1 => ?_)
 ·exact absurd h1 h0
 refine Qy (Qc (Qd (Qa (Qb rfl rfl (Qj rfl rfl ?_)))))
 refine Qg rfl Wy rfl ?_
 refine Qu rfl YC (by exact hS.cell 0 rfl rfl) rfl ?_
 refine Qb rfl rfl ?_
 refine Zd (k := id) 2 hS keysInt Tryz.underlying82 rfl rfl rfl H0 (u := ptrV t.ad 0) (Zr ht) rfl ?_
 refine Qe rfl rfl (Qf (Qc ?_))
 refine Qh (L' := [(5, _), (4, _), (0, _)]) (Y1 rfl rfl rfl) ?_
 refine Qd (Qd (Qa (Qb rfl rfl ?_)))
 refine ZW Tryz.underlying94 rfl rfl rfl ?_
 refine Qf (Qc ?_)
 refine Xl rfl ?_
 refine Qy (Qc (Qd (Qd ?_)))
 have hS2 := Z4 (hS.pick [3, 0, 1, 2, 4, 5, 6] rfl) ht
 refine Qa (Qb rfl rfl (Qj rfl rfl ?_))
 refine Qg rfl ZM rfl ?_
 refine Qu rfl Jo (by exact hS2.cell 0 rfl rfl) rfl ?_
 refine H2 1 hS2 Tryz.underlying90 rfl rfl rfl ?_
 intro RR left0 wR hSR; dsimp only [List.set] at hSR
 clear hS2
 refine Qf (Qc (Q1 ?_))
 refine Xv (fun K0 E0 W0 => ∃ (dn : KD → Prop) (cur : Option KD) (left : Nat), K0 = left ∧ E0 = [(0, ptrV b 0), (4, .bool false), (5, ptrV t.ad 0), (27, ptrV RR 0)] ∧ Sat W0 [QN t.ad [intV t.parent, .map (some t.ml), .map (some t.md)], Yo Xt t.ml RR (XU LfD.ad t.lv) dn cur left, Zg VZ t.lv, QG WL t.md (Jb t.dr), Zg UV (Xi L.tr id none), QN b [ptrV L.sp 0, .map (some L.mp), .map (some L.mt), intV L.cur, .map (some L.ms)], QG Xt L.mp (Zn L.pres), QG Xc L.mt (XU TrD.ad L.tr), QG Xc L.ms (Jb L.sh), Zu L.sp n Fr V, F] ∧ (∀ k x, dn k → t.lv k = some x → VK L V t k x)) (L0 := [(0, _), (4, _), (5, _), (27, _)]) (left0) (Jq rfl rfl rfl rfl) ⟨_, _, _, rfl, rfl, hSR.pick [0, 1, 2, 3, 4, 5, 6, 7, 8, 9, 10] rfl, fun _ _ h => h.elim⟩ ?_
 rintro _ _ w3 ⟨dn, cur, left, rfl, rfl, hS3, hok⟩
 refine Qd (Qa ?_)
 refine Vb 1 hS3 keysKey.inj rfl rfl rfl (fun hdone => ?_) (fun k v left2 wN hleft hgk hnd hSN => ?_)
 ·refine Qw rfl rfl rfl (Qf (Qc (Qd ?_)))
  refine Xl rfl ?_
  refine QY (Qv (Qv (Q4 (Qc (Qd (Qa (Qe rfl rfl (Qf (Qc (Q0 ?_))))))))))
  refine QU (.inr rfl) rfl rfl ?_
  have hz := Yc (hS3.pick [1, 0, 2, 3, 4, 5, 6, 7, 8, 9, 10] rfl)
  have hS4 := Z5 ht (hz.pick [1, 0, 2, 3, 4, 5, 6, 7, 8, 9, 10] rfl)
  exact ⟨_, rfl, true, rfl, ⟨fun _ k x hx => hok k x (hdone _ _ (show XU LfD.ad t.lv k = some (ptrV x.ad 0) by unfold XU; rw [hx]; rfl)) hx, fun _ => rfl⟩, QX (hS4.pick [1, 2, 3, 0, 4, 5, 6] rfl)⟩
 dsimp only [List.set] at hSN
 obtain ⟨x, hx, rfl⟩ := TP hgk
 refine Qw rfl rfl rfl (Qf (Qc (Qd ?_)))
 refine XO rfl ?_
 refine Qy (Qc (Q1 (Qd (Qa ?_))))
 refine H3 1 hSN rfl hgk rfl rfl ?_
 refine Qw rfl rfl rfl (Qw rfl rfl rfl ?_)
 refine Xk hSN Wo rfl rfl ?_
 intro kb wk5 hk5
 clear hSN
 refine QZ hk5 rfl rfl Xb rfl (by rfl) (i := 0) rfl (by decide) ?_
 intro wk6 hk6; dsimp only [List.set] at hk6
 clear hk5
 replace hk6 := XQ (k := k) hk6
 refine Qe rfl rfl (Qf (Qc ?_))
 refine Qh (L' := [(7, _), (6, _), (0, _), (4, _), (5, _), (27, _)]) (We rfl rfl rfl rfl rfl rfl) ?_
 refine Qd ?_
 have hS7 := Yt (hk6.pick [3, 0, 1, 2, 4, 5, 6, 7, 8, 9, 10, 11] rfl) hx
 have hS8 := hS7.drew
 refine QJ [0, 1, 2, 3, 4, 5, 6, 7] [6] ZS (by kernel_rfl) ?_
 refine Qk rfl rfl rfl (fun _ => (Qr rfl)) ?_
 refine Qk rfl rfl rfl (fun _ => (Qr rfl)) ?_
 refine Qk rfl rfl rfl (fun _ => (Qq rfl)) ?_
 refine Qk rfl rfl rfl (fun _ => (Qi rfl J2)) ?_
 refine QE rfl rfl rfl (Qm rfl QV (by exact hS8.cell 3 rfl rfl)) ?_
 refine QE rfl rfl rfl (X8 rfl XA Xb (by exact hS8.blk 2 rfl) (by exact Nat.le_of_ble_eq_true rfl) rfl) ?_
 refine Xm rfl rfl rfl rfl rfl rfl ?_
 have hC9 := hS8.split [7, 8, 9, 6, 10] [false, false, false, false, false, false, true, true, true, true, true, false, false] rfl; dsimp only [Q9, Qz, Q8, cap, Q7] at hC9
 refine Qo Hs rfl (DJ (i0 := id) hC9 (hI.rank.ends hm) hAv t.parent (hA0 t ht) k) rfl ?_
 rintro e w9 ⟨_, rfl, rfl, hS9⟩; refine ⟨_, rfl, ?_⟩
 replace hS9 := hS9.join rfl; dsimp only [QT, QS, cap, Q7] at hS9; clear hC9
 clear hS8
 refine XI (.skip (by kernel_rfl) (.skip (by kernel_rfl) .nil)) ?_
 refine Qk rfl rfl rfl (fun _ => (Q6 rfl)) ?_
 refine VC.nil (Qc ?_)
 refine Qh (L' := [(8, _), (7, _), (0, _), (4, _), (5, _), (27, _)]) (We rfl rfl rfl rfl rfl rfl) ?_
 refine Qd (Qd (Qa (Qb rfl rfl (Qj rfl rfl ?_))))
 refine Qg rfl Y9 rfl ?_
 refine Qu rfl JA (by exact hS9.cell 5 rfl rfl) rfl ?_
 refine X1 rfl rfl rfl ?_
 refine Qb rfl rfl ?_
 refine Xj 45 rfl (fun h10 => ?_) (fun h10 => ?_)
 ·have hrd0 : x.rd = 0#64 := BitVec.eq_of_toNat_eq (by simpa using h10)
  refine Ql rfl rfl (decide_eq_true h10) rfl ?_
  refine Ql rfl rfl (decide_eq_true h10) rfl ?_
  refine Ql rfl rfl (decide_eq_true h10) rfl ?_
  refine Ql rfl rfl (decide_eq_true h10) rfl ?_
  refine Ql rfl rfl (decide_eq_true h10) rfl ?_
  refine Ql rfl rfl (decide_eq_true h10) rfl ?_
  refine Xf rfl (decide_eq_true h10) rfl rfl ?_
  refine Qf (Qc ?_)
  refine Qh (L' := [(52, _), (8, _), (7, _), (0, _), (4, _), (5, _), (27, _)]) (WJ rfl rfl rfl rfl rfl rfl rfl) ?_
  refine XO rfl ?_
  refine QY (Qv (Q4 ?_))
  have hvk : VK L V t k x := fun j hj h => (by (rw [hrd0] at h; simp at h))
  have hS11 := Z6 hx (hS9.pick [5, 6, 0, 1, 2, 3, 4, 7, 8, 9, 10, 11, 12] rfl)
  exact QF (L1 := [(0, _), (4, _), (5, _), (27, _)]) (Jq rfl rfl rfl rfl) (k1 := left2) (by omega) ⟨_, _, _, rfl, rfl, hS11.pick [7, 8, 0, 9, 4, 1, 2, 3, 5, 10, 11] rfl, fun q y hq hy => hq.elim (fun h => hok q y h hy) (fun h => by subst h; rw [hx] at hy; cases hy; exact hvk)⟩
 refine Qn rfl rfl (decide_eq_false h10) ?_
 refine Qb rfl rfl ?_
 refine Qn rfl rfl (decide_eq_false h10) ?_
 refine Qb rfl rfl ?_
 refine Qn rfl rfl (decide_eq_false h10) ?_
 refine Qj rfl rfl ?_
 refine Qn rfl rfl (decide_eq_false h10) ?_
 refine Qg rfl Rj rfl ?_
 refine Qn rfl rfl (decide_eq_false h10) ?_
 refine Qu rfl QV (by exact hS9.cell 5 rfl rfl) rfl ?_
 refine Qn rfl rfl (decide_eq_false h10) ?_
 refine X1 rfl rfl rfl ?_
 refine QW rfl (decide_eq_false h10) rfl rfl ?_
 refine Qf (Qc ?_)
 refine Qh (L' := [(52, _), (8, _), (7, _), (0, _), (4, _), (5, _), (27, _)]) (WJ rfl rfl rfl rfl rfl rfl rfl) ?_
 refine Qx rfl (fun h12 => ?_) (fun h12 => ?_)
 ·have hnb : Xn L t.parent k = x.base := h12
  refine QY (Qv (Q4 ?_))
  have hvk : VK L V t k x := fun j hj h => (by rw [hnb])
  have hS13 := Z6 hx (hS9.pick [5, 6, 0, 1, 2, 3, 4, 7, 8, 9, 10, 11, 12] rfl)
  exact QF (L1 := [(0, _), (4, _), (5, _), (27, _)]) (Jq rfl rfl rfl rfl) (k1 := left2) (by omega) ⟨_, _, _, rfl, rfl, hS13.pick [7, 8, 0, 9, 4, 1, 2, 3, 5, 10, 11] rfl, fun q y hq hy => hq.elim (fun h => hok q y h hy) (fun h => by subst h; rw [hx] at hy; cases hy; exact hvk)⟩
 refine Qy (Qc (Qd ?_))
 have hS14 := hS9.drew
 refine QJ [0, 1, 2, 3, 4, 5, 6, 7, 9, 10, 11, 12, 13, 8, 14, 15, 16] [8, 14] ZS (by kernel_rfl) ?_
 refine Qk rfl rfl rfl (fun _ => (Qr rfl)) ?_
 refine Qk rfl rfl rfl (fun _ => (Qq rfl)) ?_
 refine Qk rfl rfl rfl (fun _ => (Qi rfl XJ)) ?_
 refine QE rfl rfl rfl (Qm rfl Xd (by exact hS14.cell 0 rfl rfl)) ?_
 refine Qk rfl rfl rfl (fun _ => (Qr rfl)) ?_
 refine Qk rfl rfl rfl (fun _ => (Qq rfl)) ?_
 refine Qk rfl rfl rfl (fun _ => (Qi rfl Rj)) ?_
 refine QE rfl rfl rfl (Qm rfl QV (by exact hS14.cell 5 rfl rfl)) ?_
 refine Qk rfl rfl rfl (fun _ => (Qr rfl)) ?_
 refine Qk rfl rfl rfl (fun _ => (Qq rfl)) ?_
 refine Qk rfl rfl rfl (fun _ => (Qi rfl XJ)) ?_
 refine QE rfl rfl rfl (Qm rfl Xd (by exact hS14.cell 0 rfl rfl)) ?_
 refine Qk rfl rfl rfl (fun _ => (Qr rfl)) ?_
 refine Xm rfl rfl rfl rfl rfl rfl ?_
 have hC15 := hS14.split [11] [false, false, false, false, false, false, false, false, false, false, false, true, false] rfl; dsimp only [Q9, Qz, Q8, cap, Q7] at hC15
 refine Qo Jy rfl (YF hC15 (x.base)) rfl ?_
 rintro e w15 ⟨_, rfl, rfl, hS15⟩; refine ⟨_, rfl, ?_⟩
 replace hS15 := hS15.join rfl; dsimp only [QT, QS, cap, Q7] at hS15; clear hC15
 clear hS14
 refine XI (.cons (.inl ⟨rfl, (Qm rfl Xd (by exact hS15.cell 1 rfl rfl))⟩) (.skip (by kernel_rfl) (.skip (by kernel_rfl) .nil))) ?_
 refine Xm rfl rfl rfl rfl rfl rfl ?_
 have hC16 := hS15.split [0] [true, false, false, false, false, false, false, false, false, false, false, false, false] rfl; dsimp only [Q9, Qz, Q8, cap, Q7] at hC16
 refine Qo Jy rfl (YF hC16 (Xn L t.parent k)) rfl ?_
 rintro e w16 ⟨_, rfl, rfl, hS16⟩; refine ⟨_, rfl, ?_⟩
 replace hS16 := hS16.join rfl; dsimp only [QT, QS, cap, Q7] at hS16; clear hC16
 clear hS15
 refine XI (.skip (by kernel_rfl) (.skip (by kernel_rfl) (.skip (by kernel_rfl) .nil))) ?_
 refine Qk rfl rfl rfl (fun _ => (Q6 rfl)) ?_
 refine Qk rfl rfl rfl (fun _ => (Q6 rfl)) ?_
 refine VC.nil (Qc ?_)
 refine Qh (L' := [(10, _), (9, _), (7, _), (0, _), (4, _), (5, _), (27, _)]) (WJ rfl rfl rfl rfl rfl rfl rfl) ?_
 refine Qd ?_
 have hlb := hI.len (s := x.base) (by have := hI.alive (.inr (id, k, false)); rwa [X2 ht hx] at this)
 have hln := hI.len (hI.aliveS t.parent k)
 refine Qa (Qb rfl rfl (Qj rfl rfl ?_))
 refine Qg rfl Y9 rfl ?_
 refine Qu rfl JA (by exact hS16.cell 6 rfl rfl) rfl ?_
 refine Qe rfl rfl (Qf (Qc ?_))
 refine Qh (L' := [(11, _), (10, _), (9, _), (0, _), (4, _), (5, _), (27, _)]) (WJ rfl rfl rfl rfl rfl rfl rfl) ?_
 refine Q1 ?_
 refine Xv (fun K0 E0 W0 => ∃ (st : BitVec 64), K0 = st.toNat ∧ E0 = [(0, ptrV b 0), (4, .bool false), (5, ptrV t.ad 0), (27, ptrV RR 0), (9, strV (XL V x.base)), (10, strV (XL V (Xn L t.parent k))), (11, XF st)] ∧ Sat W0 [QN x.ad [intV x.base, intV x.own, XF x.rd, XF x.wr], Zg VZ (Xi t.lv k none), QN kb [strV k.1, intV k.2], QN t.ad [intV t.parent, .map (some t.ml), .map (some t.md)], Yo Xt t.ml RR (XU LfD.ad t.lv) (fun j => dn j ∨ j = k) (some k) left2, QG WL t.md (Jb t.dr), Zg UV (Xi L.tr id none), QN b [ptrV L.sp 0, .map (some L.mp), .map (some L.mt), intV L.cur, .map (some L.ms)], QG Xt L.mp (Zn L.pres), QG Xc L.mt (XU TrD.ad L.tr), QG Xc L.ms (Jb L.sh), Zu L.sp n Fr V, F] ∧ (∀ j, j < 64 → st.getLsbD j = true → x.rd.getLsbD j = true) ∧ (∀ j, j < 64 → x.rd.getLsbD j = true → st.getLsbD j = true ∨ (XL V x.base)[j]? = (XL V (Xn L t.parent k))[j]?)) (L0 := [(0, _), (4, _), (5, _), (27, _), (9, _), (10, _), (11, _)]) (x.rd.toNat) (WJ rfl rfl rfl rfl rfl rfl rfl) ⟨x.rd, rfl, rfl, hS16.pick [6, 7, 8, 9, 10, 11, 4, 1, 2, 3, 5, 0, 12] rfl, fun _ _ h => h, fun _ _ h => .inl h⟩ ?_
 rintro _ _ w17 ⟨st, rfl, rfl, hS17, hsub, hin⟩
 refine Qd (Qd (Qa (Qb rfl rfl ?_)))
 refine Xg rfl rfl rfl ?_
 refine Qf (Qc ?_)
 refine Qx rfl (fun h18 => ?_) (fun h18 => ?_)
 ·have hne : st ≠ 0#64 := fun q => by subst q; exact absurd h18 (by decide)
  refine Qy (Qc (Qd (Q1 (Qd (Qa (Qb rfl rfl ?_))))))
  refine Qo cal_56 rfl (tz_sp st _ (hG.sat hS17 12 rfl)) rfl ?_
  rintro e _ ⟨_, rfl, rfl, rfl⟩; refine ⟨_, rfl, ?_⟩
  have hcz := M2 st hne
  have hci := hcz.1
  obtain ⟨ca, hca⟩ : ∃ ca, (XL V x.base)[Lib.ctz 64 st.toNat]? = some ca := ⟨_, List.getElem?_eq_getElem (by rw [hlb]; omega)⟩
  obtain ⟨cb, hcb⟩ : ∃ cb, (XL V (Xn L t.parent k))[Lib.ctz 64 st.toNat]? = some cb := ⟨_, List.getElem?_eq_getElem (by rw [hln]; omega)⟩
  refine Qe rfl rfl (Qf (Qc ?_))
  refine Qh (L' := [(12, _), (0, _), (4, _), (5, _), (27, _), (9, _), (10, _), (11, _)]) (WR rfl rfl rfl rfl rfl rfl rfl rfl) ?_
  refine Qd ?_
  have hS19 := hS17.drew
  refine QJ [0, 1, 2, 3, 4, 5, 6] [] ZS (by kernel_rfl) ?_
  refine Qk rfl rfl rfl (fun _ => (Qr rfl)) ?_
  refine Qk rfl rfl rfl (fun _ => (Qr rfl)) ?_
  refine QE rfl rfl rfl (YW _ Tryz.underlying9 rfl rfl (by rfl) (by assumption)) ?_
  refine Qk rfl rfl rfl (fun _ => (Qr rfl)) ?_
  refine Qk rfl rfl rfl (fun _ => (Qr rfl)) ?_
  refine QE rfl rfl rfl (YW _ Tryz.underlying9 rfl rfl (by rfl) (by assumption)) ?_
  refine Qk rfl rfl rfl (fun _ => (BV rfl rfl)) ?_
  refine VC.nil (Qc ?_)
  refine Qh (L' := [(86, _), (0, _), (4, _), (5, _), (27, _), (9, _), (10, _), (11, _)]) (WR rfl rfl rfl rfl rfl rfl rfl rfl) ?_
  refine Qx rfl (fun h20 => ?_) (fun h20 => ?_)
  ·have hnq : ca ≠ cb := fun q => by subst q; exact h20 rfl
   refine Qd (Qa (Qe rfl rfl (Qf (Qc (Q0 (QC (Qs (Qs (QC (QC (Qs (QC (Qs ?_)))))))))))))
   refine QU (.inr rfl) rfl rfl ?_
   have hbad : ¬ VK L V t k x := fun q => by have h1 := q _ hci (hsub _ hci ((hcz.2 0 (by omega)).2)); rw [hca, hcb] at h1; simp at h1; subst h1; exact hnq rfl
   have hS21 := Z6 hx (hS19.pick [0, 1, 2, 3, 4, 5, 6, 7, 8, 9, 10, 11, 12] rfl)
   have hz := Yc (hS21.pick [3, 2, 0, 4, 5, 6, 7, 8, 9, 10, 11] rfl)
   have hS22 := Z5 ht (hz.pick [1, 0, 2, 3, 4, 5, 6, 7, 8, 9, 10] rfl)
   exact ⟨_, rfl, false, rfl, ⟨(fun q => by cases q), fun q => absurd (q k x hx) hbad⟩, QX (hS22.pick [1, 2, 3, 0, 4, 5, 6] rfl)⟩
  have heq : (XL V x.base)[Lib.ctz 64 st.toNat]? = (XL V (Xn L t.parent k))[Lib.ctz 64 st.toNat]? := by rw [hca, hcb]; congr 1; have h0 := Decidable.not_not.1 h20; exact UInt8.toNat_inj.1 (by omega)
  refine Qy (Qp (Qc (Qa (Qb rfl rfl (Qb rfl rfl ?_)))))
  refine NU (b := 1#64) rfl rfl rfl ?_
  refine WK rfl rfl rfl ?_
  refine Qe rfl rfl (Qf ?_)
  have hbn := NM (s2 := st) hne hsub hin heq
  exact QF (L1 := [(0, _), (4, _), (5, _), (27, _), (9, _), (10, _), (11, XF (st &&& (st - 1#64)))]) (WJ rfl rfl rfl rfl rfl rfl rfl) (k1 := (st &&& (st - 1#64)).toNat) hbn.2.2 ⟨_, rfl, rfl, hS19.pick [0, 1, 2, 3, 4, 5, 6, 7, 8, 9, 10, 11, 12] rfl, hbn.1, hbn.2.1⟩
 have hz0 : st = 0#64 := BitVec.eq_of_toNat_eq (by have := Decidable.not_not.1 h18; simpa using this)
 refine QY (Qv (Qv (Q4 (Qp ?_))))
 have hvk : VK L V t k x := fun j hj h => (hin j hj h).resolve_left (by rw [hz0]; simp)
 have hS23 := Z6 hx (hS17.pick [0, 1, 2, 3, 4, 5, 6, 7, 8, 9, 10, 11, 12] rfl)
 exact QF (L1 := [(0, _), (4, _), (5, _), (27, _)]) (Jq rfl rfl rfl rfl) (k1 := left2) (by omega) ⟨_, _, _, rfl, rfl, hS23.pick [2, 3, 0, 4, 5, 6, 7, 8, 9, 10, 11] rfl, fun q y hq hy => hq.elim (fun h => hok q y h hy) (fun h => by subst h; rw [hx] at hy; cases hy; exact hvk)⟩
end Go.Proofs.YtkcjfoaejijdoaaGreatDoor
/- leaves: references held elsewhere, plain -/
namespace Go.Proofs.YtkcjfoaejijdoaaGreatDoor
open Go.RowKit M
set_option linter.unusedVariables false
/-- references have changed, and sheets have vanished: contents have not changed -/
def Pgs (V V' : VS) : Prop := ∀ j, XG V' j → XG V j ∧ XL V' j = XL V j
theorem MV {V : VS} {s j : Int} (h : XG (Zf V s) j) : XG V j := by
  rcases h with h | h
  · exact .inl h
  · exact .inr (GU h)
theorem Pgs.refl {V : VS} : Pgs V V := fun _ h => ⟨h, rfl⟩
theorem Pgs.trans {V V1 V2 : VS} (h : Pgs V V1) (h' : Pgs V1 V2) : Pgs V V2 := fun j q => ⟨(h j (h' j q).1).1, (h' j q).2.trans (h j (h' j q).1).2⟩
theorem Pgs.ref {V : VS} {s : Int} : Pgs V (refW V s) := fun j q => ⟨q.imp_right Yn.1, J1⟩
theorem Pgs.unr {V : VS} {s : Int} (h0 : V 0 = none) : Pgs V (Zf V s) := fun j q => ⟨MV q, RK h0 q⟩
section
variable {ex : Int → Int} {L L1 L' : LvD} {V V1 V' : VS} {id : Int} {t t1 t' : TrD} {k : KD} {x y x1 : LfD} {m Fr : Nat} {s a : Int}
theorem Tm (hx : NN ex) (hs : s ≠ 0 → 1 ≤ ex s) : NN (fun j => ex j - dl s j) := fun j hj => by
  show 0 ≤ ex j - dl s j
  have := hx j hj
  by_cases e : j = s
  · subst e; have := hs hj; rw [ZD]; omega
  · rw [Wz e]; omega
/-- the present gets a sheet that has its reference already -/
theorem setX (hI : LvX ex m L V) (hx : NN ex) (hs : s ≠ 0 → 1 ≤ ex s) (hp : L'.pres = XY L.pres k s) (hT : L'.tr = L.tr) :
    LvX (fun j => ex j - dl s j) m L' (Zf V (L.pres k)) ∧ Q5 L' (Zf V (L.pres k)) = { Q5 L V with pres := HV (Q5 L V).pres k (XL V s) } := by
  have hf := Bq hp hT
  have hh : Xe L (.inl k) = L.pres k := rfl
  have a1 := (((hI.ref.put (.inl k) s).fn hf).unr (hI.aliveX hx (.inl k)))
  rw [hh] at a1
  have a2 : RefI (Xe L') (Zf V (L.pres k)) (fun j => ex j - dl s j) := a1.ext fun j hj => by omega
  have nn : NN (fun j => ex j - dl s j) := Tm hx hs
  have hc : ∀ p, XL (Zf V (L.pres k)) (Xe L' p) = XL V (Xe L' p) := fun p => RK hI.zero (a2.aliveN rfl (nn _))
  have e1 : Q5 L' (Zf V (L.pres k)) = { Q5 L V with pres := HV (Q5 L V).pres k (XL V s) } := by
    rw [K5 (V := V) (V' := Zf V (L.pres k)) hp hT fun p hp => by have := hc p; rwa [hf, XK hp] at this]
    have := hc (.inl k)
    rw [hf, X6] at this
    rw [this]
  exact ⟨⟨a2, by rw [hT]; exact hI.rank, by rw [e1]; exact hI.agree⟩, e1⟩
/-- a leaf gets a sheet that has its reference already -/
theorem ownX (hI : LvX ex m L V) (hx : NN ex) (hs : s ≠ 0 → 1 ≤ ex s) (ht : L.tr id = some t) (hl : t.lv k = some x) (hp : L'.pres = L.pres) (hT : L'.tr = Xi L.tr id (some { t with lv := Xi t.lv k (some y) })) (hb : y.base = x.base) (ho : y.own = s)
    (hg : NQ { ZF V x with own := XL V s, rd := y.rd, wr := y.wr }) :
    LvX (fun j => ex j - dl s j) m L' (Zf V x.own) ∧ Q5 L' (Zf V x.own) = Zs (Q5 L V) id k { ZF V x with own := XL V s, rd := y.rd, wr := y.wr } := by
  have hf : ∀ q, Xe L' q = HV (Xe L) (.inr (id, k, true)) s q := fun q => by
    rw [Yd (x := y) hp hT ht rfl, hb, ho, Yi (f := Xe L) (v := x.base) (by rw [X2 ht hl]; rfl)]
  have hh : Xe L (.inr (id, k, true)) = x.own := by rw [X2 ht hl]; rfl
  have a1 := (((hI.ref.put (.inr (id, k, true)) s).fn hf).unr (hI.aliveX hx (.inr (id, k, true))))
  rw [hh] at a1
  have a2 : RefI (Xe L') (Zf V x.own) (fun j => ex j - dl s j) := a1.ext fun j hj => by omega
  have nn : NN (fun j => ex j - dl s j) := Tm hx hs
  have hc : ∀ p, XL (Zf V x.own) (Xe L' p) = XL V (Xe L' p) := fun p => RK hI.zero (a2.aliveN rfl (nn _))
  have e1 : Q5 L' (Zf V x.own) = Zs (Q5 L V) id k { ZF V x with own := XL V s, rd := y.rd, wr := y.wr } := by
    rw [J0 (V := V) (V' := Zf V x.own) (x := y) hp hT ht rfl fun p h1 h2 => by have := hc p; rwa [hf, XK h2] at this]
    congr 1
    have h1 := hc (.inr (id, k, true))
    have h2 := hc (.inr (id, k, false))
    rw [hf, X6] at h1
    rw [hf, XK (by simp), X2 ht hl] at h2
    simp at h2
    simp [ZF, hb, ho, h1, h2]
  exact ⟨⟨a2, by rw [hT]; exact hI.rank.same (Wj ht rfl), by rw [e1]; exact hI.agree.put hg⟩, e1⟩
/-- one more reference -/
theorem LvX.refW (hI : LvX ex m L V) (ha : XG V s) : LvX (fun j => ex j + dl s j) m L (refW V s) ∧ Q5 L (refW V s) = Q5 L V := by
  have e : Q5 L (Go.Proofs.YtkcjfoaejijdoaaGreatDoor.refW V s) = Q5 L V := Hx fun p => J1
  exact ⟨⟨hI.ref.ref ha, hI.rank, by rw [e]; exact hI.agree⟩, e⟩
/-- one reference less -/
theorem LvX.unr (hI : LvX ex m L V) (hx : NN ex) (hs : s ≠ 0 → 1 ≤ ex s) : LvX (fun j => ex j - dl s j) m L (Zf V s) ∧ Q5 L (Zf V s) = Q5 L V := by
  have ha : XG V s := by
    by_cases h0 : s = 0
    · exact .inl h0
    · obtain ⟨n, a, b⟩ := hI.ref.1 s h0
      have := hs h0
      exact .inr (hI.ref.alive_of (by omega))
  have nn : NN (fun j => ex j - dl s j) := Tm hx hs
  have a2 := hI.ref.unr ha
  have e : Q5 L (Zf V s) = Q5 L V := Hx fun p => RK hI.zero (a2.aliveN rfl (nn _))
  exact ⟨⟨a2, hI.rank, by rw [e]; exact hI.agree⟩, e⟩
theorem LvX.ext {ex' : Int → Int} (hI : LvX ex m L V) (h : ∀ j, j ≠ 0 → ex' j = ex j) : LvX ex' m L V := ⟨hI.ref.ext h, hI.rank, hI.agree⟩
theorem LvX.same (hI : LvX ex m L V) (hp : L'.pres = L.pres) (hT : L'.tr = L.tr) : LvX ex m L' V ∧ Q5 L' V = Q5 L V := by
  have e : Q5 L' V = Q5 L V := by unfold Q5; rw [hp, hT]
  have hf : Xe L' = Xe L := by funext p; cases p <;> simp [Xe, hp, hT]
  exact ⟨⟨by rw [hf]; exact hI.ref, by rw [hT]; exact hI.rank, by rw [e]; exact hI.agree⟩, e⟩
end
/-- a step with references that are held elsewhere -/
structure StepX (ex : Int → Int) (m : Nat) (L : LvD) (V : VS) (ex' : Int → Int) (m' d e : Nat) (L' : LvD) (V' : VS) : Prop where
  inv : LvX ex' m' L' V'
  sp : L'.sp = L.sp
  al : ∀ c, AliveLe V c → AliveLe V' (c + d)
  sz : ∀ c, SzLe L c → SzLe L' (c + e)
  pg : Pgs V V'
theorem StepX.refl {ex : Int → Int} {m d e : Nat} {L : LvD} {V : VS} (h : LvX ex m L V) : StepX ex m L V ex m d e L V := ⟨h, rfl, fun _ q => q.mono (by omega), fun _ q => q.mono (by omega), .refl⟩
theorem StepX.trans {ex ex1 ex2 : Int → Int} {m m1 m2 : Nat} {L L1 L2 : LvD} {V V1 V2 : VS} {d d1 e e1 : Nat} (h : StepX ex m L V ex1 m1 d e L1 V1) (h' : StepX ex1 m1 L1 V1 ex2 m2 d1 e1 L2 V2) : StepX ex m L V ex2 m2 (d + d1) (e + e1) L2 V2 :=
  ⟨h'.inv, h'.sp.trans h.sp, fun c q => (h'.al _ (h.al c q)).mono (by omega), fun c q => (h'.sz _ (h.sz c q)).mono (by omega), h.pg.trans h'.pg⟩
theorem StepX.up {ex ex1 : Int → Int} {m m1 : Nat} {L L1 : LvD} {V V1 : VS} {d d1 e e1 : Nat} (h : StepX ex m L V ex1 m1 d e L1 V1) (h1 : d ≤ d1) (h2 : e ≤ e1) : StepX ex m L V ex1 m1 d1 e1 L1 V1 :=
  ⟨h.inv, h.sp, fun c q => (h.al c q).mono (by omega), fun c q => (h.sz c q).mono (by omega), h.pg⟩
theorem StepX.plain {m m1 : Nat} {L L1 : LvD} {V V1 : VS} {d e : Nat} (h : StepX (fun _ => 0) m L V (fun _ => 0) m1 d e L1 V1) : StepI m L V m1 d e L1 V1 := ⟨h.inv, h.sp, h.al, h.sz⟩
/-- a place in which a sheet may be held -/
def MM (L : LvD) (j : Int) (q : KD) : Prop := (j = 0 ∧ L.pres q ≠ 0) ∨ ∃ t x, L.tr j = some t ∧ t.lv q = some x
/-- only p has changed, and has at most the pages of P in addition -/
def OthK (L L' : LvD) (p : Int) (P : KD → Prop) : Prop := (∀ i, i ≠ p → L'.tr i = L.tr i) ∧ ∀ j q, MM L' j q → MM L j q ∨ (j = p ∧ P q)
theorem OthK.refl {L : LvD} {p : Int} {P : KD → Prop} : OthK L L p P := ⟨fun _ _ => rfl, fun _ _ h => .inl h⟩
theorem OthK.trans {L L1 L2 : LvD} {p : Int} {P Q R : KD → Prop} (h : OthK L L1 p P) (h' : OthK L1 L2 p Q) (hP : ∀ q, P q → R q) (hQ : ∀ q, Q q → R q) : OthK L L2 p R :=
  ⟨fun i hi => (h'.1 i hi).trans (h.1 i hi), fun j q hk => by
    rcases h'.2 j q hk with a | ⟨a, b⟩
    · rcases h.2 j q a with c | ⟨c, d⟩
      · exact .inl c
      · exact .inr ⟨c, hP q d⟩
    · exact .inr ⟨a, hQ q b⟩⟩
theorem SzLe.keys {L : LvD} {c : Nat} (h : SzLe L c) : ∃ l : List (Int × KD), l.length ≤ c ∧ ∀ j q, MM L j q → (j, q) ∈ l := by
  obtain ⟨l, a, b, d⟩ := h
  refine ⟨l, a, fun j q hk => ?_⟩
  rcases hk with ⟨rfl, e⟩ | ⟨t, x, e, f⟩
  · exact b q e
  · exact d j t q x e f
theorem SzLe.of_keys {L : LvD} {c : Nat} {l : List (Int × KD)} (h : l.length ≤ c) (hk : ∀ j q, MM L j q → (j, q) ∈ l) : SzLe L c := ⟨l, h, fun k e => hk 0 k (.inl ⟨rfl, e⟩), fun i t k x e f => hk i k (.inr ⟨t, x, e, f⟩)⟩
theorem OthK.sz2 {L L' : LvD} {p id : Int} {P : KD → Prop} {c : Nat} (h : OthK L L' p P) (hP : ∀ q, P q → MM L id q) (hc : SzLe L c) : SzLe L' (2 * c) := by
  obtain ⟨l, a, b⟩ := hc.keys
  refine SzLe.of_keys (l := l ++ l.map fun e => (p, e.2)) (by simp; omega) fun j q hk => ?_
  rcases h.2 j q hk with e | ⟨rfl, e⟩
  · exact List.mem_append_left _ (b j q e)
  · exact List.mem_append_right _ (List.mem_map.2 ⟨(id, q), b id q (hP q e), rfl⟩)
theorem OthK.szRem {L L1 L' : LvD} {p id : Int} {P : KD → Prop} {c : Nat} (h : OthK L L1 p P) (hP : ∀ q, P q → MM L id q) (h0 : id ≠ 0) (hr : L'.pres = L1.pres) (ht : L'.tr = Xi L1.tr id none) (hc : SzLe L c) : SzLe L' c := by
  obtain ⟨l, a, b⟩ := hc.keys
  refine SzLe.of_keys (l := l.map fun e => if e.1 = id then (p, e.2) else e) (by simpa using a) fun j q hk => ?_
  have hj : j ≠ id ∧ MM L1 j q := by
    rcases hk with ⟨rfl, e⟩ | ⟨t, x, e, f⟩
    · exact ⟨fun a => h0 a.symm, .inl ⟨rfl, by rwa [hr] at e⟩⟩
    · rw [ht] at e
      by_cases g : j = id
      · subst g; rw [Q3] at e; cases e
      · rw [QH g] at e; exact ⟨g, .inr ⟨t, x, e, f⟩⟩
  rcases h.2 j q hj.2 with e | ⟨rfl, e⟩
  · exact List.mem_map.2 ⟨(j, q), b j q e, by rw [if_neg hj.1]⟩
  · exact List.mem_map.2 ⟨(id, q), b id q (hP q e), by rw [if_pos rfl]⟩
theorem TouR.oth {L L1 : LvD} {V V1 : VS} {id i : Int} {t t1 : TrD} {k : KD} {x1 : LfD} (hT : TouR L V id t k L1 V1 t1 x1) (hi : i ≠ id) : L1.tr i = L.tr i := by
  rcases hT with ⟨_, rfl, _, _⟩ | ⟨_, a, _, _, rfl, _⟩
  · rfl
  · exact QH hi
theorem TouR.othK {L L1 L' : LvD} {V V1 : VS} {id : Int} {t t1 : TrD} {k : KD} {x1 y : LfD} (hT : TouR L V id t k L1 V1 t1 x1) (ht : L.tr id = some t) (hp : L'.pres = L1.pres) (hT' : L'.tr = Xi L1.tr id (some { t1 with lv := Xi t1.lv k (some y) })) : OthK L L' id (fun q => q = k) := by
  refine ⟨fun i hi => by rw [hT', QH hi, hT.oth hi], fun j q hk => ?_⟩
  have hpr : L1.pres = L.pres := by
    rcases hT with ⟨_, rfl, _, _⟩ | ⟨_, a, _, _, rfl, _⟩
    · rfl
    · rfl
  have hlv : ∀ q, q ≠ k → t1.lv q = t.lv q := fun q hq => by
    rcases hT with ⟨_, _, _, rfl⟩ | ⟨_, a, _, rfl, _, _⟩
    · rfl
    · exact QH hq
  by_cases e : j = id
  · subst e
    by_cases e2 : q = k
    · exact .inr ⟨rfl, e2⟩
    · left
      rcases hk with ⟨e3, e4⟩ | ⟨u, x, e3, e4⟩
      · exact .inl ⟨e3, by rwa [hp, hpr] at e4⟩
      · rw [hT', Q3] at e3
        cases e3
        dsimp only at e4
        rw [QH e2, hlv q e2] at e4
        exact .inr ⟨t, x, ht, e4⟩
  · left
    rcases hk with ⟨e3, e4⟩ | ⟨u, x, e3, e4⟩
    · exact .inl ⟨e3, by rwa [hp, hpr] at e4⟩
    · rw [hT', QH e, hT.oth e] at e3
      exact .inr ⟨u, x, e3, e4⟩
theorem Pw {L : LvD} {k : KD} {s : Int} {f : Int → Bool} : OthK L { L with pres := XY L.pres k s, sh := f } 0 (fun q => q = k) := by
  refine ⟨fun _ _ => rfl, fun j q hk => ?_⟩
  rcases hk with ⟨e, h⟩ | h
  · by_cases e2 : q = k
    · exact .inr ⟨e, e2⟩
    · simp only [XY, if_neg e2] at h
      exact .inl (.inl ⟨e, h⟩)
  · exact .inl (.inr h)
theorem Tw {L L' : LvD} {p : Int} {P : KD → Prop} (hp : ∀ q, L'.pres q ≠ 0 → L.pres q ≠ 0) (hT : L'.tr = L.tr) : OthK L L' p P :=
  ⟨fun i _ => by rw [hT], fun j q hk => .inl (hk.imp (fun a => ⟨a.1, hp q a.2⟩) (fun ⟨t, x, a, b⟩ => ⟨t, x, by rwa [hT] at a, b⟩))⟩
theorem Tv {L L' : LvD} {id : Int} {t t' : TrD} {P : KD → Prop} (ht : L.tr id = some t) (hp : L'.pres = L.pres) (hT : L'.tr = Xi L.tr id (some t')) (hg : ∀ k x, t'.lv k = some x → t.lv k ≠ none) : OthK L L' id P := by
  refine ⟨fun i hi => by rw [hT, QH hi], fun j q hk => .inl ?_⟩
  rcases hk with ⟨e, h⟩ | ⟨u, x, e, h⟩
  · exact .inl ⟨e, by rwa [hp] at h⟩
  · rw [hT] at e
    by_cases e2 : j = id
    · subst e2
      rw [Q3] at e
      cases e
      cases q2 : t.lv q with
      | none => exact absurd q2 (hg q x h)
      | some y => exact .inr ⟨t, y, ht, q2⟩
    · rw [QH e2] at e; exact .inr ⟨u, x, e, h⟩
end Go.Proofs.YtkcjfoaejijdoaaGreatDoor
/- leaves: set, give, replace -/
namespace Go.Proofs.YtkcjfoaejijdoaaGreatDoor
open Go.RowKit M
set_option linter.unusedVariables false
section
variable {ex : Int → Int} {L L1 L' : LvD} {V V1 V' : VS} {id : Int} {t t1 t' : TrD} {k : KD} {x y x1 : LfD} {m Fr : Nat} {s a : Int}
theorem TouR.pg (hT : TouR L V id t k L1 V1 t1 x1) (j : Int) : XL V1 j = XL V j := by
  rcases hT with ⟨_, _, rfl, _⟩ | ⟨_, a, _, _, _, rfl⟩
  · rfl
  · rw [J1, J1]
theorem TouR.pgs (hT : TouR L V id t k L1 V1 t1 x1) : Pgs V V1 := by
  rcases hT with ⟨_, _, rfl, _⟩ | ⟨_, a, _, _, _, rfl⟩
  · exact .refl
  · exact Pgs.ref.trans .ref
theorem Ub (hI : LvX ex m L V) (hx : NN ex) (hs : s ≠ 0 → 1 ≤ ex s) (f : Int → Bool) :
    StepX ex m L V (fun j => ex j - dl s j) m 0 1 { L with pres := XY L.pres k s, sh := f } (Zf V (L.pres k)) ∧ Q5 { L with pres := XY L.pres k s, sh := f } (Zf V (L.pres k)) = { Q5 L V with pres := HV (Q5 L V).pres k (XL V s) } := by
  obtain ⟨h1, h2⟩ := setX (L' := { L with pres := XY L.pres k s, sh := f }) hI hx hs rfl rfl
  refine ⟨⟨h1, rfl, fun c q => q.unr.mono (by omega), fun c q => q.add 0 k (fun j hj => ?_) fun j u q y hj hq => .inl ⟨u, y, hj, hq⟩, Pgs.unr hI.zero⟩, h2⟩
  by_cases e : j = k
  · right; rw [e]
  · simp only [XY, if_neg e] at hj; exact .inl hj
theorem Bt (hT : TouR L V id t k L1 V1 t1 x1) (ht : L.tr id = some t) (hI : LvX ex m L V) (hx : NN ex) (hs : s ≠ 0 → 1 ≤ ex s) {wr : BitVec 64} (f : Int → Bool)
    (hg : NQ { Za (Q5 L V) id k with own := XL V s, wr := (Za (Q5 L V) id k).wr ||| wr }) :
    StepX ex m L V (fun j => ex j - dl s j) m 0 1 (Zi { L1 with sh := f } id t1 k { x1 with own := s, wr := x1.wr ||| wr }) (Zf V1 x1.own) ∧
    Q5 (Zi { L1 with sh := f } id t1 k { x1 with own := s, wr := x1.wr ||| wr }) (Zf V1 x1.own) = Zs (Q5 L V) id k { Za (Q5 L V) id k with own := XL V s, wr := (Za (Q5 L V) id k).wr ||| wr } := by
  obtain ⟨h1, h2, h3, h4, h5⟩ := hT.invX ht hI hx
  obtain ⟨h6, h7⟩ := h1.same (L' := { L1 with sh := f }) rfl rfl
  have e : { ZF V1 x1 with own := XL V1 s, rd := x1.rd, wr := x1.wr ||| wr } = { Za (Q5 L V) id k with own := XL V s, wr := (Za (Q5 L V) id k).wr ||| wr } := by
    rw [hT.pg, ← h2]; rfl
  obtain ⟨h8, h9⟩ := ownX (L' := Zi { L1 with sh := f } id t1 k { x1 with own := s, wr := x1.wr ||| wr }) (y := { x1 with own := s, wr := x1.wr ||| wr }) h6 hx hs (hT.tr ht) hT.lv rfl rfl rfl rfl (by rw [e]; exact hg)
  refine ⟨⟨h8, hT.sp, fun c q => (h4 c q).unr.mono (by omega), fun c q => (hT.sz ht q).putOld (hT.tr ht) hT.lv rfl rfl, hT.pgs.trans (Pgs.unr h1.zero)⟩, ?_⟩
  rw [h9, h7, h3, Ud, e]
/-- a leaf as a whole -/
def MK (x : LfA) (c : Bs) : LfA := { x with own := c, wr := BitVec.allOnes 64 }
theorem allX_ag {x : LfA} {c : Bs} : NQ (MK x c) := fun j hj h => by
  rw [show (MK x c).wr = BitVec.allOnes 64 from rfl, BitVec.getLsbD_allOnes] at h
  simp [hj] at h
theorem Nq (hI : LvX ex m L V) (hx : NN ex) (ha : XG V s) (ht : L.tr id = some t) (hl : t.lv k = some x) (f : Int → Bool) :
    StepX ex m L V ex m 0 0 (Zi { L with sh := f } id t k { x with own := s, wr := BitVec.allOnes 64 }) (Zf (refW V s) x.own) ∧
    Q5 (Zi { L with sh := f } id t k { x with own := s, wr := BitVec.allOnes 64 }) (Zf (refW V s) x.own) = Zs (Q5 L V) id k (MK (ZF V x) (XL V s)) := by
  obtain ⟨h1, h2⟩ := hI.refW ha
  obtain ⟨h6, h7⟩ := h1.same (L' := { L with sh := f }) rfl rfl
  have nn : NN (fun j => ex j + dl s j) := fun j hj => by
    show 0 ≤ ex j + dl s j
    have := hx j hj
    by_cases e : j = s
    · subst e; rw [ZD]; omega
    · rw [Wz e]; omega
  have e : ({ ZF (refW V s) x with own := XL (refW V s) s, rd := x.rd, wr := BitVec.allOnes 64 } : LfA) = MK (ZF V x) (XL V s) := by
    simp only [ZF, J1]; rfl
  obtain ⟨h8, h9⟩ := ownX (L' := Zi { L with sh := f } id t k { x with own := s, wr := BitVec.allOnes 64 }) (y := { x with own := s, wr := BitVec.allOnes 64 }) h6 nn (fun h0 => by show 1 ≤ ex s + dl s s; rw [ZD]; have := hx s h0; omega) ht hl rfl rfl rfl rfl (by rw [e]; exact allX_ag)
  refine ⟨⟨h8.ext fun j _ => (by show ex j = ex j + dl s j - dl s j; omega), rfl, fun c q => q.refW.unr.mono (by omega), fun c q => q.putOld ht hl rfl rfl, Pgs.ref.trans (Pgs.unr h1.zero)⟩, ?_⟩
  rw [h9, h7, h2, e]
theorem Vi (hI : LvX ex m L V) (hx : NN ex) (ha : XG V s) (f : Int → Bool) :
    StepX ex m L V ex m 0 1 { L with pres := XY L.pres k s, sh := f } (Zf (refW V s) (L.pres k)) ∧ Q5 { L with pres := XY L.pres k s, sh := f } (Zf (refW V s) (L.pres k)) = { Q5 L V with pres := HV (Q5 L V).pres k (XL V s) } := by
  obtain ⟨h1, h2⟩ := hI.refW ha
  have nn : NN (fun j => ex j + dl s j) := fun j hj => by
    show 0 ≤ ex j + dl s j
    have := hx j hj
    by_cases e : j = s
    · subst e; rw [ZD]; omega
    · rw [Wz e]; omega
  obtain ⟨h3, h4⟩ := Ub (k := k) h1 nn (fun h0 => by show 1 ≤ ex s + dl s s; rw [ZD]; have := hx s h0; omega) f
  refine ⟨⟨h3.inv.ext fun j _ => (by show ex j = ex j + dl s j - dl s j; omega), rfl, fun c q => (h3.al c q.refW), h3.sz, Pgs.ref.trans h3.pg⟩, ?_⟩
  rw [h4, h2, J1]
end
theorem BG {w : World} {b n Fr : Nat} {L : LvD} {V : VS} {F : Th} (hS : Sat w [ZU b L, Zu L.sp n Fr V, F]) (hn : n ≤ 650000000) (k : KD) (s : Int) : Calls Tryz.prog 72 #[ptrV b 0, Xt k, intV s] w (Ret fun v w' => v = .tuple #[] ∧ Sat w' [ZU b { L with pres := XY L.pres k s, sh := Js V L.sh (L.pres k) }, Zu L.sp (n + 1) Fr (Zf V (L.pres k)), F]) := by
  have h1 := XP hS
  refine (Pv (h1.split [0, 1, 4, 5] [true, true, false, false, true, true, false] rfl) (by omega) k s).mono fun e w h => h.mono fun v w h => ?_
  obtain ⟨rfl, h⟩ := h
  have h2 := h.join rfl
  exact ⟨rfl, QX (L := { L with pres := XY L.pres k s, sh := Js V L.sh (L.pres k) }) (h2.reorder [0, 1, 4, 5, 2, 3, 6] rfl)⟩
set_option maxRecDepth 100000 in
theorem Sg {w : World} {ex : Int → Int} {m : Nat} {b n Fr : Nat} {L : LvD} {V : VS} {F : Th} (hS : Sat w [ZU b L, Zu L.sp n Fr V, F]) (hn : n ≤ 600000000) (hI : LvX ex m L V) (hx : NN ex) {s : Int} (hs : s ≠ 0 → 1 ≤ ex s) (k : KD) (wr : BitVec 64) :
    Calls Tryz.prog 54 #[ptrV b 0, intV 0, Xt k, intV s, XF wr] w (Ret fun v w' => ∃ L' V', StepX ex m L V (fun j => ex j - dl s j) m 0 1 L' V' ∧ Q5 L' V' = { Q5 L V with pres := HV (Q5 L V).pres k (XL V s) } ∧ OthK L L' 0 (fun q => q = k) ∧ Sat w' [ZU b L', Zu L'.sp (n + 4) Fr V', F]) := by
 refine Qt Tryz.func54 rfl Tryz.ntmps54 rfl ?_
 refine Qd (Qa ?_)
 refine Ze hS rfl rfl rfl ?_
 intro kb w1 hS1
 replace hS1 := XQ hS1
 refine Qf (Qc (Qd (Qd (Qa (Qb rfl rfl ?_)))))
 refine X1 rfl rfl rfl ?_
 refine Qf (Qc ?_)
 refine Qx rfl (fun h2 => ?_) (fun h2 => ?_)
 ·refine Qd (Qa (Qb rfl rfl ?_))
  refine XW rfl XA Xb (by first | exact hS1.blk 0 rfl) (by exact Nat.le_of_ble_eq_true rfl) rfl rfl ?_
  refine Qb rfl rfl ?_
  have hC3 := hS1.split [1, 2] [false, true, true, false] rfl; dsimp only [Q9, Qz, Q8, cap, Q7] at hC3
  refine Qo Gq rfl (BG hC3 (by omega) k s) rfl ?_
  rintro e w3 ⟨_, rfl, rfl, hS3⟩; refine ⟨_, rfl, ?_⟩
  replace hS3 := hS3.join rfl; dsimp only [QT, QS, cap, Q7] at hS3; clear hC3
  clear hS1
  refine Qf (Qc ?_)
  refine Qh (L' := [(7, _), (0, _), (1, _), (3, _), (4, _)]) (ZG rfl rfl rfl rfl rfl) ?_
  refine Q0 (Qs ?_)
  refine W3 (.inr rfl) rfl ?_
  exact ⟨_, rfl, _, _, (Ub hI hx hs (Js V L.sh (L.pres k))).1, (Ub hI hx hs (Js V L.sh (L.pres k))).2, Pw, (Xw (m := n + 4) (by omega) (hS3.pick [1, 0, 3] rfl)).reorder [1, 0, 2] rfl⟩
 exact absurd rfl h2
set_option maxRecDepth 100000 in
set_option maxHeartbeats 800000000 in
theorem Sf {w : World} {ex : Int → Int} {m : Nat} {b n Fr : Nat} {L : LvD} {V : VS} {F : Th} (hS : Sat w [ZU b L, Zu L.sp n Fr V, F]) (hn : n ≤ 600000000) (hI : LvX ex m L V) (hx : NN ex) (hm : m < Z8) {id : Int} {t : TrD} (ht : L.tr id = some t) {s : Int} (hs : s ≠ 0 → 1 ≤ ex s) (k : KD) (wr : BitVec 64) (hg : NQ { Za (Q5 L V) id k with own := XL V s, wr := (Za (Q5 L V) id k).wr ||| wr }) :
    Calls Tryz.prog 54 #[ptrV b 0, intV id, Xt k, intV s, XF wr] w (Ret fun v w' => ∃ L' V', StepX ex m L V (fun j => ex j - dl s j) m 0 1 L' V' ∧ Q5 L' V' = Zs (Q5 L V) id k { Za (Q5 L V) id k with own := XL V s, wr := (Za (Q5 L V) id k).wr ||| wr } ∧ OthK L L' id (fun q => q = k) ∧ Sat w' [ZU b L', Zu L'.sp (n + 4) Fr V', F]) := by
 have h0 : id ≠ 0 := hI.rank.none0 ht
 refine Qt Tryz.func54 rfl Tryz.ntmps54 rfl ?_
 refine Qd (Qa ?_)
 refine Ze hS rfl rfl rfl ?_
 intro kb w1 hS1
 replace hS1 := XQ hS1
 refine Qf (Qc (Qd (Qd (Qa (Qb rfl rfl ?_)))))
 refine X1 rfl rfl rfl ?_
 refine Qf (Qc ?_)
 refine Qx rfl (fun h2 => ?_) (fun h2 => ?_)
 ·exact absurd h2 h0
 refine Qy (Qc (Qd (Qa (Qb rfl rfl (Qb rfl rfl ?_)))))
 refine XW rfl XA Xb (by first | exact hS1.blk 0 rfl) (by exact Nat.le_of_ble_eq_true rfl) rfl rfl ?_
 have hC3 := hS1.split [1, 2] [false, true, true, false] rfl; dsimp only [Q9, Qz, Q8, cap, Q7] at hC3
 refine Qo Df rfl (Ve hC3 (by omega) (hI.rank.ends hm) ht (k := k)) rfl ?_
 rintro e w3 ⟨_, rfl, L1, V1, t1, x1, rfl, hT, hS3⟩; refine ⟨_, rfl, ?_⟩
 replace hS3 := hS3.join rfl; dsimp only [QT, QS, cap, Q7] at hS3; clear hC3
 clear hS1
 have ht1 := hT.tr ht
 have hx1 := hT.lv
 refine Qe rfl rfl (Qf (Qc ?_))
 refine Qh (L' := [(10, _), (0, _), (3, _), (4, _)]) (Jq rfl rfl rfl rfl) ?_
 refine Qd ?_
 have hS4 := JN ht1 hx1 (hS3.pick [0, 1, 2, 3] rfl)
 refine Qa (Qb rfl rfl (Qb rfl rfl (Qj rfl rfl ?_)))
 refine Qg rfl WD rfl ?_
 refine Qu rfl QV (by exact hS4.cell 0 rfl rfl) rfl ?_
 have hC5 := hS4.split [6, 9, 10] [false, false, false, false, false, false, true, false, false, true, true, false, false] rfl; dsimp only [Q9, Qz, Q8, cap, Q7] at hC5
 refine Qo Ht rfl (Hh hC5 (by omega) x1.own) rfl ?_
 rintro e w5 ⟨_, rfl, rfl, hS5⟩; refine ⟨_, rfl, ?_⟩
 replace hS5 := hS5.join rfl; dsimp only [QT, QS, cap, Q7] at hS5; clear hC5
 clear hS4
 refine Qf (Qc (Qd (Qa (Qb rfl rfl (Qb rfl rfl (Qj rfl rfl ?_))))))
 refine Qg rfl WD rfl ?_
 refine Xa hS5 rfl rfl YL rfl (i := 3) rfl (by exact Nat.le_of_ble_eq_true rfl) ?_
 intro w6 hS6; dsimp only [List.set] at hS6
 clear hS5
 refine Qf (Qc ?_)
 refine Qh (L' := [(10, _), (4, _)]) (Hz rfl rfl) ?_
 refine Qa (Qb rfl rfl (Qj rfl rfl ?_))
 refine Qg rfl Wm rfl ?_
 refine Qu rfl JA (by exact hS6.cell 3 rfl rfl) rfl ?_
 refine Qb rfl rfl ?_
 refine wl_or64 rfl rfl rfl ?_
 refine Qj rfl rfl ?_
 refine Qg rfl Wm rfl ?_
 refine Xa hS6 rfl rfl GY rfl (i := 3) rfl (by exact Nat.le_of_ble_eq_true rfl) ?_
 intro w7 hS7; dsimp only [List.set] at hS7
 clear hS6
 refine Qf ?_
 refine W3 (.inl rfl) rfl ?_
 have hS8 := WC (L := { L1 with sh := Js V1 L1.sh x1.own }) (y := { x1 with own := s, wr := x1.wr ||| wr }) ht1 hx1 rfl (hS7.pick [3, 4, 5, 6, 7, 8, 0, 9, 10, 1, 2, 11, 12] rfl)
 exact ⟨_, rfl, _, _, (Bt hT ht hI hx hs (Js V1 L1.sh x1.own) hg).1, (Bt hT ht hI hx hs (Js V1 L1.sh x1.own) hg).2, hT.othK ht rfl rfl, (Xw (m := n + 4) (by omega) (hS8.pick [1, 0, 3] rfl)).reorder [1, 0, 2] rfl⟩
set_option maxRecDepth 100000 in
theorem DP {w : World} {ex : Int → Int} {m : Nat} {b n Fr : Nat} {L : LvD} {V : VS} {F : Th} (hS : Sat w [ZU b L, Zu L.sp n Fr V, F]) (hn : n ≤ 600000000) (hI : LvX ex m L V) (hx : NN ex) {s : Int} (ha : XG V s) (k : KD) :
    Calls Tryz.prog 103 #[ptrV b 0, intV 0, Xt k, intV s] w (Ret fun v w' => ∃ L' V', StepX ex m L V ex m 0 1 L' V' ∧ Q5 L' V' = { Q5 L V with pres := HV (Q5 L V).pres k (XL V s) } ∧ L'.pres = XY L.pres k s ∧ Sat w' [ZU b L', Zu L'.sp (n + 4) Fr V', F]) := by
 refine Qt Tryz.func103 rfl Tryz.ntmps103 rfl ?_
 refine Qd (Qa ?_)
 refine Ze hS rfl rfl rfl ?_
 intro kb w1 hS1
 replace hS1 := XQ hS1
 refine Qf (Qc (Qd (Qd (Qa (Qb rfl rfl ?_)))))
 refine X1 rfl rfl rfl ?_
 refine Qf (Qc ?_)
 refine Qx rfl (fun h2 => ?_) (fun h2 => ?_)
 ·refine Qd ?_
  have hS3 := XP (hS1.pick [1, 0, 2, 3] rfl)
  refine Qa (Qb rfl rfl (Qb rfl rfl ?_))
  have hC4 := hS3.split [0, 4, 6] [true, false, false, false, true, false, true, false] rfl; dsimp only [Q9, Qz, Q8, cap, Q7] at hC4
  refine Qo Gr rfl (DQ hC4 (by omega) s) rfl ?_
  rintro e w4 ⟨_, rfl, rfl, hS4⟩; refine ⟨_, rfl, ?_⟩
  replace hS4 := hS4.join rfl; dsimp only [QT, QS, cap, Q7] at hS4; clear hC4
  clear hS3
  refine Qf (Qc (Qd ?_))
  have hS5 := QX (L := { L with sh := Jw L.sh s }) (hS4.pick [0, 3, 4, 5, 1, 2, 6, 7] rfl)
  refine Qa (Qb rfl rfl ?_)
  refine XW rfl XA Xb (by first | exact hS5.blk 2 rfl) (by exact Nat.le_of_ble_eq_true rfl) rfl rfl ?_
  refine Qb rfl rfl ?_
  have hC6 := hS5.split [0, 1] [true, true, false, false] rfl; dsimp only [Q9, Qz, Q8, cap, Q7] at hC6
  refine Qo Gq rfl (BG (L := { L with sh := Jw L.sh s }) hC6 (by omega) k s) rfl ?_
  rintro e w6 ⟨_, rfl, rfl, hS6⟩; refine ⟨_, rfl, ?_⟩
  replace hS6 := hS6.join rfl; dsimp only [QT, QS, cap, Q7] at hS6; clear hC6
  clear hS5
  refine Qf (Qc ?_)
  refine Qh (L' := [(6, _), (0, _), (1, _), (3, _)]) (Jq rfl rfl rfl rfl) ?_
  refine Q0 (Qs ?_)
  refine W3 (.inr rfl) rfl ?_
  exact ⟨_, rfl, _, _, (Vi hI hx ha _).1, (Vi hI hx ha _).2, rfl, (Xw (m := n + 4) (by omega) (hS6.pick [1, 0, 3] rfl)).reorder [1, 0, 2] rfl⟩
 exact absurd rfl h2
end Go.Proofs.YtkcjfoaejijdoaaGreatDoor
