/- LeavesBytes -/
import Derived.Test.YtkcjfoaejijdoaaGreatDoorLv29
import Derived.Test.YtkcjfoaejijdoaaGreatDoorMem
import Derived.ProofKit
import Derived.OpenShut
import Derived.ShutString
import Derived.ChangeOld
import Derived.Deep.Slices
import Derived.Deep.Fields
import Derived.ChangeSame
import Derived.JoinedCond
namespace Go.Proofs.YtkcjfoaejijdoaaGreatDoor
open Go.RowKit M
set_option linter.unusedVariables false
/-! LeavesBytes, in plain data -/
theorem GM {i : Nat} (h : i < 18446744073709551616) : IntKind.u64.wrap (i : Int) = (i : Int) := by
  simp only [IntKind.wrap, IntKind.signed, IntKind.bits]
  simp
  omega
theorem R8 (a b : UInt8) : IntKind.u8.wrap ((a.toNat : Int) + (b.toNat : Int)) = ((a + b).toNat : Int) := by
  rw [NU, UInt8.toNat_add]
  simp
theorem u8_mul (a b : UInt8) : IntKind.u8.wrap ((a.toNat : Int) * (b.toNat : Int)) = ((a * b).toNat : Int) := by
  rw [NU, UInt8.toNat_mul]
  simp
theorem bitU {w : BitVec 64} {i : Nat} (hi : i < 64) : UInt8.ofNat (((w >>> i) &&& 1#64).toNat) = if w.getLsbD i = true then 1 else 0 := by
  by_cases h : w.getLsbD i = true
  · rw [if_pos h]
    have h1 := (VP hi).2 h
    have h2 : ((w >>> i) &&& 1#64).toNat = 1 := by omega
    rw [h2]; rfl
  · rw [if_neg h]
    have h1 := mt (VP hi).1 h
    have h2 : ((w >>> i) &&& 1#64).toNat = 0 := by
      have e : (1#64).toNat = 1 := rfl
      rw [BitVec.toNat_and, e, Nat.and_one_is_mod] at h1 ⊢
      omega
    rw [h2]; rfl
theorem TT {x y : BitVec 64} {j : Nat} (h : x.getLsbD j = true) : (y &&& ~~~x).getLsbD j = false := by
  rw [BitVec.getLsbD_and, BitVec.getLsbD_not, h]; simp
theorem want_eq {page : Bs} {x y : BitVec 64} {i : Nat} {co : UInt8} (hi : i < 64) (hco : page[i]? = some co) : co + UInt8.ofNat (((x >>> i) &&& 1#64).toNat) + 2 * UInt8.ofNat ((((y &&& ~~~x) >>> i) &&& 1#64).toNat) = GF page x (y &&& ~~~x) i := by
  rw [bitU hi, bitU hi]
  unfold GF
  rw [Zu hco]
  by_cases h : x.getLsbD i = true
  · rw [if_pos h, TT h]; simp [h]
  · rw [if_neg h]
    by_cases h2 : (y &&& ~~~x).getLsbD i = true
    · rw [if_pos h2, if_pos h2]; simp
    · rw [if_neg h2, if_neg h2]; simp [h]
section
variable {A A2 : LvA} {page o1 o2 : Bs} {r r1 w1 r2 w2 x y : BitVec 64} {i : Nat} {co : UInt8}
theorem ld_step (hl : (A.pres kO).length = 64) (hg : ∀ j, j < i → (A.pres kO)[j]? = page[j]?) (hi : i < 64) (hco : page[i]? = some co) (hnt : ∀ i, A.tr i = none) (hA : A2 = wrP A kO (i : Int) co) : (A2.pres kO).length = 64 ∧ (∀ j, j < i + 1 → (A2.pres kO)[j]? = page[j]?) ∧ ∀ i, A2.tr i = none := by
  have e : A2.pres kO = (A.pres kO).set i co := by rw [hA]; unfold wrP; dsimp only; rw [X7]; rfl
  refine ⟨by rw [e, List.length_set, hl], fun j hj => ?_, fun i => by rw [hA]; exact hnt i⟩
  rw [e]
  by_cases q : j = i
  · subst q; rw [List.getElem?_set_self (by omega), hco]
  · rw [List.getElem?_set_ne (fun a => q a.symm)]; exact hg j (by omega)
theorem ld_fin (hl : (A.pres kO).length = 64) (hp : page.length = 64) (hg : ∀ j, j < 64 → (A.pres kO)[j]? = page[j]?) : A.pres kO = page := by
  apply List.ext_getElem?
  intro j
  by_cases h : j < 64
  · exact hg j h
  · rw [List.getElem?_eq_none (by omega), List.getElem?_eq_none (by omega)]
theorem P4 (hp : A.pres kO = page) (hnt : ∀ i, A.tr i = none) : SB (MJ (MJ A 1 0) 2 0) page page 0#64 0#64 page 0#64 0#64 := by
  obtain ⟨_, e1⟩ := Dt (A := A) (i := 1) (by omega) (hnt 1)
  rw [e1]
  obtain ⟨_, e2⟩ := Dt (A := ({ A with tr := Xj A.tr 1 (some ⟨0, fun _ => none, fun _ => false⟩) } : LvA)) (i := 2) (by omega) ((QI (by decide)).trans (hnt 2))
  rw [e2]
  refine ⟨hp, ⟨fun _ => none, (QI (by decide)).trans Q3, fun _ _ => rfl, .inl ⟨rfl, rfl, rfl, rfl⟩⟩, ⟨fun _ => none, Q3, fun _ _ => rfl, .inl ⟨rfl, rfl, rfl, rfl⟩⟩, fun i h1 h2 => (QI h2).trans ((QI h1).trans (hnt i))⟩
theorem sb_read (h : SB A page o1 r1 w1 page r 0#64) (hA : A2 = Zt A 2 kO (rdX (Zb A 2 kO) (i : Int))) : SB A2 page o1 r1 w1 page (r ||| (1#64 <<< i)) 0#64 := by
  rw [h.2.2.1.tou h.1 (by decide)] at hA
  have e : rdX ⟨page, page, r, 0#64⟩ (i : Int) = ⟨page, page, r ||| (1#64 <<< i), 0#64⟩ := by
    have e1 : (1#64 <<< i) &&& ~~~0#64 = 1#64 <<< i := by rw [show (~~~0#64 : BitVec 64) = BitVec.allOnes 64 by decide, BitVec.and_allOnes]
    show (⟨page, page, r ||| ((1#64 <<< i) &&& ~~~0#64), 0#64⟩ : LfA) = _
    rw [e1]
  rw [hA, e]
  exact h.put2
theorem sb_w1 (h : SB A page (G5 page 1 w1) r1 w1 o2 r2 w2) (hi : i < 64) (hco : page[i]? = some co) (hA : A2 = Zt A 1 kO (wrX (Zb A 1 kO) (i : Int) (co + 1))) : SB A2 page (G5 page 1 (w1 ||| (1#64 <<< i))) r1 (w1 ||| (1#64 <<< i)) o2 r2 w2 := by
  rw [h.2.1.tou h.1 (by decide)] at hA
  have e : wrX ⟨page, G5 page 1 w1, r1, w1⟩ (i : Int) (co + 1) = ⟨page, G5 page 1 (w1 ||| (1#64 <<< i)), r1, w1 ||| (1#64 <<< i)⟩ := by
    rw [← C8 hi, Zu hco]; rfl
  rw [hA, e]
  exact h.put1
theorem sb_w2 (h : SB A page o1 r1 w1 (G5 page 2 w2) r2 w2) (hi : i < 64) (hco : page[i]? = some co) (hA : A2 = Zt A 2 kO (wrX (Zb A 2 kO) (i : Int) (co + 2))) : SB A2 page o1 r1 w1 (G5 page 2 (w2 ||| (1#64 <<< i))) r2 (w2 ||| (1#64 <<< i)) := by
  rw [h.2.2.1.tou h.1 (by decide)] at hA
  have e : wrX ⟨page, G5 page 2 w2, r2, w2⟩ (i : Int) (co + 2) = ⟨page, G5 page 2 (w2 ||| (1#64 <<< i)), r2, w2 ||| (1#64 <<< i)⟩ := by
    rw [← C8 hi, Zu hco]; rfl
  rw [hA, e]
  exact h.put2
/-- what a commit needs to know -/
def Rdy (A : LvA) (t : TrA) : Prop := t.parent = 0 ∧ (∀ i u, A.tr i = some u → u.parent = 0) ∧ DrA A ∧ DrLe t 0 ∧ PartLe t 1
theorem SB.un (h : SB A page o1 r1 w1 o2 r2 w2) {i : Int} {u : TrA} (hu : A.tr i = some u) : i = 1 ∨ i = 2 := Classical.byContradiction fun q => by
  rw [h.2.2.2 i (fun e => q (.inl e)) (fun e => q (.inr e))] at hu; cases hu
theorem P7 (hu : ∀ i u, A.tr i = some u → ∃ o r w, Lf1 A i page o r w) {i : Int} {t : TrA} (ht : A.tr i = some t) : Rdy A t := by
  have hp : ∀ i u, A.tr i = some u → u.parent = 0 ∧ ∀ ob, u.dr ob = false := fun i u h => by
    obtain ⟨o, r, w, hl⟩ := hu i u h
    exact hl.parent h
  obtain ⟨o, r, w, hl⟩ := hu i t ht
  exact ⟨(hp i t ht).1, fun i u h => (hp i u h).1, Ck fun i t h => (hp i t h).2, Bz (hp i t ht).2, DY (hl.part ht)⟩
theorem SB.rdy (h : SB A page o1 r1 w1 o2 r2 w2) {i : Int} {t : TrA} (ht : A.tr i = some t) : Rdy A t := P7 (page := page) (fun i u hu => by
  rcases h.un hu with rfl | rfl
  · exact ⟨_, _, _, h.2.1⟩
  · exact ⟨_, _, _, h.2.2.1⟩) ht
/-- one of them is left -/
def SB1 (A : LvA) (j : Int) (page now o : Bs) (r w : BitVec 64) : Prop := A.pres kO = now ∧ Lf1 A j page o r w ∧ ∀ i, i ≠ j → A.tr i = none
theorem SB1.rdy {j : Int} {now o : Bs} {w : BitVec 64} (h : SB1 A j page now o r w) {i : Int} {t : TrA} (ht : A.tr i = some t) : Rdy A t := P7 (page := page) (fun i u hu => by
  have e : i = j := Classical.byContradiction fun q => by rw [h.2.2 i q] at hu; cases hu
  subst e
  exact ⟨_, _, _, h.2.1⟩) ht
theorem sb_com1 (h : SB A page o1 r1 w1 o2 r2 w2) (hl : page.length = 64) {t : TrA} (ht : A.tr 1 = some t) (hA : A2 = ⟨VG A t, Xj A.tr 1 none⟩) : SB1 A2 2 page (U6 page o1 w1) o2 r2 w2 := by
  rw [hA]
  refine ⟨?_, h.2.2.1.rest (by decide), fun i hi => ?_⟩
  · have := h.2.1.com ht (by rw [h.1]; exact hl)
    rw [h.1] at this
    exact this
  · show Xj A.tr 1 none i = none
    by_cases e : i = 1
    · subst e; exact Q3
    · rw [QI e]; exact h.2.2.2 i e hi
theorem sb_com2 (h : SB A page o1 r1 w1 o2 r2 w2) (hl : page.length = 64) {t : TrA} (ht : A.tr 2 = some t) (hA : A2 = ⟨VG A t, Xj A.tr 2 none⟩) : SB1 A2 1 page (U6 page o2 w2) o1 r1 w1 := by
  rw [hA]
  refine ⟨?_, h.2.1.rest (by decide), fun i hi => ?_⟩
  · have := h.2.2.1.com ht (by rw [h.1]; exact hl)
    rw [h.1] at this
    exact this
  · show Xj A.tr 2 none i = none
    by_cases e : i = 2
    · subst e; exact Q3
    · rw [QI e]; exact h.2.2.2 i hi e
theorem P5 {j : Int} {now o : Bs} {w : BitVec 64} (h : SB1 A j page now o r w) (hl : now.length = 64) {t : TrA} (ht : A.tr j = some t) (hA : A2 = ⟨VG A t, Xj A.tr j none⟩) : A2.pres kO = U6 now o w := by
  rw [hA]
  have := h.2.1.com ht (by rw [h.1]; exact hl)
  rw [h.1] at this
  exact this
end
set_option maxRecDepth 100000 in
set_option maxHeartbeats 3200000 in
theorem NF {w : World} {F : Th} (hS : Sat w [F]) (hG : Ent F GT) (page : Bs) (x y reads : BitVec 64) (turn : Bool) :
    Calls Tryz.prog 3 #[strV page, XG x, XG y, XG reads, .bool turn] w (Ret fun v w' => v = .bool true ∧ Sat w' [F]) := by
 refine Qt Tryz.func3 rfl Tryz.ntmps3 rfl ?_
 refine Qd (Qa (Qe rfl rfl (Qf (Qc (Qd (Qa ?_))))))
 have hC1 := hS.split [] [false] rfl; dsimp only [QC, Qz, Q9, Q8, Q7] at hC1
 refine Qo cal_8 rfl (Pn hC1 (hG.starL 0 rfl)) rfl ?_
 rintro e w1 ⟨_, rfl, rfl, hS1⟩; refine ⟨_, rfl, ?_⟩
 replace hS1 := hS1.join rfl; dsimp only [QU, QT, Q8, Q7] at hS1; clear hC1
 refine Qe rfl rfl (Qf (Qc (Qd (Qa ?_))))
 have hC2 := hS1.split [] [false] rfl; dsimp only [QC, Qz, Q9, Q8, Q7] at hC2
 refine Qo cal_9 rfl (DN hC2) rfl ?_
 rintro e w2 ⟨_, rfl, b, p, mp, mt, ms, rfl, hS2⟩; refine ⟨_, rfl, ?_⟩
 replace hS2 := hS2.join rfl; dsimp only [QU, QT, Q8, Q7] at hS2; clear hC2
 clear hS1
 have hz0 := DO (hS2.pick [0, 1, 2] rfl)
 refine Qb rfl rfl (Qw rfl rfl rfl (Qw rfl rfl rfl (Qe rfl rfl (Qe rfl rfl (Qf (Qc ?_))))))
 refine Qh (L' := [(12, _), (11, _), (10, _), (0, _), (1, _), (2, _), (3, _), (4, _)]) (WT rfl rfl rfl rfl rfl rfl rfl rfl) ?_
 refine Qd (Qd (Qa (Qb rfl rfl ?_)))
 refine ZX Tryz.underlying24 rfl rfl rfl ?_
 refine Qf (Qc ?_)
 refine Xm rfl ?_
 refine Qy (Qc (Qd (Qd (Qa (Qb rfl rfl ?_)))))
 refine Wg Tryz.underlying9 rfl rfl ?_
 refine Xh rfl rfl rfl ?_
 refine Qf (Qc ?_)
 refine Qh (L' := [(28, _), (12, _), (11, _), (10, _), (0, _), (1, _), (2, _), (3, _), (4, _)]) (G6 rfl rfl rfl rfl rfl rfl rfl rfl rfl) ?_
 refine Qx rfl (fun h3 => ?_) (fun h3 => ?_)
 ·refine Qd (Qa (Qb rfl rfl (Qe rfl rfl (Qf (Qc (Q0 (Qs ?_)))))))
  refine QV (.inr rfl) rfl rfl ?_
  exact ⟨_, rfl, rfl, hz0.pick [1] rfl⟩
 have hpl : page.length = 64 := by have := Decidable.not_not.1 h3; omega
 refine Qy (Qc (Qd (Qa (Qb rfl rfl (Qb rfl rfl ?_)))))
 refine D4 rfl rfl rfl ?_
 refine Qe rfl rfl (Qf (Qc ?_))
 refine Qh (L' := [(2, _), (12, _), (11, _), (10, _), (0, _), (1, _), (3, _), (4, _)]) (WT rfl rfl rfl rfl rfl rfl rfl rfl) ?_
 refine Qd (Qd (Qa (Qe rfl rfl (Qf (Qc (Q1 ?_))))))
 refine Xw (fun K0 E0 W0 => ∃ (i : Nat) (A : LvA), K0 = 64 - i ∧ E0 = [(0, strV page), (1, XG x), (2, XG (y &&& ~~~x)), (3, XG reads), (4, .bool turn), (11, .bool true), (12, ptrV b 0), (14, intV (i : Int))] ∧ Sat W0 [Un b p (5 * i) 0 (i) (i) A, F] ∧ (i ≤ 64) ∧ ((A.pres kO).length = 64) ∧ (∀ j, j < i → (A.pres kO)[j]? = page[j]?) ∧ (∀ i, A.tr i = none)) (L0 := [(0, _), (1, _), (2, _), (3, _), (4, _), (11, _), (12, _), (14, _)]) (64) (WT rfl rfl rfl rfl rfl rfl rfl rfl) ⟨0, PN, by omega, rfl, hz0.pick [0, 1] rfl, by omega, rfl, fun j h => by omega, fun _ => rfl⟩ ?_
 rintro _ _ w4 ⟨i, A, rfl, rfl, hS4, hi, hl, hg, hnt⟩
 refine Qd (Qd (Qa (Qb rfl rfl ?_)))
 refine Xt rfl rfl rfl ?_
 refine Qf (Qc ?_)
 refine Qx rfl (fun h5 => ?_) (fun h5 => ?_)
 ·obtain ⟨co, hco⟩ : ∃ co, page[i]? = some co := ⟨_, List.getElem?_eq_getElem (by omega)⟩
  refine Qy (Qc (Qd (Q1 (Qa (Qb rfl rfl (Qb rfl rfl (Qb rfl rfl (Qb rfl rfl ?_))))))))
  refine ZW i Tryz.underlying9 rfl rfl rfl hco rfl ?_
  have hC6 := hS4.split [0] [true, false] rfl; dsimp only [QC, Qz, Q9, Q8, Q7] at hC6
  refine Qo HN rfl (Vt hC6 (by omega) (by decide) (by omega) (i : Int) (by omega) co) rfl ?_
  rintro e w6 ⟨_, rfl, rfl, A2, hA2, hS6⟩; refine ⟨_, rfl, ?_⟩
  replace hS6 := hS6.join rfl; dsimp only [QU, QT, Q8, Q7] at hS6; clear hC6
  clear hS4
  refine Qf (Qp (Qc ?_))
  refine Qh (L' := [(0, _), (1, _), (2, _), (3, _), (4, _), (11, _), (12, _), (14, _)]) (WT rfl rfl rfl rfl rfl rfl rfl rfl) ?_
  refine Qa (Qb rfl rfl ?_)
  refine QN rfl rfl (by omega) (by omega) rfl ?_
  refine Qe rfl rfl (Qf ?_)
  obtain ⟨hl2, hg2, hnt2⟩ := ld_step hl hg (by omega) hco hnt hA2
  exact QG (L1 := [(0, _), (1, _), (2, _), (3, _), (4, _), (11, _), (12, _), (14, intV ((i + 1 : Nat) : Int))]) (WT rfl rfl rfl rfl rfl rfl rfl rfl) (k1 := 64 - (i + 1)) (by omega) ⟨i + 1, _, by omega, rfl, Yt (n' := 5 * (i + 1)) (m' := 0) (c' := i + 1) (e' := i + 1) (by omega) (by omega) (by omega) (by omega) (hS6.pick [0, 1] rfl), by omega, hl2, hg2, hnt2⟩
 refine QZ (Qv (Qv (Q4 (Qc (Qd ?_)))))
 have hi64 : i = 64 := by omega
 subst hi64
 have hpr := ld_fin hl hpl hg
 refine Qa (Qb rfl rfl ?_)
 have hC7 := hS4.split [0] [true, false] rfl; dsimp only [QC, Qz, Q9, Q8, Q7] at hC7
 refine Qo TB rfl (RQ hC7 (by omega) (by decide) 1 0) rfl ?_
 rintro e w7 ⟨_, rfl, rfl, hS7⟩; refine ⟨_, rfl, ?_⟩
 replace hS7 := hS7.join rfl; dsimp only [QU, QT, Q8, Q7] at hS7; clear hC7
 clear hS4
 refine Qf (Qc ?_)
 refine Qh (L' := [(0, _), (1, _), (2, _), (3, _), (4, _), (11, _), (12, _)]) (WK rfl rfl rfl rfl rfl rfl rfl) ?_
 refine Qd (Qa (Qb rfl rfl ?_))
 have hC8 := hS7.split [0] [true, false] rfl; dsimp only [QC, Qz, Q9, Q8, Q7] at hC8
 refine Qo TB rfl (RQ hC8 (by omega) (by decide) 2 0) rfl ?_
 rintro e w8 ⟨_, rfl, rfl, hS8⟩; refine ⟨_, rfl, ?_⟩
 replace hS8 := hS8.join rfl; dsimp only [QU, QT, Q8, Q7] at hS8; clear hC8
 clear hS7
 refine Qf (Qc (Qd (Qd (Qa (Qe rfl rfl (Qf (Qc (Q1 ?_))))))))
 have hz1 := Yt (n' := 320 + 2 * 0) (m' := 2) (c' := 64) (e' := 64 + 0) (by omega) (by omega) (by omega) (by omega) (hS8.pick [0, 1] rfl)
 refine Xw (fun K0 E0 W0 => ∃ (i : Nat) (A : LvA) (r : BitVec 64), K0 = 64 - i ∧ E0 = [(0, strV page), (1, XG x), (2, XG (y &&& ~~~x)), (3, XG reads), (4, .bool turn), (11, .bool true), (12, ptrV b 0), (15, intV (i : Int))] ∧ Sat W0 [Un b p (320 + 2 * i) 2 (64) (64 + i) A, F] ∧ (i ≤ 64) ∧ (SB A page page 0#64 0#64 page r 0#64) ∧ (MW reads r i)) (L0 := [(0, _), (1, _), (2, _), (3, _), (4, _), (11, _), (12, _), (15, _)]) (64) (WT rfl rfl rfl rfl rfl rfl rfl rfl) ⟨0, _, 0#64, by omega, rfl, hz1.pick [0, 1] rfl, by omega, P4 hpr hnt, MW.zero⟩ ?_
 rintro _ _ w9 ⟨i, A, r, rfl, rfl, hS9, hi, hsb, hmw⟩
 refine Qd (Qd (Qa (Qb rfl rfl ?_)))
 refine Xt rfl rfl rfl ?_
 refine Qf (Qc ?_)
 refine Qx rfl (fun h10 => ?_) (fun h10 => ?_)
 ·refine Qy (Qc (Qd (Q1 (Qd (Qa (Qb rfl rfl (Qb rfl rfl ?_)))))))
  refine JY Tryz.underlying3 Tryz.underlying31 rfl (GM (by omega)) rfl ?_
  refine J5 i rfl rfl (by omega) rfl ?_
  refine WL (b := 1#64) rfl rfl rfl ?_
  refine X2 rfl rfl rfl ?_
  refine Qf (Qc ?_)
  refine Qh (L' := [(56, _), (0, _), (1, _), (2, _), (3, _), (4, _), (11, _), (12, _), (15, _)]) (G6 rfl rfl rfl rfl rfl rfl rfl rfl rfl) ?_
  refine Qx rfl (fun h11 => ?_) (fun h11 => ?_)
  ·have hb : reads.getLsbD i = true := (VP (by omega)).1 h11
   obtain ⟨t2, ht2⟩ := hsb.2.2.1.get
   refine Qa (Qb rfl rfl (Qb rfl rfl ?_))
   have hC12 := hS9.split [0] [true, false] rfl; dsimp only [QC, Qz, Q9, Q8, Q7] at hC12
   refine Qo K2 rfl (RS hC12 (by omega) (by decide) ht2 (i : Int) (by omega)) rfl ?_
   rintro e w12 ⟨_, rfl, rfl, A2, hA2, hS12⟩; refine ⟨_, rfl, ?_⟩
   replace hS12 := hS12.join rfl; dsimp only [QU, QT, Q8, Q7] at hS12; clear hC12
   clear hS9
   refine Qf (Qp (Qc ?_))
   refine Qh (L' := [(0, _), (1, _), (2, _), (3, _), (4, _), (11, _), (12, _), (15, _)]) (WT rfl rfl rfl rfl rfl rfl rfl rfl) ?_
   refine Qa (Qb rfl rfl ?_)
   refine QN rfl rfl (by omega) (by omega) rfl ?_
   refine Qe rfl rfl (Qf ?_)
   exact QG (L1 := [(0, _), (1, _), (2, _), (3, _), (4, _), (11, _), (12, _), (15, intV ((i + 1 : Nat) : Int))]) (WT rfl rfl rfl rfl rfl rfl rfl rfl) (k1 := 64 - (i + 1)) (by omega) ⟨i + 1, _, _, by omega, rfl, Yt (n' := 320 + 2 * (i + 1)) (m' := 2) (c' := 64) (e' := 64 + (i + 1)) (by omega) (by omega) (by omega) (by omega) (hS12.pick [0, 1] rfl), by omega, sb_read hsb hA2, hmw.T hb⟩
  have hb : reads.getLsbD i = false := by have := (not_congr (VP (by omega))).1 h11; simpa using this
  refine Qy (Qp (Qc (Qa (Qb rfl rfl ?_))))
  refine QN rfl rfl (by omega) (by omega) rfl ?_
  refine Qe rfl rfl (Qf ?_)
  exact QG (L1 := [(0, _), (1, _), (2, _), (3, _), (4, _), (11, _), (12, _), (15, intV ((i + 1 : Nat) : Int))]) (WT rfl rfl rfl rfl rfl rfl rfl rfl) (k1 := 64 - (i + 1)) (by omega) ⟨i + 1, _, _, by omega, rfl, Yt (n' := 320 + 2 * (i + 1)) (m' := 2) (c' := 64) (e' := 64 + (i + 1)) (by omega) (by omega) (by omega) (by omega) (hS9.pick [0, 1] rfl), by omega, hsb, hmw.F hb⟩
 refine QZ (Qv (Qv (Q4 (Qc (Qd (Qd (Qa (Qe rfl rfl (Qf (Qc ?_))))))))))
 refine Qh (L' := [(16, _), (0, _), (1, _), (2, _), (3, _), (4, _), (11, _), (12, _)]) (WT rfl rfl rfl rfl rfl rfl rfl rfl) ?_
 refine Q1 ?_
 have hi64 : i = 64 := by omega
 subst hi64
 rw [hmw.fin] at hsb
 have hz2 := Yt (n' := 448 + 10 * 0) (m' := 2) (c' := 64 + 2 * 0) (e' := 128 + 2 * 0) (by omega) (by omega) (by omega) (by omega) (hS9.pick [0, 1] rfl)
 refine Xw (fun K0 E0 W0 => ∃ (i : Nat) (A : LvA) (w1 w2 : BitVec 64), K0 = 64 - i ∧ E0 = [(0, strV page), (1, XG x), (2, XG (y &&& ~~~x)), (3, XG reads), (4, .bool turn), (11, .bool true), (12, ptrV b 0), (16, intV (i : Int))] ∧ Sat W0 [Un b p (448 + 10 * i) 2 (64 + 2 * i) (128 + 2 * i) A, F] ∧ (i ≤ 64) ∧ (SB A page (G5 page 1 w1) 0#64 w1 (G5 page 2 w2) reads w2) ∧ (MW x w1 i) ∧ (MW (y &&& ~~~x) w2 i)) (L0 := [(0, _), (1, _), (2, _), (3, _), (4, _), (11, _), (12, _), (16, _)]) (64) (WT rfl rfl rfl rfl rfl rfl rfl rfl) ⟨0, _, 0#64, 0#64, by omega, rfl, hz2.pick [0, 1] rfl, by omega, by rw [MM hpl, MM hpl]; exact hsb, MW.zero, MW.zero⟩ ?_
 rintro _ _ w13 ⟨i, A, w1, w2, rfl, rfl, hS13, hi, hsb, hmw1, hmw2⟩
 refine Qd (Qd (Qa (Qb rfl rfl ?_)))
 refine Xt rfl rfl rfl ?_
 refine Qf (Qc ?_)
 refine Qx rfl (fun h14 => ?_) (fun h14 => ?_)
 ·obtain ⟨co, hco⟩ : ∃ co, page[i]? = some co := ⟨_, List.getElem?_eq_getElem (by omega)⟩
  refine Qy (Qc (Qd (Q1 (Qd (Qd (Qa (Qb rfl rfl (Qb rfl rfl ?_))))))))
  refine JY Tryz.underlying3 Tryz.underlying31 rfl (GM (by omega)) rfl ?_
  refine J5 i rfl rfl (by omega) rfl ?_
  refine WL (b := 1#64) rfl rfl rfl ?_
  refine X2 rfl rfl rfl ?_
  refine Qf (Qc ?_)
  refine Qh (L' := [(69, _), (0, _), (1, _), (2, _), (3, _), (4, _), (11, _), (12, _), (16, _)]) (G6 rfl rfl rfl rfl rfl rfl rfl rfl rfl) ?_
  refine Qx rfl (fun h15 => ?_) (fun h15 => ?_)
  ·have hb : x.getLsbD i = true := (VP (by omega)).1 h15
   obtain ⟨t1, ht1⟩ := hsb.2.1.get
   refine Qa (Qb rfl rfl (Qb rfl rfl (Qb rfl rfl (Qb rfl rfl ?_))))
   refine ZW i Tryz.underlying9 rfl rfl rfl hco rfl ?_
   refine Y4 rfl rfl (R8 _ 1) rfl ?_
   have hC16 := hS13.split [0] [true, false] rfl; dsimp only [QC, Qz, Q9, Q8, Q7] at hC16
   refine Qo HN rfl (Vs hC16 (by omega) (by decide) (by omega) ht1 (i : Int) (by omega) (co + 1)) rfl ?_
   rintro e w16 ⟨_, rfl, rfl, A2, hA2, hS16⟩; refine ⟨_, rfl, ?_⟩
   replace hS16 := hS16.join rfl; dsimp only [QU, QT, Q8, Q7] at hS16; clear hC16
   clear hS13
   have hsb2 := sb_w1 hsb (by omega) hco hA2
   have hm1 := hmw1.T hb
   refine Qf (Qc ?_)
   refine Qh (L' := [(0, _), (1, _), (2, _), (3, _), (4, _), (11, _), (12, _), (16, _)]) (WT rfl rfl rfl rfl rfl rfl rfl rfl) ?_
   refine Qd (Qa (Qb rfl rfl (Qb rfl rfl ?_)))
   refine JY Tryz.underlying3 Tryz.underlying31 rfl (GM (by omega)) rfl ?_
   refine J5 i rfl rfl (by omega) rfl ?_
   refine WL (b := 1#64) rfl rfl rfl ?_
   refine X2 rfl rfl rfl ?_
   refine Qf (Qc ?_)
   refine Qh (L' := [(82, _), (0, _), (1, _), (2, _), (3, _), (4, _), (11, _), (12, _), (16, _)]) (G6 rfl rfl rfl rfl rfl rfl rfl rfl rfl) ?_
   refine Qx rfl (fun h17 => ?_) (fun h17 => ?_)
   ·have hb2 : (y &&& ~~~x).getLsbD i = true := (VP (by omega)).1 h17
    obtain ⟨t2, ht2⟩ := hsb2.2.2.1.get
    refine Qa (Qb rfl rfl (Qb rfl rfl (Qb rfl rfl (Qb rfl rfl ?_))))
    refine ZW i Tryz.underlying9 rfl rfl rfl hco rfl ?_
    refine Y4 rfl rfl (R8 _ 2) rfl ?_
    have hC18 := hS16.split [0] [true, false] rfl; dsimp only [QC, Qz, Q9, Q8, Q7] at hC18
    refine Qo HN rfl (Vs hC18 (by omega) (by decide) (by omega) ht2 (i : Int) (by omega) (co + 2)) rfl ?_
    rintro e w18 ⟨_, rfl, rfl, A3, hA3, hS18⟩; refine ⟨_, rfl, ?_⟩
    replace hS18 := hS18.join rfl; dsimp only [QU, QT, Q8, Q7] at hS18; clear hC18
    clear hS16
    have hsb3 := sb_w2 hsb2 (by omega) hco hA3
    have hm2 := hmw2.T hb2
    refine Qf (Qp (Qc ?_))
    refine Qh (L' := [(0, _), (1, _), (2, _), (3, _), (4, _), (11, _), (12, _), (16, _)]) (WT rfl rfl rfl rfl rfl rfl rfl rfl) ?_
    refine Qa (Qb rfl rfl ?_)
    refine QN rfl rfl (by omega) (by omega) rfl ?_
    refine Qe rfl rfl (Qf ?_)
    exact QG (L1 := [(0, _), (1, _), (2, _), (3, _), (4, _), (11, _), (12, _), (16, intV ((i + 1 : Nat) : Int))]) (WT rfl rfl rfl rfl rfl rfl rfl rfl) (k1 := 64 - (i + 1)) (by omega) ⟨i + 1, _, _, _, by omega, rfl, Yt (n' := 448 + 10 * (i + 1)) (m' := 2) (c' := 64 + 2 * (i + 1)) (e' := 128 + 2 * (i + 1)) (by omega) (by omega) (by omega) (by omega) (hS18.pick [0, 1] rfl), by omega, hsb3, hm1, hm2⟩
   have hb2 : (y &&& ~~~x).getLsbD i = false := by have := (not_congr (VP (by omega))).1 h17; simpa using this
   have hsb3 := hsb2
   have hm2 := hmw2.F hb2
   refine Qy (Qp (Qc (Qa (Qb rfl rfl ?_))))
   refine QN rfl rfl (by omega) (by omega) rfl ?_
   refine Qe rfl rfl (Qf ?_)
   exact QG (L1 := [(0, _), (1, _), (2, _), (3, _), (4, _), (11, _), (12, _), (16, intV ((i + 1 : Nat) : Int))]) (WT rfl rfl rfl rfl rfl rfl rfl rfl) (k1 := 64 - (i + 1)) (by omega) ⟨i + 1, _, _, _, by omega, rfl, Yt (n' := 448 + 10 * (i + 1)) (m' := 2) (c' := 64 + 2 * (i + 1)) (e' := 128 + 2 * (i + 1)) (by omega) (by omega) (by omega) (by omega) (hS16.pick [0, 1] rfl), by omega, hsb3, hm1, hm2⟩
  have hb : x.getLsbD i = false := by have := (not_congr (VP (by omega))).1 h15; simpa using this
  have hsb2 := hsb
  have hm1 := hmw1.F hb
  refine Qy (Qc (Qd (Qa (Qb rfl rfl (Qb rfl rfl ?_)))))
  refine JY Tryz.underlying3 Tryz.underlying31 rfl (GM (by omega)) rfl ?_
  refine J5 i rfl rfl (by omega) rfl ?_
  refine WL (b := 1#64) rfl rfl rfl ?_
  refine X2 rfl rfl rfl ?_
  refine Qf (Qc ?_)
  refine Qh (L' := [(82, _), (0, _), (1, _), (2, _), (3, _), (4, _), (11, _), (12, _), (16, _)]) (G6 rfl rfl rfl rfl rfl rfl rfl rfl rfl) ?_
  refine Qx rfl (fun h19 => ?_) (fun h19 => ?_)
  ·have hb2 : (y &&& ~~~x).getLsbD i = true := (VP (by omega)).1 h19
   obtain ⟨t2, ht2⟩ := hsb2.2.2.1.get
   refine Qa (Qb rfl rfl (Qb rfl rfl (Qb rfl rfl (Qb rfl rfl ?_))))
   refine ZW i Tryz.underlying9 rfl rfl rfl hco rfl ?_
   refine Y4 rfl rfl (R8 _ 2) rfl ?_
   have hC20 := hS13.split [0] [true, false] rfl; dsimp only [QC, Qz, Q9, Q8, Q7] at hC20
   refine Qo HN rfl (Vs hC20 (by omega) (by decide) (by omega) ht2 (i : Int) (by omega) (co + 2)) rfl ?_
   rintro e w20 ⟨_, rfl, rfl, A3, hA3, hS20⟩; refine ⟨_, rfl, ?_⟩
   replace hS20 := hS20.join rfl; dsimp only [QU, QT, Q8, Q7] at hS20; clear hC20
   clear hS13
   have hsb3 := sb_w2 hsb2 (by omega) hco hA3
   have hm2 := hmw2.T hb2
   refine Qf (Qp (Qc ?_))
   refine Qh (L' := [(0, _), (1, _), (2, _), (3, _), (4, _), (11, _), (12, _), (16, _)]) (WT rfl rfl rfl rfl rfl rfl rfl rfl) ?_
   refine Qa (Qb rfl rfl ?_)
   refine QN rfl rfl (by omega) (by omega) rfl ?_
   refine Qe rfl rfl (Qf ?_)
   exact QG (L1 := [(0, _), (1, _), (2, _), (3, _), (4, _), (11, _), (12, _), (16, intV ((i + 1 : Nat) : Int))]) (WT rfl rfl rfl rfl rfl rfl rfl rfl) (k1 := 64 - (i + 1)) (by omega) ⟨i + 1, _, _, _, by omega, rfl, Yt (n' := 448 + 10 * (i + 1)) (m' := 2) (c' := 64 + 2 * (i + 1)) (e' := 128 + 2 * (i + 1)) (by omega) (by omega) (by omega) (by omega) (hS20.pick [0, 1] rfl), by omega, hsb3, hm1, hm2⟩
  have hb2 : (y &&& ~~~x).getLsbD i = false := by have := (not_congr (VP (by omega))).1 h19; simpa using this
  have hsb3 := hsb2
  have hm2 := hmw2.F hb2
  refine Qy (Qp (Qc (Qa (Qb rfl rfl ?_))))
  refine QN rfl rfl (by omega) (by omega) rfl ?_
  refine Qe rfl rfl (Qf ?_)
  exact QG (L1 := [(0, _), (1, _), (2, _), (3, _), (4, _), (11, _), (12, _), (16, intV ((i + 1 : Nat) : Int))]) (WT rfl rfl rfl rfl rfl rfl rfl rfl) (k1 := 64 - (i + 1)) (by omega) ⟨i + 1, _, _, _, by omega, rfl, Yt (n' := 448 + 10 * (i + 1)) (m' := 2) (c' := 64 + 2 * (i + 1)) (e' := 128 + 2 * (i + 1)) (by omega) (by omega) (by omega) (by omega) (hS13.pick [0, 1] rfl), by omega, hsb3, hm1, hm2⟩
 refine QZ (Qv (Qv (Q4 (Qc ?_))))
 refine NZ (fun E0 W0 => ∃ (A : LvA), E0 = [(0, strV page), (1, XG x), (2, XG (y &&& ~~~x)), (11, .bool true), (12, ptrV b 0)] ∧ Sat W0 [Un b p (10000) 2 (194) (256) A, F] ∧ (∀ j, j < 64 → (A.pres kO).getD j 0 = GF page x (y &&& ~~~x) j)) ?_ ?_
 ·refine Qd ?_
  have hi64 : i = 64 := by omega
  subst hi64
  rw [hmw1.fin, hmw2.fin] at hsb
  obtain ⟨t1, ht1⟩ := hsb.2.1.get
  obtain ⟨t2, ht2⟩ := hsb.2.2.1.get
  refine Qa (Qb rfl rfl (Qf (Qc ?_)))
  refine Qh (L' := [(90, _), (0, _), (1, _), (2, _), (3, _), (11, _), (12, _)]) (WK rfl rfl rfl rfl rfl rfl rfl) ?_
  refine QR rfl (fun h22 => ?_) (fun h22 => ?_)
  ·refine Qd (Qa (Qb rfl rfl ?_))
   have hC23 := hS13.split [0] [true, false] rfl; dsimp only [QC, Qz, Q9, Q8, Q7] at hC23
   refine Qo Gu rfl (Vr (d := 0) (q := 1) hC23 (by omega) (by decide) (by omega) (by omega) ht2 (hsb.rdy ht2).1 (fun i u hu => by rw [(hsb.rdy ht2).2.1 i u hu]; decide) (hsb.rdy ht2).2.2.1 (hsb.rdy ht2).2.2.2.1 (hsb.rdy ht2).2.2.2.2 (by omega)) rfl ?_
   rintro e w23 ⟨_, rfl, rfl, hS23⟩; refine ⟨_, rfl, ?_⟩
   replace hS23 := hS23.join rfl; dsimp only [QU, QT, Q8, Q7] at hS23; clear hC23
   clear hS13
   obtain ⟨A3, hA3⟩ : ∃ B, B = (⟨VG A t2, Xj A.tr 2 none⟩ : LvA) := ⟨_, rfl⟩
   rw [← hA3] at hS23
   have hs3 := sb_com2 hsb hpl ht2 hA3
   obtain ⟨t3, ht3⟩ := hs3.2.1.get
   refine Xh rfl rfl rfl ?_
   refine Qb rfl rfl ?_
   refine Xk 94 rfl (fun h24 => ?_) (fun h24 => ?_)
   ·exact absurd h24 (by decide)
   refine Qn rfl rfl (decide_eq_false h24) ?_
   refine Qb rfl rfl ?_
   refine Qn rfl rfl (decide_eq_false h24) ?_
   have hC25 := hS23.split [0] [true, false] rfl; dsimp only [QC, Qz, Q9, Q8, Q7] at hC25
   refine Qo Gt rfl (HC hC25 (by omega) (by decide) (hG.starL 0 rfl) ht3) rfl ?_
   rintro e w25 ⟨_, rfl, r5, rfl, hr5, hS25⟩; refine ⟨_, rfl, ?_⟩
   replace hS25 := hS25.join rfl; dsimp only [QU, QT, Q8, Q7] at hS25; clear hC25
   clear hS23
   have hr5t : r5 = true := hr5.2 ((hs3.2.1.valid ht3).2 fun j _ hq => by simp at hq)
   subst hr5t
   refine Qn rfl rfl (decide_eq_false h24) ?_
   refine QS rfl rfl ?_
   refine QX rfl (decide_eq_false h24) rfl rfl ?_
   refine Qb rfl rfl ?_
   refine Zd 99 rfl (fun h26 => ?_) (fun h26 => ?_)
   ·exact absurd h26 (by decide)
   refine Qn rfl rfl h26 ?_
   refine Qb rfl rfl ?_
   refine Qn rfl rfl h26 ?_
   have hC27 := hS25.split [0] [true, false] rfl; dsimp only [QC, Qz, Q9, Q8, Q7] at hC27
   refine Qo Gu rfl (Vr (d := 0) (q := 1) hC27 (by omega) (by decide) (by omega) (by omega) ht3 (hs3.rdy ht3).1 (fun i u hu => by rw [(hs3.rdy ht3).2.1 i u hu]; decide) (hs3.rdy ht3).2.2.1 (hs3.rdy ht3).2.2.2.1 (hs3.rdy ht3).2.2.2.2 (by omega)) rfl ?_
   rintro e w27 ⟨_, rfl, rfl, hS27⟩; refine ⟨_, rfl, ?_⟩
   replace hS27 := hS27.join rfl; dsimp only [QU, QT, Q8, Q7] at hS27; clear hC27
   clear hS25
   obtain ⟨A4, hA4⟩ : ∃ B, B = (⟨VG A3 t3, Xj A3.tr 1 none⟩ : LvA) := ⟨_, rfl⟩
   rw [← hA4] at hS27
   have hP : ∀ j, j < 64 → (A4.pres kO).getD j 0 = GF page x (y &&& ~~~x) j := fun j hj => by rw [P5 hs3 Ul ht3 hA4]; exact fin21 hj fun q => TT q
   refine Qn rfl rfl h26 ?_
   refine Xh rfl rfl rfl ?_
   refine QX rfl h26 rfl rfl ?_
   refine Qf (Qc ?_)
   refine Qh (L' := [(103, _), (0, _), (1, _), (2, _), (11, _), (12, _)]) (Wf rfl rfl rfl rfl rfl rfl) ?_
   refine Qx rfl (fun h28 => ?_) (fun h28 => ?_)
   ·exact absurd h28 (by decide)
   refine Qy ?_
   exact BK (ZH rfl rfl rfl rfl rfl) ⟨A4, rfl, Yt (n' := 10000) (m' := 2) (c' := 194) (e' := 256) (by omega) (by omega) (by omega) (by omega) (hS27.pick [0, 1] rfl), hP⟩
  refine Qd (Qa (Qb rfl rfl ?_))
  have hC29 := hS13.split [0] [true, false] rfl; dsimp only [QC, Qz, Q9, Q8, Q7] at hC29
  refine Qo Gt rfl (HC hC29 (by omega) (by decide) (hG.starL 0 rfl) ht1) rfl ?_
  rintro e w29 ⟨_, rfl, r5, rfl, hr5, hS29⟩; refine ⟨_, rfl, ?_⟩
  replace hS29 := hS29.join rfl; dsimp only [QU, QT, Q8, Q7] at hS29; clear hC29
  clear hS13
  have hr5t : r5 = true := hr5.2 ((hsb.2.1.valid ht1).2 fun j _ hq => by simp at hq)
  subst hr5t
  refine QS rfl rfl ?_
  refine Qb rfl rfl ?_
  refine Zd 107 rfl (fun h30 => ?_) (fun h30 => ?_)
  ·exact absurd h30 (by decide)
  refine Qn rfl rfl h30 ?_
  refine Qb rfl rfl ?_
  refine Qn rfl rfl h30 ?_
  have hC31 := hS29.split [0] [true, false] rfl; dsimp only [QC, Qz, Q9, Q8, Q7] at hC31
  refine Qo Gu rfl (Vr (d := 0) (q := 1) hC31 (by omega) (by decide) (by omega) (by omega) ht1 (hsb.rdy ht1).1 (fun i u hu => by rw [(hsb.rdy ht1).2.1 i u hu]; decide) (hsb.rdy ht1).2.2.1 (hsb.rdy ht1).2.2.2.1 (hsb.rdy ht1).2.2.2.2 (by omega)) rfl ?_
  rintro e w31 ⟨_, rfl, rfl, hS31⟩; refine ⟨_, rfl, ?_⟩
  replace hS31 := hS31.join rfl; dsimp only [QU, QT, Q8, Q7] at hS31; clear hC31
  clear hS29
  obtain ⟨A3, hA3⟩ : ∃ B, B = (⟨VG A t1, Xj A.tr 1 none⟩ : LvA) := ⟨_, rfl⟩
  rw [← hA3] at hS31
  have hs3 := sb_com1 hsb hpl ht1 hA3
  obtain ⟨t3, ht3⟩ := hs3.2.1.get
  refine Qn rfl rfl h30 ?_
  refine Xh rfl rfl rfl ?_
  refine QX rfl h30 rfl rfl ?_
  refine Qb rfl rfl ?_
  refine Xk 112 rfl (fun h32 => ?_) (fun h32 => ?_)
  ·exact absurd h32 (by decide)
  refine Qn rfl rfl (decide_eq_false h32) ?_
  refine Qb rfl rfl ?_
  refine Qn rfl rfl (decide_eq_false h32) ?_
  have hC33 := hS31.split [0] [true, false] rfl; dsimp only [QC, Qz, Q9, Q8, Q7] at hC33
  refine Qo Gt rfl (HC hC33 (by omega) (by decide) (hG.starL 0 rfl) ht3) rfl ?_
  rintro e w33 ⟨_, rfl, r6, rfl, hr6, hS33⟩; refine ⟨_, rfl, ?_⟩
  replace hS33 := hS33.join rfl; dsimp only [QU, QT, Q8, Q7] at hS33; clear hC33
  clear hS31
  have hr6e : r6 = decide (((reads &&& x).toNat : Int) = 0) := by rw [Bool.eq_iff_iff, hr6, hs3.2.1.valid ht3, hs3.1, val_iff hpl, decide_eq_true_eq]; exact ⟨fun q => by rw [q]; rfl, fun q => zerW q⟩
  subst hr6e
  refine Qn rfl rfl (decide_eq_false h32) ?_
  refine Qb rfl rfl ?_
  refine Qn rfl rfl (decide_eq_false h32) ?_
  refine Qb rfl rfl ?_
  refine Qn rfl rfl (decide_eq_false h32) ?_
  refine WL rfl rfl rfl ?_
  refine Qn rfl rfl (decide_eq_false h32) ?_
  refine X2 rfl rfl rfl ?_
  refine Qn rfl rfl (decide_eq_false h32) ?_
  refine wl_neqB Tryz.underlying4 rfl rfl rfl ?_
  refine QX rfl (decide_eq_false h32) rfl rfl ?_
  refine Qb rfl rfl ?_
  refine Zd 121 rfl (fun h34 => ?_) (fun h34 => ?_)
  ·exact absurd h34 (by simp)
  refine Qn rfl rfl h34 ?_
  refine Qb rfl rfl ?_
  refine Qn rfl rfl h34 ?_
  have hC35 := hS33.split [0] [true, false] rfl; dsimp only [QC, Qz, Q9, Q8, Q7] at hC35
  refine Qo Gu rfl (Vr (d := 0) (q := 1) hC35 (by omega) (by decide) (by omega) (by omega) ht3 (hs3.rdy ht3).1 (fun i u hu => by rw [(hs3.rdy ht3).2.1 i u hu]; decide) (hs3.rdy ht3).2.2.1 (hs3.rdy ht3).2.2.2.1 (hs3.rdy ht3).2.2.2.2 (by omega)) rfl ?_
  rintro e w35 ⟨_, rfl, rfl, hS35⟩; refine ⟨_, rfl, ?_⟩
  replace hS35 := hS35.join rfl; dsimp only [QU, QT, Q8, Q7] at hS35; clear hC35
  clear hS33
  obtain ⟨A4, hA4⟩ : ∃ B, B = (⟨VG A3 t3, Xj A3.tr 2 none⟩ : LvA) := ⟨_, rfl⟩
  rw [← hA4] at hS35
  have hP : ∀ j, j < 64 → (A4.pres kO).getD j 0 = GF page x (y &&& ~~~x) j := fun j hj => by rw [P5 hs3 Ul ht3 hA4]; exact fin12 hj
  refine Qn rfl rfl h34 ?_
  refine Xh rfl rfl rfl ?_
  refine QX rfl h34 rfl rfl ?_
  refine Qf (Qc ?_)
  refine Qh (L' := [(125, _), (0, _), (1, _), (2, _), (11, _), (12, _)]) (Wf rfl rfl rfl rfl rfl rfl) ?_
  refine Qx rfl (fun h36 => ?_) (fun h36 => ?_)
  ·exact absurd h36 (by decide)
  refine Qy ?_
  exact BK (ZH rfl rfl rfl rfl rfl) ⟨A4, rfl, Yt (n' := 10000) (m' := 2) (c' := 194) (e' := 256) (by omega) (by omega) (by omega) (by omega) (hS35.pick [0, 1] rfl), hP⟩
 rintro _ w21 ⟨A, rfl, hS21, hP⟩
 refine Qd (Qd (Qa (Qe rfl rfl (Qf (Qc (Q1 ?_))))))
 refine Xw (fun K0 E0 W0 => ∃ (i : Nat), K0 = 64 - i ∧ E0 = [(0, strV page), (1, XG x), (2, XG (y &&& ~~~x)), (11, .bool true), (12, ptrV b 0), (17, intV (i : Int))] ∧ Sat W0 [Un b p (10000) 2 (194) (256) A, F] ∧ (i ≤ 64)) (L0 := [(0, _), (1, _), (2, _), (11, _), (12, _), (17, _)]) (64) (Wf rfl rfl rfl rfl rfl rfl) ⟨0, by omega, rfl, hS21.pick [0, 1] rfl, by omega⟩ ?_
 rintro _ _ w37 ⟨i, rfl, rfl, hS37, hi⟩
 refine Qd (Qd (Qa (Qb rfl rfl ?_)))
 refine Xt rfl rfl rfl ?_
 refine Qf (Qc ?_)
 refine Qx rfl (fun h38 => ?_) (fun h38 => ?_)
 ·obtain ⟨co, hco⟩ : ∃ co, page[i]? = some co := ⟨_, List.getElem?_eq_getElem (by omega)⟩
  refine Qy (Qc (Qd (Q1 (Qd (Qa (Qb rfl rfl (Qb rfl rfl ?_)))))))
  refine ZW i Tryz.underlying9 rfl rfl rfl hco rfl ?_
  refine Qb rfl rfl (Qb rfl rfl ?_)
  refine JY Tryz.underlying3 Tryz.underlying31 rfl (GM (by omega)) rfl ?_
  refine J5 i rfl rfl (by omega) rfl ?_
  refine WL (b := 1#64) rfl rfl rfl ?_
  refine Y3 ((x >>> i) &&& 1#64).toNat Tryz.underlying22 Tryz.underlying5 rfl (by rfl) rfl ?_
  refine Y4 rfl rfl (R8 _ _) rfl ?_
  refine Qb rfl rfl (Qb rfl rfl ?_)
  refine JY Tryz.underlying3 Tryz.underlying31 rfl (GM (by omega)) rfl ?_
  refine J5 i rfl rfl (by omega) rfl ?_
  refine WL (b := 1#64) rfl rfl rfl ?_
  refine Y3 (((y &&& ~~~x) >>> i) &&& 1#64).toNat Tryz.underlying22 Tryz.underlying5 rfl (by rfl) rfl ?_
  refine wl_mulW rfl rfl (u8_mul 2 _) rfl ?_
  refine Y4 rfl rfl (R8 _ _) rfl ?_
  refine Qe rfl rfl (Qf (Qc ?_))
  refine Qh (L' := [(18, _), (0, _), (1, _), (2, _), (11, _), (12, _), (17, _)]) (WK rfl rfl rfl rfl rfl rfl rfl) ?_
  refine Qd (Qa (Qb rfl rfl (Qb rfl rfl ?_)))
  have hC39 := hS37.split [0] [true, false] rfl; dsimp only [QC, Qz, Q9, Q8, Q7] at hC39
  refine Qo K2 rfl (RT hC39 (by omega) (by decide) (i : Int) (by omega)) rfl ?_
  rintro e w39 ⟨_, rfl, rfl, hS39⟩; refine ⟨_, rfl, ?_⟩
  replace hS39 := hS39.join rfl; dsimp only [QU, QT, Q8, Q7] at hS39; clear hC39
  clear hS37
  rw [want_eq (by omega) hco, show btA (A.pres kO) (i : Int) = GF page x (y &&& ~~~x) i from hP i (by omega)]
  refine Qb rfl rfl ?_
  refine Xh rfl rfl rfl ?_
  refine Qf (Qc ?_)
  refine Qh (L' := [(152, _), (0, _), (1, _), (2, _), (11, _), (12, _), (17, _)]) (WK rfl rfl rfl rfl rfl rfl rfl) ?_
  refine Qx rfl (fun h40 => ?_) (fun h40 => ?_)
  ·exact absurd rfl h40
  refine Qy (Qp (Qc (Qa (Qb rfl rfl ?_))))
  refine QN rfl rfl (by omega) (by omega) rfl ?_
  refine Qe rfl rfl (Qf ?_)
  exact QG (L1 := [(0, _), (1, _), (2, _), (11, _), (12, _), (17, intV ((i + 1 : Nat) : Int))]) (Wf rfl rfl rfl rfl rfl rfl) (k1 := 64 - (i + 1)) (by omega) ⟨i + 1, by omega, rfl, hS39.pick [0, 1] rfl, by omega⟩
 refine QZ (Qv (Qv (Q4 (Qc (Qd (Qa (Qb rfl rfl (Qe rfl rfl (Qf (Qc (Q0 ?_)))))))))))
 refine QV (.inr rfl) rfl rfl ?_
 exact ⟨_, rfl, rfl, hS37.pick [1] rfl⟩
end Go.Proofs.YtkcjfoaejijdoaaGreatDoor
/- How the arguments of a law read: a relation between cells and plain data for each type, built by shape; and the step from a law's contract to its row. -/
namespace Go.Proofs.YtkcjfoaejijdoaaGreatDoor.M
open Go.ChangeShapes Go.WideShapes Go.ChangeAt Go.RowKit Go.Deep
/-- the cells cs lie at ⟨b, off⟩ -/
def At (w : World) (b off : Nat) (cs : List Value) : Prop := ∀ j v, cs[j]? = some v → w.cell? ⟨b, off + j, none⟩ = some v
theorem At.cell {w : World} {b off : Nat} {cs : List Value} (h : At w b off cs) (j : Nat) {v : Value} (hv : cs[j]? = some v) : w.cell? ⟨b, off + j, none⟩ = some v := h j v hv
theorem At.below {B : Nat} {w w' : World} {b off : Nat} {cs : List Value} (h : At w b off cs) (hb : Below B w w') (hB : b < B) : At w' b off cs :=
  fun j v hv => (hb.cell (p := ⟨b, off + j, none⟩) hB).trans (h j v hv)
/-- a type, read as α -/
structure Cod (P : Program) (t : TypeId) (α : Type) where
  rd : World → List Value → α → Prop
  size : Nat
  cells : P.cellsOf t = size
  down : ∀ {H : Type} {enc : TypeId × Value → H} {w : World} {base : Nat} {spare : Nat → Bool} {held : Bool} {fuel : Nat} {cs : List Value} {x : DataW H × List MemPlace},
    DataW.trod enc P w base spare held fuel t cs = some x → ∃ a, rd w cs a
  len : ∀ {w cs a}, rd w cs a → cs.length = size
  keep : ∀ {w w' cs a}, Below w.heap.size w w' → rd w cs a → rd w' cs a
section
variable {P : Program}
def Cod.int {t : TypeId} (k : IntKind) (ht : P.underlying t = some (.int k)) (hc : P.cellsOf t = 1) : Cod P t Int where
  rd := fun _ cs n => cs = [.int k n] ∧ (Lit.int k n).wf = true
  size := 1
  cells := hc
  down := fun h => by
    obtain ⟨n, h1, _, h2⟩ := DataW.trod_int ht h
    exact ⟨n, h1, h2⟩
  len := fun h => by rw [h.1]; rfl
  keep := fun _ h => h
def Cod.byte {t : TypeId} (ht : P.underlying t = some (.int .u8)) (hc : P.cellsOf t = 1) : Cod P t UInt8 where
  rd := fun _ cs n => cs = [.int .u8 (n.toNat : Int)]
  size := 1
  cells := hc
  down := fun h => by
    obtain ⟨n, h1, _, h2⟩ := DataW.trod_int ht h
    have hb := bounds_u8 h2
    refine ⟨UInt8.ofNat n.toNat, ?_⟩
    have e : ((UInt8.ofNat n.toNat).toNat : Int) = n := by simp; omega
    rw [e]; exact h1
  len := fun h => by rw [h]; rfl
  keep := fun _ h => h
def Cod.bool {t : TypeId} (ht : P.underlying t = some .bool) (hc : P.cellsOf t = 1) : Cod P t Bool where
  rd := fun _ cs n => cs = [.bool n]
  size := 1
  cells := hc
  down := fun h => by
    obtain ⟨n, h1, _⟩ := DataW.trod_bool ht h
    exact ⟨n, h1⟩
  len := fun h => by rw [h]; rfl
  keep := fun _ h => h
def Cod.string {t : TypeId} (ht : P.underlying t = some .string) (hc : P.cellsOf t = 1) : Cod P t ByteArray where
  rd := fun _ cs s => cs = [.string s] ∧ s.size ≤ 9223372036854775807
  size := 1
  cells := hc
  down := fun h => by
    obtain ⟨n, h1, _, h2⟩ := DataW.trod_string ht h
    exact ⟨n, h1, h2⟩
  len := fun h => by rw [h.1]; rfl
  keep := fun _ h => h
/-- a slice's value v reads as l: each element's cells lie in its place -/
def SliceRd {α : Type} (rd : World → List Value → α → Prop) (size : Nat) (w : World) (v : Value) (l : List α) : Prop :=
  ∃ ao cap, v = .slice ao l.length cap ∧ l.length ≤ cap ∧ cap ≤ 9223372036854775807 ∧ ∀ (i : Nat) (a : α), l[i]? = some a → ∃ b off cs, ao = some ⟨b, off, none⟩ ∧ b < w.heap.size ∧ At w b (off + i * size) cs ∧ rd w cs a
def Cod.slice {t e : TypeId} {α : Type} [Inhabited α] (ht : P.underlying t = some (.slice e)) (hc : P.cellsOf t = 1) (c : Cod P e α) (hpos : 0 < c.size) : Cod P t (List α) where
  rd := fun w cs l => ∃ v, cs = [v] ∧ SliceRd c.rd c.size w v l
  size := 1
  cells := hc
  down := fun {H enc w base spare held fuel cs x} h => by
    rcases open_slice ht h with ⟨rfl, _⟩ | ⟨a, len, cap, m, n, D, Pl, rfl, hb, hl, hm, hmm, _, hx⟩
    · exact ⟨[], _, rfl, none, 0, rfl, Nat.le_refl _, by omega, fun i a hi => by simp at hi⟩
    · have hlm : len ≤ m := by rw [hmm]; split <;> omega
      have hex : ∀ i, i < len → ∃ y : α, ∃ cs', c.rd w cs' y ∧ (∀ j v, cs'[j]? = some v → w.cell? (a.add (i * c.size + j)) = some v) := by
        intro i hi
        obtain ⟨cs', h1, h2⟩ := hx i (by omega)
        obtain ⟨y, hy⟩ := c.down h2
        obtain ⟨_, hlen, hat⟩ := World.cells?_some h1
        refine ⟨y, cs', hy, fun j v hv => ?_⟩
        have hj : j < cs'.length := (List.getElem?_eq_some_iff.1 hv).1
        rw [c.cells] at hlen hat
        rw [← Go.Deep.add_add, hat j (by omega), hv]
      obtain ⟨f, hf⟩ := choose_lt hex
      refine ⟨(List.range len).map f, _, rfl, some a, cap, by simp, by simpa using hl, hm, fun i y hi => ?_⟩
      have hil : i < len := by have := (List.getElem?_eq_some_iff.1 hi).1; simpa using this
      simp [hil] at hi
      subst hi
      obtain ⟨cs', hrd, hat⟩ := hf i hil
      have hcl := c.len hrd
      obtain ⟨b, off, spot⟩ := a
      have h0 := hat 0 cs'[0] (List.getElem?_eq_getElem (by omega))
      have hspot : spot = none := by
        have := World.cell?_spot h0
        unfold Addr.add at this
        split at this
        · exact this
        · obtain ⟨i0, hi0⟩ : ∃ i0, i0 < len ∧ i0 = 0 := ⟨0, by omega, rfl⟩
          obtain ⟨hi1, rfl⟩ := hi0
          obtain ⟨cs0, hrd0, hat0⟩ := hf 0 hi1
          have hcl0 := c.len hrd0
          have h00 := hat0 0 cs0[0] (List.getElem?_eq_getElem (by omega))
          have := World.cell?_spot h00
          simpa [Addr.add] using this
      subst hspot
      refine ⟨b, off, cs', rfl, ?_, fun j v hv => ?_, hrd⟩
      · have := block_lt_of_cell h0
        rw [Z3] at this
        exact this
      · have := hat j v hv
        rw [Z3] at this
        rw [Nat.add_assoc]; exact this
  len := fun ⟨v, h, _⟩ => by rw [h]; rfl
  keep := fun {w w' cs l} hb ⟨v, h1, ao, cap, h2, h3, h4, h5⟩ => ⟨v, h1, ao, cap, h2, h3, h4, fun i a hi => by
    obtain ⟨b, off, cs', e1, e2, e3, e4⟩ := h5 i a hi
    exact ⟨b, off, cs', e1, Nat.lt_of_lt_of_le e2 hb.size, e3.below hb e2, c.keep hb e4⟩⟩
/-- fields one behind the other -/
structure Flds (P : Program) (fs : List Field) (off : Nat) (α : Type) where
  rd : World → List Value → α → Prop
  size : Nat
  down : ∀ {H : Type} {enc : TypeId × Value → H} {w : World} {base : Nat} {spare : Nat → Bool} {held : Bool} {n : Nat} {cs : List Value} {xs : List (DataW H × List MemPlace)},
    (∀ (i : Nat) (f : Field), fs[i]? = some f → ∃ x, DataW.trod enc P w base spare held n f.type ((cs.drop f.offset).take (P.cellsOf f.type)) = some x) → ∃ a, rd w ((cs.drop off).take size) a
  len : ∀ {w cs a}, rd w cs a → cs.length = size
  keep : ∀ {w w' cs a}, Below w.heap.size w w' → rd w cs a → rd w' cs a
def Flds.nil (off : Nat) : Flds P [] off Unit where
  rd := fun _ cs _ => cs = []
  size := 0
  down := fun _ => ⟨(), by simp⟩
  len := fun h => by rw [h]; rfl
  keep := fun _ h => h
def Flds.cons {f : Field} {fs : List Field} {off : Nat} {α β : Type} (c : Cod P f.type α) (ho : f.offset = off) (r : Flds P fs (off + c.size) β) : Flds P (f :: fs) off (α × β) where
  rd := fun w cs a => ∃ cs1 cs2, cs = cs1 ++ cs2 ∧ c.rd w cs1 a.1 ∧ r.rd w cs2 a.2
  size := c.size + r.size
  down := fun {H enc w base spare held n cs xs} h => by
    obtain ⟨x, hx⟩ := h 0 f rfl
    rw [ho, c.cells] at hx
    obtain ⟨a, ha⟩ := c.down hx
    obtain ⟨b, hb⟩ := r.down (xs := xs) (fun i g hg => h (i + 1) g (by simpa using hg))
    refine ⟨(a, b), _, _, ?_, ha, hb⟩
    rw [← List.drop_drop]
    exact List.take_add ..
  len := fun ⟨cs1, cs2, h, h1, h2⟩ => by rw [h, List.length_append, c.len h1, r.len h2]
  keep := fun hb ⟨cs1, cs2, h, h1, h2⟩ => ⟨cs1, cs2, h, c.keep hb h1, r.keep hb h2⟩
def Cod.struct {t : TypeId} {fs : List Field} {α : Type} (ht : P.underlying t = some (.struct fs.toArray)) (r : Flds P fs 0 α) (hc : P.cellsOf t = r.size) : Cod P t α where
  rd := r.rd
  size := r.size
  cells := hc
  down := fun {H enc w base spare held fuel cs x} h => by
    obtain ⟨xs, n, _, _, hl, hxl, hf⟩ := DataW.trod_struct ht h
    obtain ⟨a, ha⟩ := r.down (xs := xs) (n := n) (enc := enc) (w := w) (base := base) (spare := spare) (held := held) (cs := cs) (fun i f hi => by
      have h1 := hf i f (by simpa using hi)
      have hil := (List.getElem?_eq_some_iff.1 hi).1
      rw [h1, List.getElem?_eq_getElem (by rw [hxl]; simpa using hil)]
      exact ⟨_, rfl⟩)
    refine ⟨a, ?_⟩
    rw [List.drop_zero, List.take_of_length_le (by omega)] at ha
    exact ha
  len := r.len
  keep := r.keep
/-- as another type -/
def Cod.map {t : TypeId} {α β : Type} (c : Cod P t α) (f : α → β) : Cod P t β where
  rd := fun w cs b => ∃ a, b = f a ∧ c.rd w cs a
  size := c.size
  cells := c.cells
  down := fun h => by obtain ⟨a, ha⟩ := c.down h; exact ⟨f a, a, rfl, ha⟩
  len := fun ⟨a, _, h⟩ => c.len h
  keep := fun hb ⟨a, e, h⟩ => ⟨a, e, c.keep hb h⟩
/-- the arguments are all read again behind a call that has changed nothing that was there -/
theorem U2 {H : Type} {enc : TypeId × Value → H} (hl : laidOutB P = true) {W W' : World} (hb : Below W.heap.size W W') :
    ∀ (ts : List TypeId) (vs : List Value) (ds : List (DataW H)) (ps : List MemPlace), (∀ t ∈ ts, P.readableRec t = true ∧ t < P.types.size) →
      DataW.TrodAll enc P W 0 (fun _ => true) true ts vs ds ps → DataW.TrodAll enc P W' 0 (fun b => decide (b < W.heap.size)) true ts vs ds ps
  | [], vs, ds, ps, _, h => by
    obtain ⟨rfl, rfl, rfl⟩ := trodAll_nil h
    exact rfl
  | t :: ts, vs, ds, ps, hr, h => by
    obtain ⟨v, vs', d, ds', p, q, rfl, rfl, rfl, h0, h1⟩ := trodAll_cons h
    have lt0 : ∀ x ∈ p, x.block < W.heap.size := by obtain ⟨m, hm⟩ := h0; exact DataW.trod_lt m _ _ _ hm
    obtain ⟨r1, r2⟩ := hr t (by simp)
    exact trodAll_cons_mk (Below.trod hl r1 r2 h0 hb lt0) (U2 hl hb ts vs' ds' q (fun t ht => hr t (by simp [ht])) h1)
end
end Go.Proofs.YtkcjfoaejijdoaaGreatDoor.M
/- laws of leaves: how the arguments read -/
namespace Go.Proofs.YtkcjfoaejijdoaaGreatDoor
open Go.RowKit M
set_option linter.unusedVariables false
theorem ent_gt {W : World} (h : GT W) : Ent (RW W) GT := Ent.frame fun w hb j hj => (hb.cell (block_lt_of_cell (h j hj))).trans (h j hj)
theorem Nn {W w : World} (h : Sat w [RW W]) : Below W.heap.size W w := h.below 0 rfl
theorem MY {a : Int} (h : (Lit.int .u64 a).wf = true) : ∃ x : BitVec 64, Value.int .u64 a = XG x := by
  simp [Lit.wf, IntKind.min, IntKind.max, IntKind.signed, IntKind.bits] at h
  refine ⟨BitVec.ofNat 64 a.toNat, ?_⟩
  unfold XG
  rw [BitVec.toNat_ofNat]
  congr 1
  omega
theorem strV_of (s : ByteArray) : Value.string s = strV s.data.toList := by
  cases s
  simp [strV]
theorem NE {W : World} {s : ByteArray} {a b c : Int} {t : Bool} (hG : GT W) (w0 : s.size ≤ 9223372036854775807) (w1 : (Lit.int .u64 a).wf = true) (w2 : (Lit.int .u64 b).wf = true) (w3 : (Lit.int .u64 c).wf = true) :
    Calls Tryz.prog 3 #[.string s, .int .u64 a, .int .u64 b, .int .u64 c, .bool t] W fun e W' => e = .returned (.bool true) ∧ Below W.heap.size W W' := by
  obtain ⟨x, h1⟩ := MY w1
  obtain ⟨y, h2⟩ := MY w2
  obtain ⟨z, h3⟩ := MY w3
  rw [h1, h2, h3, strV_of]
  exact (NF (Sat.start W) (ent_gt hG) s.data.toList x y z t).mono fun e W' ⟨v, h4, h5, h6⟩ => ⟨by rw [h4, h5], Nn h6⟩
end Go.Proofs.YtkcjfoaejijdoaaGreatDoor
