/- leaves: Drop -/
import Derived.Test.YtkcjfoaejijdoaaGreatDoorLv11
import Derived.Test.YtkcjfoaejijdoaaGreatDoorLvm
import Derived.Shelf.Spec.TrailingZeros
namespace Go.Proofs.YtkcjfoaejijdoaaGreatDoor
open Go.RowKit M
set_option linter.unusedVariables false
open Classical in
noncomputable def ZT {κ α : Type} (P : κ → Prop) (z : α) (p : κ → α) : κ → α := fun j => if P j then z else p j
theorem Dx {κ α : Type} {z : α} {p : κ → α} : ZT (fun _ => False) z p = p := by funext j; simp [ZT]
theorem UX {κ α : Type} {P Q : κ → Prop} {z : α} {p : κ → α} (h : ∀ j, P j ↔ Q j) : ZT P z p = ZT Q z p := by
  have : P = Q := funext fun j => propext (h j)
  rw [this]
def inD (l : List KD) (ob : Bs) : KD → Prop := fun j => j ∈ l ∧ j.1 = ob
theorem Sc {l : List KD} {i : Nat} {k : KD} (hk : l[i]? = some k) {ob : Bs} (h : k.1 = ob) (j : KD) : inD (l.take (i + 1)) ob j ↔ (j = k ∨ inD (l.take i) ob j) := by
  unfold inD
  rw [List.take_add_one, hk]
  simp only [Option.toList_some, List.mem_append, List.mem_singleton]
  constructor
  · rintro ⟨a | a, b⟩
    · exact .inr ⟨a, b⟩
    · exact .inl a
  · rintro (rfl | ⟨a, b⟩)
    · exact ⟨.inr rfl, h⟩
    · exact ⟨.inl a, b⟩
theorem Sd {l : List KD} {i : Nat} {k : KD} (hk : l[i]? = some k) {ob : Bs} (h : k.1 ≠ ob) (j : KD) : inD (l.take (i + 1)) ob j ↔ inD (l.take i) ob j := by
  unfold inD
  rw [List.take_add_one, hk]
  simp only [Option.toList_some, List.mem_append, List.mem_singleton]
  constructor
  · rintro ⟨a | a, b⟩
    · exact ⟨a, b⟩
    · subst a; exact absurd b h
  · rintro ⟨a, b⟩; exact ⟨.inl a, b⟩
theorem HQ {κ α : Type} {P Q : κ → Prop} {z : α} {p : κ → α} {k : κ} (h : ∀ j, Q j ↔ (j = k ∨ P j)) : ZT Q z p = HV (ZT P z p) k z := by
  funext j
  by_cases e : j = k
  · subst e; rw [X6]; unfold ZT; rw [if_pos ((h j).2 (.inl rfl))]
  · rw [XK e]; unfold ZT
    by_cases q : P j
    · rw [if_pos q, if_pos ((h j).2 (.inr q))]
    · rw [if_neg q, if_neg fun a => ((h j).1 a).elim e q]
theorem CU {p : KD → Int} {k : KD} {s : Int} : XY p k s = HV p k s := by
  funext j
  by_cases e : j = k
  · subst e; rw [X6]; simp [XY]
  · rw [XK e]; simp [XY, e]
/-- an object is dropped -/
noncomputable def dropP (A : LvA) (ob : Bs) : LvA := { A with pres := ZT (fun j => j.1 = ob) zer A.pres }
open Classical in
noncomputable def Z7 (P : KD → Prop) (f : KD → Option LfA) : KD → Option LfA := fun j => if P j then (f j).map fun x => MK x zer else f j
noncomputable def HK (A : LvA) (id : Int) (ob : Bs) : LvA := match A.tr id with | none => A | some t => { A with tr := Xi A.tr id (some { t with lv := Z7 (fun j => j.1 = ob) t.lv, dr := JE t.dr ob }) }
theorem Tx {f : KD → Option LfA} {ob : Bs} : Z7 (inD [] ob) f = f := by funext j; simp [Z7, inD]
theorem Gk {P Q : KD → Prop} {f : KD → Option LfA} (h : ∀ j, f j ≠ none → (P j ↔ Q j)) : Z7 P f = Z7 Q f := by
  funext j
  unfold Z7
  cases q : f j with
  | none => simp
  | some x =>
    have := h j (by rw [q]; simp)
    by_cases e : P j
    · rw [if_pos e, if_pos (this.1 e)]
    · rw [if_neg e, if_neg fun a => e (this.2 a)]
theorem N3 {P Q : KD → Prop} {f : KD → Option LfA} {k : KD} {x : LfA} (h : ∀ j, Q j ↔ (j = k ∨ P j)) (hk : Z7 P f k = some x) : Z7 Q f = Xi (Z7 P f) k (some (MK x zer)) := by
  funext j
  by_cases e : j = k
  · subst e
    rw [Q3]
    unfold Z7 at hk ⊢
    rw [if_pos ((h j).2 (.inl rfl))]
    split at hk
    · cases q : f j with
      | none => rw [q] at hk; cases hk
      | some y => rw [q] at hk; simp only [Option.map_some, Option.some.injEq] at hk ⊢; subst hk; rfl
    · rw [hk]; rfl
  · rw [QH e]
    unfold Z7
    by_cases q : P j
    · rw [if_pos q, if_pos ((h j).2 (.inr q))]
    · rw [if_neg q, if_neg fun a => ((h j).1 a).elim e q]
theorem Yp {i : Int} : ∀ {l : List KD}, l.Nodup → (l.map fun k => (i, k)).Nodup
  | [], _ => List.nodup_nil
  | a :: l, h => by
    rw [List.nodup_cons] at h
    rw [List.map_cons, List.nodup_cons]
    refine ⟨fun q => ?_, Yp h.2⟩
    obtain ⟨b, hb, e⟩ := List.mem_map.1 q
    cases e
    exact h.1 hb
theorem SzLe.keysP {L : LvD} {c : Nat} (h : SzLe L c) {ks : List KD} (hc : Came (Zn L.pres) ks) : ks.length ≤ c := by
  obtain ⟨l, a, b, d⟩ := h
  have := Wl (Yp (i := 0) hc.nodup) (b := l) fun x hx => by
    obtain ⟨k, hk, rfl⟩ := List.mem_map.1 hx
    exact b k fun q => hc.has k hk (by unfold Zn; rw [if_pos q])
  simp at this; omega
theorem SzLe.keysL {L : LvD} {c : Nat} {i : Int} {t : TrD} (h : SzLe L c) (ht : L.tr i = some t) {ks : List KD} (hc : Came (XU LfD.ad t.lv) ks) : ks.length ≤ c := by
  obtain ⟨l, a, b, d⟩ := h
  have := Wl (Yp (i := i) hc.nodup) (b := l) fun x hx => by
    obtain ⟨k, hk, rfl⟩ := List.mem_map.1 hx
    have h1 := hc.has k hk
    cases q : t.lv k with
    | none => exact absurd (by unfold XU; rw [q]; rfl) h1
    | some x => exact d i t k x ht q
  simp at this; omega
theorem SzLe.subP {L L' : LvD} {c : Nat} (h : SzLe L c) (hp : ∀ k, L'.pres k ≠ 0 → L.pres k ≠ 0) (hT : L'.tr = L.tr) : SzLe L' c := by
  obtain ⟨l, a, b, d⟩ := h
  exact ⟨l, a, fun k hk => b k (hp k hk), fun i t k x ht hx => d i t k x (by rwa [hT] at ht) hx⟩
theorem allP {p : KD → Int} {ks : List KD} (h : AllC (Zn p) ks) (k : KD) : k ∈ QK ks ↔ p k ≠ 0 := by
  rw [(Jt ks).mem_iff, h.mem]
  unfold Zn
  by_cases e : p k = 0
  · simp [e]
  · simp [e]
theorem SZ {f : KD → Option LfD} {ks : List KD} (h : AllC (XU LfD.ad f) ks) (k : KD) : k ∈ QK ks ↔ f k ≠ none := by
  rw [(Jt ks).mem_iff, h.mem]
  unfold XU
  cases f k <;> simp
theorem Y5 {ks : List KD} (h : ks.Nodup) : (QK ks).Nodup := (Jt ks).nodup_iff.2 h
theorem TD {L : LvD} {V : VS} {l : List KD} {ob : Bs} (h0 : V 0 = none) (hl : ∀ k, k ∈ l ↔ L.pres k ≠ 0) : ZT (inD l ob) zer (Q5 L V).pres = ZT (fun j => j.1 = ob) zer (Q5 L V).pres := by
  funext j
  unfold ZT inD
  by_cases e : j.1 = ob
  · by_cases q : j ∈ l
    · rw [if_pos ⟨q, e⟩, if_pos e]
    · rw [if_neg fun a => q a.1, if_pos e]
      have : L.pres j = 0 := Classical.byContradiction fun a => q ((hl j).2 a)
      show XL V (L.pres j) = zer
      rw [this, WO h0]
  · rw [if_neg fun a => e a.2, if_neg e]
set_option maxRecDepth 100000 in
set_option maxHeartbeats 800000000 in
theorem S5 {w : World} {ex : Int → Int} {m : Nat} {b n Fr : Nat} {L : LvD} {V : VS} {F : Th} (hS : Sat w [ZU b L, Zu L.sp n Fr V, F]) {c : Nat} (hc : SzLe L c) (hn : n + 2 * c ≤ 600000000) (hI : LvX ex m L V) (hx : NN ex) (ob : Bs) :
    Calls Tryz.prog 27 #[ptrV b 0, intV 0, strV ob] w (Ret fun v w' => ∃ L' V', StepX ex m L V ex m 0 0 L' V' ∧ Q5 L' V' = dropP (Q5 L V) ob ∧ OthK L L' 0 (fun _ => False) ∧ Sat w' [ZU b L', Zu L'.sp (n + 2 * c) Fr V', F]) := by
 replace hS := XP hS
 refine Qt Tryz.func27 rfl Tryz.ntmps27 rfl ?_
 refine Qd (Qd (Qa (Qb rfl rfl ?_)))
 refine X1 rfl rfl rfl ?_
 refine Qf (Qc ?_)
 refine Qx rfl (fun h1 => ?_) (fun h1 => ?_)
 ·refine Qd (Qd (Qa (Qb rfl rfl (Qj rfl rfl ?_))))
  refine Qg rfl Un rfl ?_
  refine Qu rfl Gx (by exact hS.cell 0 rfl rfl) rfl ?_
  have hC2 := hS.split [1] [false, true, false, false, false, false, false] rfl; dsimp only [Q9, Qz, Q8, cap, Q7] at hC2
  refine Qo T8 rfl (RT hC2 (fun ks h => by have := hc.keysP h; omega)) rfl ?_
  rintro e w2 ⟨_, rfl, ks, hks, hS2⟩; refine ⟨_, rfl, ?_⟩
  replace hS2 := hS2.join rfl; dsimp only [QT, QS, cap, Q7] at hS2; clear hC2
  obtain ⟨ar, cr, hvr, _⟩ := hS2.own_shape 0 rfl; obtain rfl := hvr
  refine XT Tryz.underlying98 rfl rfl ?_
  refine Qb rfl rfl (Qf (Qc ?_))
  refine Qh (L' := [(20, _), (19, _), (18, _), (0, _), (1, _), (2, _)]) (We rfl rfl rfl rfl rfl rfl) ?_
  refine Q1 ?_
  have hz := QX (hS2.pick [2, 1, 3, 4, 5, 0, 6, 7] rfl)
  have hlk : (QK ks).length ≤ c := by rw [ZY]; exact hc.keysP (Came.of_all hks)
  refine Xv (fun K0 E0 W0 => ∃ (i : Nat) (L1 : LvD) (V1 : VS), K0 = (QK ks).length - i ∧ E0 = [(0, ptrV b 0), (2, strV ob), (18, .slice ar (QK ks).length cr), (19, intV ((QK ks).length : Int)), (20, intV (i : Int))] ∧ Sat W0 [ZU b L1, Zu L1.sp (n + i) Fr V1, rowT kC (.slice ar (QK ks).length cr) (QK ks), F] ∧ (i ≤ (QK ks).length) ∧ (LvX ex m L1 V1) ∧ (L1.sp = L.sp) ∧ (∀ c, AliveLe V c → AliveLe V1 c) ∧ (Pgs V V1) ∧ (L1.pres = ZT (inD ((QK ks).take i) ob) 0 L.pres) ∧ (L1.tr = L.tr) ∧ (Q5 L1 V1 = { Q5 L V with pres := ZT (inD ((QK ks).take i) ob) zer (Q5 L V).pres })) (L0 := [(0, _), (2, _), (18, _), (19, _), (20, _)]) ((QK ks).length) (ZG rfl rfl rfl rfl rfl) ⟨0, L, V, by omega, rfl, hz.pick [0, 2, 1, 3] rfl, by omega, hI, rfl, fun _ q => q, .refl, by rw [UX (Q := fun _ => False) (by simp [inD]), Dx], rfl, by rw [UX (Q := fun _ => False) (by simp [inD]), Dx]⟩ ?_
  rintro _ _ w3 ⟨i, L1, V1, rfl, rfl, hS3, hi, hI1, hsp, hal, hpg, hp, hT, hab⟩
  refine Qd (Qa ?_)
  refine Xr rfl rfl rfl ?_
  refine Qf (Qc (Qd ?_))
  refine Qx rfl (fun h4 => ?_) (fun h4 => ?_)
  ·obtain ⟨k, hk⟩ : ∃ k, (QK ks)[i]? = some k := ⟨_, List.getElem?_eq_getElem (by omega)⟩
   refine Qy (Qc (Qd (Q1 (Qd (Qa ?_)))))
   refine Xo kC 2 i hS3 rfl rfl rfl (by rfl) hk KI rfl ?_
   intro bx5 capx5 hvx5
   refine Z9 2 i hS3 rfl hvx5 rfl hk XA Xb rfl rfl ?_
   refine Xk hS3 Wo rfl rfl ?_
   intro kb wk6 hk6
   clear hS3
   refine QZ hk6 rfl rfl Xb rfl (by rfl) (i := 0) rfl (by decide) ?_
   intro wk7 hk7; dsimp only [List.set] at hk7
   clear hk6
   replace hk7 := XQ (k := k) hk7
   refine Qf (Qc (Qd (Qa ?_)))
   refine Qg rfl JP rfl ?_
   refine Qu rfl Yy (by exact hk7.cell 0 rfl rfl) rfl ?_
   refine Qb rfl rfl ?_
   refine KX rfl rfl rfl ?_
   refine Qf (Qc ?_)
   refine Qh (L' := [(27, _), (7, _), (0, _), (2, _), (18, _), (19, _), (20, _)]) (WJ rfl rfl rfl rfl rfl rfl rfl) ?_
   refine Qx rfl (fun h8 => ?_) (fun h8 => ?_)
   ·have hob : k.1 = ob := h8
    refine Qa (Qb rfl rfl ?_)
    refine XW rfl XA Xb (by first | exact hk7.blk 0 rfl) (by exact Nat.le_of_ble_eq_true rfl) rfl rfl ?_
    have hC9 := hk7.split [1, 2] [false, true, true, false, false] rfl; dsimp only [Q9, Qz, Q8, cap, Q7] at hC9
    refine Qo Gq rfl (BG hC9 (by omega) k 0) rfl ?_
    rintro e w9 ⟨_, rfl, rfl, hS9⟩; refine ⟨_, rfl, ?_⟩
    replace hS9 := hS9.join rfl; dsimp only [QT, QS, cap, Q7] at hS9; clear hC9
    clear hk7
    refine Qf (Qp (Qc (Qa ?_)))
    refine QM rfl rfl (by omega) (by omega) rfl ?_
    refine Qb rfl rfl (Qf ?_)
    obtain ⟨hs1, hs2⟩ := Ub (s := 0) (k := k) hI1 hx (fun q => absurd rfl q) (Js V1 L1.sh (L1.pres k))
    have hI2 := hs1.inv.ext (ex' := ex) fun j hj => by rw [Wz hj]; omega
    exact QF (L1 := [(0, _), (2, _), (18, _), (19, _), (20, intV ((i + 1 : Nat) : Int))]) (ZG rfl rfl rfl rfl rfl) (k1 := (QK ks).length - (i + 1)) (by omega) ⟨i + 1, _, _, by omega, rfl, hS9.pick [0, 1, 3, 4] rfl, by omega, hI2, hs1.sp.trans hsp, fun c q => hs1.al c (hal c q), hpg.trans hs1.pg, by dsimp only; rw [hp, CU, HQ (Sc hk hob)], hT, by rw [hs2, hab, HQ (Sc hk hob), WO hI1.zero]⟩
   have hob : k.1 ≠ ob := h8
   refine Qy (Qp (Qc (Qa ?_)))
   refine QM rfl rfl (by omega) (by omega) rfl ?_
   refine Qb rfl rfl (Qf ?_)
   exact QF (L1 := [(0, _), (2, _), (18, _), (19, _), (20, intV ((i + 1 : Nat) : Int))]) (ZG rfl rfl rfl rfl rfl) (k1 := (QK ks).length - (i + 1)) (by omega) ⟨i + 1, L1, V1, by omega, rfl, (Xw (m := n + (i + 1)) (by omega) (hk7.pick [2, 1, 3, 4] rfl)).reorder [1, 0, 2, 3] rfl, by omega, hI1, hsp, hal, hpg, by rw [hp, UX (Sd hk hob)], hT, by rw [hab, UX (Sd hk hob)]⟩
  refine QY (Qv (Qv (Q4 (Qc (Q0 (Qs ?_))))))
  refine W3 (.inr rfl) rfl ?_
  have hil : i = (QK ks).length := by omega
  rw [hil, List.take_length] at hp hab
  exact ⟨_, rfl, L1, V1, ⟨hI1, hsp, fun c q => hal c q, fun c q => q.subP (fun j hj => by rw [hp] at hj; unfold ZT at hj; split at hj; exact absurd rfl hj; exact hj) hT, hpg⟩, by rw [hab, TD hI.zero (allP hks)]; rfl, Tw (fun j hj => by rw [hp] at hj; unfold ZT at hj; split at hj; exact absurd rfl hj; exact hj) hT, (Xw (m := n + 2 * c) (by omega) (hS3.pick [1, 0, 3] rfl)).reorder [1, 0, 2] rfl⟩
 exact absurd rfl h1
end Go.Proofs.YtkcjfoaejijdoaaGreatDoor
/- leaves: Drop in a trial -/
namespace Go.Proofs.YtkcjfoaejijdoaaGreatDoor
open Go.RowKit M
set_option linter.unusedVariables false
theorem Ju {L : LvD} {id : Int} {t : TrD} {k : KD} {x : LfD} (ht : L.tr id = some t) (hx : t.lv k = some x) : Zi L id t k x = L := by
  unfold Zi
  rw [Yj hx, Yj ht]
/-- leaves of a trial are changed in memory as they are by contents -/
def DrI (L L1 : LvD) (V V1 : VS) (id : Int) (t : TrD) (l : List KD) (ob : Bs) : Prop :=
  ∃ g : KD → Option LfD, L1.tr = Xi L.tr id (some { t with lv := g }) ∧ L1.pres = L.pres ∧ (∀ k, (g k = none ↔ t.lv k = none) ∧ ∀ x, g k = some x → ∃ y, t.lv k = some y ∧ y.ad = x.ad) ∧
    Q5 L1 V1 = { Q5 L V with tr := Xi (Q5 L V).tr id (some { Zj V t with lv := Z7 (inD l ob) (Zj V t).lv }) }
theorem DrI.start {L : LvD} {V : VS} {id : Int} {t : TrD} {ob : Bs} (ht : L.tr id = some t) : DrI L L V V id t [] ob := by
  refine ⟨t.lv, (Yj ht).symm, rfl, fun k => ⟨Iff.rfl, fun x hx => ⟨x, hx, rfl⟩⟩, ?_⟩
  rw [Tx]
  have := Yj (f := (Q5 L V).tr) (k := id) (Zq ht)
  show Q5 L V = { Q5 L V with tr := Xi (Q5 L V).tr id (some (Zj V t)) }
  rw [this]
theorem DrI.F {L L1 : LvD} {V V1 : VS} {id : Int} {t : TrD} {l : List KD} {i : Nat} {k : KD} {ob : Bs} (h : DrI L L1 V V1 id t (l.take i) ob) (hk : l[i]? = some k) (hob : k.1 ≠ ob) : DrI L L1 V V1 id t (l.take (i + 1)) ob := by
  obtain ⟨g, a, b, c, d⟩ := h
  refine ⟨g, a, b, c, ?_⟩
  rw [d, Gk fun j _ => (Sd hk hob j).symm]
theorem DrI.T {L L1 : LvD} {V V1 V2 : VS} {id : Int} {t t1 : TrD} {l : List KD} {i : Nat} {k : KD} {x y : LfD} {ob : Bs} {f : Int → Bool} (h : DrI L L1 V V1 id t (l.take i) ob) (hk : l[i]? = some k) (hob : k.1 = ob) (ht1 : L1.tr id = some t1) (hx : t1.lv k = some x) (hy : y.ad = x.ad)
    (hab : Q5 (Zi { L1 with sh := f } id t1 k y) V2 = Zs (Q5 L1 V1) id k (MK (ZF V1 x) zer)) : DrI L (Zi { L1 with sh := f } id t1 k y) V V2 id t (l.take (i + 1)) ob := by
  obtain ⟨g, a, b, c, d⟩ := h
  rw [a, Q3] at ht1
  cases ht1
  dsimp only at hx
  refine ⟨Xi g k (some y), ?_, b, fun j => ?_, ?_⟩
  · show Xi L1.tr id _ = _
    rw [a, Hg]
  · by_cases e : j = k
    · subst e
      rw [Q3]
      obtain ⟨z, hz, hza⟩ := (c j).2 x hx
      refine ⟨⟨(fun q => by cases q), (fun q => by rw [hz] at q; cases q)⟩, fun w hw => ?_⟩
      cases hw
      exact ⟨z, hz, hza.trans hy.symm⟩
    · rw [QH e]; exact c j
  · have htA : (Q5 L1 V1).tr id = some { Zj V t with lv := Z7 (inD (l.take i) ob) (Zj V t).lv } := by rw [d]; exact Q3
    have hxA : ({ Zj V t with lv := Z7 (inD (l.take i) ob) (Zj V t).lv } : TrA).lv k = some (ZF V1 x) := by
      have h1 := Zq (V := V1) (show L1.tr id = some { t with lv := g } by rw [a, Q3])
      rw [htA] at h1
      have h2 := Zp (V := V1) (t := { t with lv := g }) hx
      have h3 : ({ Zj V t with lv := Z7 (inD (l.take i) ob) (Zj V t).lv } : TrA) = Zj V1 { t with lv := g } := by simpa using h1
      rw [h3]; exact h2
    rw [hab, ZH htA, d]
    simp only [Hg]
    rw [N3 (Sc hk hob) hxA]
theorem N2 {V : VS} {t : TrD} {l : List KD} {ob : Bs} (hl : ∀ k, k ∈ l ↔ t.lv k ≠ none) : Z7 (inD l ob) (Zj V t).lv = Z7 (fun j => j.1 = ob) (Zj V t).lv :=
  Gk fun j hj => by
    have : t.lv j ≠ none := fun q => hj (HP q)
    unfold inD
    rw [hl]; simp [this]
theorem N1 {ex : Int → Int} {m : Nat} {L L1 : LvD} {V V1 : VS} {id : Int} {t : TrD} {l : List KD} {ob : Bs} {g : KD → Option LfD} (hI1 : LvX ex m L1 V1) (hsp : L1.sp = L.sp) (hal : ∀ c, AliveLe V c → AliveLe V1 c) (hpg : Pgs V V1) (hdr : DrI L L1 V V1 id t l ob) (ht : L.tr id = some t) (hl : ∀ k, k ∈ l ↔ t.lv k ≠ none)
    (hg1 : L1.tr = Xi L.tr id (some { t with lv := g })) (hg2 : L1.pres = L.pres) (hg3 : ∀ k, (g k = none ↔ t.lv k = none) ∧ ∀ x, g k = some x → ∃ y, t.lv k = some y ∧ y.ad = x.ad)
    (hg4 : Q5 L1 V1 = { Q5 L V with tr := Xi (Q5 L V).tr id (some { Zj V t with lv := Z7 (inD l ob) (Zj V t).lv }) }) :
    StepX ex m L V ex m 0 0 { L1 with tr := Xi L1.tr id (some { t with lv := g, dr := JE t.dr ob }) } V1 ∧ Q5 { L1 with tr := Xi L1.tr id (some { t with lv := g, dr := JE t.dr ob }) } V1 = HK (Q5 L V) id ob := by
  have ht1 : L1.tr id = some { t with lv := g } := by rw [hg1, Q3]
  generalize hL2 : ({ L1 with tr := Xi L1.tr id (some { t with lv := g, dr := JE t.dr ob }) } : LvD) = L2
  have hP : L2.pres = L1.pres := by subst hL2; rfl
  have hT : L2.tr = Xi L1.tr id (some { t with lv := g, dr := JE t.dr ob }) := by subst hL2; rfl
  have hf : ∀ q, Xe L2 q = Xe L1 q := fun q => by
    cases q with
    | inl j => simp [Xe, hP]
    | inr q =>
      obtain ⟨i, j, o⟩ := q
      simp only [Xe, hT]
      by_cases e : i = id
      · subst e; rw [Q3, ht1]
      · rw [QH e]
  have e1 : Q5 L2 V1 = HK (Q5 L V) id ob := by
    have h2 : Q5 L2 V1 = { Q5 L1 V1 with tr := Xi (Q5 L1 V1).tr id (some (Zj V1 { t with lv := g, dr := JE t.dr ob })) } := by
      unfold Q5
      rw [hP, hT]
      congr 1
      funext i
      by_cases e : i = id
      · subst e; rw [Q3, Q3]; rfl
      · rw [QH e, QH e]
    have h3 : Zj V1 { t with lv := g } = { Zj V t with lv := Z7 (inD l ob) (Zj V t).lv } := by
      have h4 := Zq (V := V1) ht1
      rw [hg4] at h4
      dsimp only at h4
      rw [Q3] at h4
      simpa using h4.symm
    have h5 : Zj V1 { t with lv := g, dr := JE t.dr ob } = { Zj V t with lv := Z7 (fun j => j.1 = ob) (Zj V t).lv, dr := JE t.dr ob } := by
      have h6 : (Zj V1 { t with lv := g, dr := JE t.dr ob }).lv = (Zj V1 { t with lv := g }).lv := rfl
      show (⟨t.parent, (Zj V1 { t with lv := g, dr := JE t.dr ob }).lv, JE t.dr ob⟩ : TrA) = _
      rw [h6, h3, N2 hl]
      rfl
    rw [h2, hg4, h5]
    unfold HK
    rw [Zq ht]
    dsimp only
    rw [Hg]
    rfl
  refine ⟨⟨⟨hI1.ref.fn hf, by rw [hT]; exact hI1.rank.same (Wj ht1 rfl), ?_⟩, by subst hL2; exact hsp, hal, fun c q => ?_, hpg⟩, e1⟩
  · have h7 : Q5 L2 V1 = { Q5 L1 V1 with tr := Xi (Q5 L1 V1).tr id (some (Zj V1 { t with lv := g, dr := JE t.dr ob })) } := by
      unfold Q5
      rw [hP, hT]
      congr 1
      funext i
      by_cases e : i = id
      · subst e; rw [Q3, Q3]; rfl
      · rw [QH e, QH e]
    rw [h7]
    intro i u k x hi hk
    dsimp only at hi
    by_cases e : i = id
    · subst e; rw [Q3] at hi; cases hi; exact hI1.agree i _ k x (Zq ht1) hk
    · rw [QH e] at hi; exact hI1.agree i u k x hi hk
  · obtain ⟨li, a, b, d⟩ := q
    refine ⟨li, a, fun k hk => b k (by rwa [hP, hg2] at hk), fun j u k x hj hk => ?_⟩
    rw [hT, hg1, Hg] at hj
    by_cases e : j = id
    · subst e
      rw [Q3] at hj
      cases hj
      obtain ⟨y, hy, _⟩ := (hg3 k).2 x hk
      exact d j t k y ht hy
    · rw [QH e] at hj; exact d j u k x hj hk
set_option maxRecDepth 100000 in
set_option maxHeartbeats 1600000 in
theorem S4 {w : World} {ex : Int → Int} {m : Nat} {b n Fr : Nat} {L : LvD} {V : VS} {F : Th} (hS : Sat w [ZU b L, Zu L.sp n Fr V, F]) {c : Nat} (hc : SzLe L c) (hn : n + 2 * c ≤ 600000000) (hI : LvX ex m L V) (hx : NN ex) {id : Int} {t : TrD} (ht : L.tr id = some t) (ob : Bs) :
    Calls Tryz.prog 27 #[ptrV b 0, intV id, strV ob] w (Ret fun v w' => ∃ L' V', StepX ex m L V ex m 0 0 L' V' ∧ Q5 L' V' = HK (Q5 L V) id ob ∧ OthK L L' id (fun _ => False) ∧ Sat w' [ZU b L', Zu L'.sp (n + 2 * c) Fr V', F]) := by
 have h0 : id ≠ 0 := hI.rank.none0 ht
 replace hS := XP hS
 refine Qt Tryz.func27 rfl Tryz.ntmps27 rfl ?_
 refine Qd (Qd (Qa (Qb rfl rfl ?_)))
 refine X1 rfl rfl rfl ?_
 refine Qf (Qc ?_)
 refine Qx rfl (fun h1 => ?_) (fun h1 => ?_)
 ·exact absurd h1 h0
 refine Qy (Qc (Qd (Qa (Qb rfl rfl (Qj rfl rfl ?_)))))
 refine Qg rfl Wy rfl ?_
 refine Qu rfl YC (by exact hS.cell 0 rfl rfl) rfl ?_
 refine Qb rfl rfl ?_
 refine Zd (k := id) 2 hS keysInt Tryz.underlying82 rfl rfl rfl H0 (u := ptrV t.ad 0) (Zr ht) rfl ?_
 refine Qe rfl rfl (Qf (Qc ?_))
 refine Qh (L' := [(8, _), (0, _), (2, _)]) (Y1 rfl rfl rfl) ?_
 refine Qd (Qd (Qa (Qb rfl rfl ?_)))
 refine ZW Tryz.underlying94 rfl rfl rfl ?_
 refine Qf (Qc ?_)
 refine Xl rfl ?_
 refine Qy (Qc (Qd (Qd ?_)))
 have hS2 := Z4 (hS.pick [3, 0, 1, 2, 4, 5, 6] rfl) ht
 refine Qa (Qb rfl rfl (Qj rfl rfl ?_))
 refine Qg rfl ZM rfl ?_
 refine Qu rfl Jo (by exact hS2.cell 0 rfl rfl) rfl ?_
 have hC3 := hS2.split [1] [false, true, false, false, false, false, false, false, false, false, false] rfl; dsimp only [Q9, Qz, Q8, cap, Q7] at hC3
 refine Qo T9 rfl (RU hC3 (fun ks h => by have := hc.keysL ht h; omega)) rfl ?_
 rintro e w3 ⟨_, rfl, ks, hks, hS3⟩; refine ⟨_, rfl, ?_⟩
 replace hS3 := hS3.join rfl; dsimp only [QT, QS, cap, Q7] at hS3; clear hC3
 clear hS2
 obtain ⟨ar, cr, hvr, _⟩ := hS3.own_shape 0 rfl; obtain rfl := hvr
 refine XT Tryz.underlying98 rfl rfl ?_
 refine Qb rfl rfl (Qf (Qc ?_))
 refine Qh (L' := [(46, _), (45, _), (44, _), (8, _), (0, _), (2, _)]) (We rfl rfl rfl rfl rfl rfl) ?_
 refine Q1 ?_
 have hS4 := Z5 ht (hS3.pick [2, 1, 3, 4, 5, 0, 6, 7, 8, 9, 10, 11] rfl)
 have hz := QX (hS4.pick [2, 3, 4, 0, 5, 1, 6, 7] rfl)
 have hlk : (QK ks).length ≤ c := by rw [ZY]; exact hc.keysL ht (Came.of_all hks)
 refine Xv (fun K0 E0 W0 => ∃ (i : Nat) (L1 : LvD) (V1 : VS), K0 = (QK ks).length - i ∧ E0 = [(0, ptrV b 0), (2, strV ob), (8, ptrV t.ad 0), (44, .slice ar (QK ks).length cr), (45, intV ((QK ks).length : Int)), (46, intV (i : Int))] ∧ Sat W0 [ZU b L1, Zu L1.sp (n + 2 * i) Fr V1, rowT kC (.slice ar (QK ks).length cr) (QK ks), F] ∧ (i ≤ (QK ks).length) ∧ (LvX ex m L1 V1) ∧ (L1.sp = L.sp) ∧ (∀ c, AliveLe V c → AliveLe V1 c) ∧ (Pgs V V1) ∧ (DrI L L1 V V1 id t ((QK ks).take i) ob)) (L0 := [(0, _), (2, _), (8, _), (44, _), (45, _), (46, _)]) ((QK ks).length) (We rfl rfl rfl rfl rfl rfl) ⟨0, L, V, by omega, rfl, hz.pick [0, 2, 1, 3] rfl, by omega, hI, rfl, fun _ q => q, .refl, DrI.start ht⟩ ?_
 rintro _ _ w5 ⟨i, L1, V1, rfl, rfl, hS5, hi, hI1, hsp, hal, hpg, hdr⟩
 refine Qd (Qa ?_)
 refine Xr rfl rfl rfl ?_
 refine Qf (Qc (Qd ?_))
 refine Qx rfl (fun h6 => ?_) (fun h6 => ?_)
 ·obtain ⟨k, hk⟩ : ∃ k, (QK ks)[i]? = some k := ⟨_, List.getElem?_eq_getElem (by omega)⟩
  refine Qy (Qc (Qd (Q1 (Qd (Qa ?_)))))
  refine Xo kC 2 i hS5 rfl rfl rfl (by rfl) hk KI rfl ?_
  intro bx7 capx7 hvx7
  refine Z9 2 i hS5 rfl hvx7 rfl hk XA Xb rfl rfl ?_
  refine Xk hS5 Wo rfl rfl ?_
  intro kb wk8 hk8
  clear hS5
  refine QZ hk8 rfl rfl Xb rfl (by rfl) (i := 0) rfl (by decide) ?_
  intro wk9 hk9; dsimp only [List.set] at hk9
  clear hk8
  replace hk9 := XQ (k := k) hk9
  refine Qf (Qc (Qd ?_))
  obtain ⟨g, hg1, hg2, hg3, hg4⟩ := _root_.id hdr
  have ht1 : L1.tr id = some { t with lv := g } := by rw [hg1, Q3]
  obtain ⟨x1, hx1⟩ : ∃ x, g k = some x := Option.ne_none_iff_exists'.1 fun q => absurd ((hg3 k).1.1 q) ((SZ hks k).1 (List.mem_of_getElem? hk))
  have hS10 := JN ht1 hx1 (hk9.pick [1, 0, 2, 3, 4] rfl)
  have hS11 := hS10.drew
  refine QJ [0, 1, 2, 3, 4, 5, 6] [] ZS (by kernel_rfl) ?_
  refine Qk rfl rfl rfl (fun _ => (Qr rfl)) ?_
  refine Qk rfl rfl rfl (fun _ => (Qq rfl)) ?_
  refine Qk rfl rfl rfl (fun _ => (Qi rfl ZM)) ?_
  refine QE rfl rfl rfl (Qm rfl Jo (by exact hS11.cell 2 rfl rfl)) ?_
  refine QE rfl rfl rfl (X8 rfl XA Xb (by exact hS11.blk 10 rfl) (by exact Nat.le_of_ble_eq_true rfl) rfl) ?_
  refine QE rfl rfl rfl (Xy (k := k) 3 hS11 keysKey Tryz.underlying90 rfl rfl rfl Hy (u := ptrV x1.ad 0) (Zr hx1)) ?_
  refine Qk rfl rfl rfl (fun _ => (Q6 rfl)) ?_
  refine VC.nil (Qc ?_)
  refine Qh (L' := [(11, _), (10, _), (0, _), (2, _), (8, _), (44, _), (45, _), (46, _)]) (WR rfl rfl rfl rfl rfl rfl rfl rfl) ?_
  refine Qd (Qa ?_)
  refine Qg rfl JP rfl ?_
  refine Qu rfl Yy (by exact hS11.cell 10 rfl rfl) rfl ?_
  refine Qb rfl rfl ?_
  refine KX rfl rfl rfl ?_
  refine Qf (Qc ?_)
  refine Qh (L' := [(59, _), (11, _), (0, _), (2, _), (8, _), (44, _), (45, _), (46, _)]) (WR rfl rfl rfl rfl rfl rfl rfl rfl) ?_
  refine Qx rfl (fun h12 => ?_) (fun h12 => ?_)
  ·have hob : k.1 = ob := h12
   refine Qd (Qa (Qb rfl rfl (Qb rfl rfl (Qj rfl rfl ?_))))
   refine Qg rfl WD rfl ?_
   have hC13 := hS11.split [6, 9, 11, 0] [true, false, false, false, false, false, true, false, false, true, false, true, false, false] rfl; dsimp only [Q9, Qz, Q8, cap, Q7] at hC13
   refine Qo cal_73 rfl (hold_p hC13 (by omega) 0) rfl ?_
   rintro e w13 ⟨_, rfl, rfl, hS13⟩; refine ⟨_, rfl, ?_⟩
   replace hS13 := hS13.join rfl; dsimp only [QT, QS, cap, Q7] at hS13; clear hC13
   clear hS11
   refine Qf (Qc ?_)
   refine Qh (L' := [(11, _), (0, _), (2, _), (8, _), (44, _), (45, _), (46, _)]) (WJ rfl rfl rfl rfl rfl rfl rfl) ?_
   refine Qa (Qb rfl rfl (Qj rfl rfl ?_))
   refine Qg rfl Wm rfl ?_
   refine Xa (v := XF (BitVec.allOnes 64)) hS13 rfl rfl GY rfl (i := 3) rfl (by exact Nat.le_of_ble_eq_true rfl) ?_
   intro w14 hS14; dsimp only [List.set] at hS14
   clear hS13
   refine Qf (Qp (Qc (Qa ?_)))
   refine QM rfl rfl (by omega) (by omega) rfl ?_
   refine Qb rfl rfl (Qf ?_)
   have hS15 := WC (L := { L1 with sh := Js (refW V1 0) (Jw L1.sh 0) x1.own }) (y := { x1 with own := 0, wr := BitVec.allOnes 64 }) ht1 hx1 rfl (hS14.pick [3, 4, 5, 6, 7, 8, 0, 9, 10, 1, 2, 11, 12, 13] rfl)
   obtain ⟨hs1, hs2⟩ := Nq (s := 0) hI1 hx (.inl rfl) ht1 hx1 (Js (refW V1 0) (Jw L1.sh 0) x1.own)
   rw [WO hI1.zero] at hs2
   have hd2 := hdr.T (y := { x1 with own := 0, wr := BitVec.allOnes 64 }) hk hob ht1 hx1 rfl hs2
   exact QF (L1 := [(0, _), (2, _), (8, _), (44, _), (45, _), (46, intV ((i + 1 : Nat) : Int))]) (We rfl rfl rfl rfl rfl rfl) (k1 := (QK ks).length - (i + 1)) (by omega) ⟨i + 1, _, _, by omega, rfl, (Xw (m := n + 2 * (i + 1)) (by omega) (hS15.pick [1, 0, 3, 4] rfl)).reorder [1, 0, 2, 3] rfl, by omega, hs1.inv, hs1.sp.trans hsp, fun c q => hs1.al c (hal c q), hpg.trans hs1.pg, hd2⟩
  have hob : k.1 ≠ ob := h12
  refine Qy (Qp (Qc (Qa ?_)))
  refine QM rfl rfl (by omega) (by omega) rfl ?_
  refine Qb rfl rfl (Qf ?_)
  have hS16 := WC (L := L1) (y := x1) ht1 hx1 rfl (hS11.pick [0, 1, 2, 3, 4, 5, 6, 7, 8, 9, 10, 11, 12, 13] rfl)
  rw [Ju ht1 hx1] at hS16
  exact QF (L1 := [(0, _), (2, _), (8, _), (44, _), (45, _), (46, intV ((i + 1 : Nat) : Int))]) (We rfl rfl rfl rfl rfl rfl) (k1 := (QK ks).length - (i + 1)) (by omega) ⟨i + 1, L1, V1, by omega, rfl, (Xw (m := n + 2 * (i + 1)) (by omega) (hS16.pick [2, 0, 3, 4] rfl)).reorder [1, 0, 2, 3] rfl, by omega, hI1, hsp, hal, hpg, hdr.F hk hob⟩
 refine QY (Qv (Qv (Q4 (Qc ?_))))
 have hil : i = (QK ks).length := by omega
 rw [hil, List.take_length] at hdr
 obtain ⟨g, hg1, hg2, hg3, hg4⟩ := _root_.id hdr
 have ht1 : L1.tr id = some { t with lv := g } := by rw [hg1, Q3]
 have hS17 := XP (hS5.pick [0, 1, 2, 3] rfl)
 have hS18 := Z4 (hS17.pick [3, 0, 1, 2, 4, 5, 6, 7] rfl) ht1
 refine Qa (Qb rfl rfl (Qj rfl rfl ?_))
 refine Qg rfl Vy rfl ?_
 refine Qu rfl B6 (by exact hS18.cell 0 rfl rfl) rfl ?_
 refine Qb rfl rfl ?_
 refine X0 (k := ob) (v := .bool true) 3 hS18 keysStr Tryz.underlying91 rfl rfl rfl rfl ?_
 intro w19 hS19; dsimp only [List.set] at hS19; rw [Dq] at hS19
 clear hS18
 refine Qf ?_
 refine W3 (.inl rfl) rfl ?_
 have hS20 := Vd (t := ({ t with lv := g, dr := JE t.dr ob } : TrD)) (hS19.pick [0, 1, 2, 3, 4, 5, 6, 7, 8, 9, 10, 11] rfl)
 rw [← YP (ad := TrD.ad) (f := L1.tr) (k := id) (y := ({ t with lv := g, dr := JE t.dr ob } : TrD)) ht1 rfl] at hS20
 have hfin := N1 hI1 hsp hal hpg hdr ht (SZ hks) hg1 hg2 hg3 hg4
 exact ⟨_, rfl, { L1 with tr := Xi L1.tr id (some ({ t with lv := g, dr := JE t.dr ob } : TrD)) }, V1, hfin.1, hfin.2, Tv ht hg2 (by show Xi L1.tr id _ = _; rw [hg1, Hg]) (fun k x hx => by obtain ⟨y, hy, _⟩ := (hg3 k).2 x hx; rw [hy]; simp), (Xw (m := n + 2 * c) (by omega) ((QX (L := { L1 with tr := Xi L1.tr id (some ({ t with lv := g, dr := JE t.dr ob } : TrD)) }) (hS20.pick [1, 2, 3, 0, 4, 5, 7] rfl)).reorder [1, 0, 2] rfl)).reorder [1, 0, 2] rfl⟩
end Go.Proofs.YtkcjfoaejijdoaaGreatDoor
/- leaves: remove -/
namespace Go.Proofs.YtkcjfoaejijdoaaGreatDoor
open Go.RowKit M
set_option linter.unusedVariables false
theorem JZ {α : Type} {L : List α} (hn : L.Nodup) {i : Nat} {y : α} (hy : L[i]? = some y) : y ∉ L.take i := by
  intro q
  obtain ⟨j, hj⟩ := List.mem_iff_getElem?.1 q
  have hji : j < i := by have := (List.getElem?_eq_some_iff.1 hj).1; rw [List.length_take] at this; omega
  rw [List.getElem?_take_of_lt hji] at hj
  have h1 := (List.getElem?_eq_some_iff.1 hy)
  have h2 := (List.getElem?_eq_some_iff.1 hj)
  obtain ⟨p1, p2⟩ := h1
  obtain ⟨r1, r2⟩ := h2
  have := (List.getElem_inj hn).1 (r2.trans p2.symm)
  omega
/-- the child that a name leads to -/
def Sb (id : Int) (l : List KD) : Pl → Prop := fun p => ∃ k o, p = .inr (id, k, o) ∧ k ∈ l
theorem DU {κ α : Type} {ad : α → Nat} {f : κ → Option α} {k : κ} : upd (XU ad f) k none = XU ad (Xi f k none) := by
  funext j
  by_cases h : j = k
  · subst h; rw [ZC]; unfold XU; rw [Q3]; rfl
  · rw [W4 h]; unfold XU; rw [QH h]
/-- while a trial is removed -/
structure RemI (ex : Int → Int) (L : LvD) (V V1 : VS) (id : Int) (l : List KD) : Prop where
  ref : RefI (ZT (Sb id l) 0 (Xe L)) V1 ex
  pg : Pgs V V1
  al : ∀ c, AliveLe V c → AliveLe V1 c
theorem RemI.start {ex : Int → Int} {m : Nat} {L : LvD} {V : VS} {id : Int} (h : LvX ex m L V) : RemI ex L V V id [] :=
  ⟨h.ref.fn fun p => by simp [ZT, Sb], .refl, fun _ q => q⟩
theorem Bg {κ : Type} {f : κ → Int} {V : VS} {ex : Int → Int} (h : RefI f V ex) (hx : NN ex) (p : κ) : RefI (HV f p 0) (Zf V (f p)) ex :=
  ((h.put p 0).unr (h.aliveN rfl (hx _))).ext fun j hj => by rw [Wz (s := 0) hj]; omega
theorem RemI.step {ex : Int → Int} {L : LvD} {V V1 : VS} {id : Int} {t : TrD} {l : List KD} {i : Nat} {k : KD} {x : LfD} (h : RemI ex L V V1 id (l.take i)) (hx : NN ex) (ht : L.tr id = some t) (hl : t.lv k = some x) (hk : l[i]? = some k) (hn : l.Nodup) :
    RemI ex L V (Zf (Zf V1 x.base) x.own) id (l.take (i + 1)) := by
  have hni : k ∉ l.take i := JZ hn hk
  have hnz : ∀ o, ¬ Sb id (l.take i) (.inr (id, k, o)) := fun o => by
    rintro ⟨k', o', e, q⟩
    simp at e
    obtain ⟨rfl, rfl⟩ := e
    exact hni q
  have e1 : ZT (Sb id (l.take i)) 0 (Xe L) (.inr (id, k, false)) = x.base := by unfold ZT; rw [if_neg (hnz _), X2 ht hl]; rfl
  have a1 := Bg h.ref hx (.inr (id, k, false))
  rw [e1] at a1
  have e2 : HV (ZT (Sb id (l.take i)) 0 (Xe L)) (.inr (id, k, false)) 0 (.inr (id, k, true)) = x.own := by rw [XK (by simp)]; unfold ZT; rw [if_neg (hnz _), X2 ht hl]; rfl
  have a2 := Bg a1 hx (.inr (id, k, true))
  rw [e2] at a2
  refine ⟨a2.fn fun p => ?_, (h.pg.trans (Pgs.unr h.ref.zero)).trans (Pgs.unr a1.zero), fun c q => (h.al c q).unr.unr⟩
  · have hz : ∀ p, Sb id (l.take (i + 1)) p ↔ (p = .inr (id, k, true) ∨ (p = .inr (id, k, false) ∨ Sb id (l.take i) p)) := fun p => by
      unfold Sb
      rw [List.take_add_one, hk]
      simp only [Option.toList_some, List.mem_append, List.mem_singleton]
      constructor
      · rintro ⟨k', o, rfl, q | q⟩
        · exact .inr (.inr ⟨k', o, rfl, q⟩)
        · subst q; cases o
          · exact .inr (.inl rfl)
          · exact .inl rfl
      · rintro (rfl | rfl | ⟨k', o, rfl, q⟩)
        · exact ⟨k, true, rfl, .inr rfl⟩
        · exact ⟨k, false, rfl, .inr rfl⟩
        · exact ⟨k', o, rfl, .inl q⟩
    rw [HQ (P := fun p => p = .inr (id, k, false) ∨ Sb id (l.take i) p) hz, HQ (P := Sb id (l.take i)) (fun _ => Iff.rfl)]
noncomputable def M1 (A : LvA) (id : Int) : LvA := { A with tr := Xi A.tr id none }
theorem RankI.del {T : Int → Option TrD} {m : Nat} {id : Int} (h : RankI T m) (hch : ∀ i u, T i = some u → u.parent ≠ id) : RankI (Xi T id none) m := by
  obtain ⟨h0, r, a, b⟩ := h
  have h00 : Xi T id none 0 = none := by
    by_cases e : (0 : Int) = id
    · rw [← e, Q3]
    · rw [QH e]; exact h0
  refine ⟨h00, r, a, fun i t ht => ?_⟩
  by_cases e : i = id
  · subst e; rw [Q3] at ht; cases ht
  · rw [QH e] at ht
    rcases b i t ht with h1 | ⟨h1, h2⟩
    · exact .inl h1
    · exact .inr ⟨by rw [QH (hch i t ht)]; exact h1, h2⟩
theorem rem_fin {ex : Int → Int} {m : Nat} {L : LvD} {V V1 : VS} {id : Int} {t : TrD} {l : List KD} {f : Int → Bool} (hI : LvX ex m L V) (hx : NN ex) (h : RemI ex L V V1 id l) (ht : L.tr id = some t) (hl : ∀ k, k ∈ l ↔ t.lv k ≠ none) (hch : ∀ i u, L.tr i = some u → u.parent ≠ id) :
    StepX ex m L V ex m 0 0 { L with tr := Xi L.tr id none, sh := f } V1 ∧ Q5 { L with tr := Xi L.tr id none, sh := f } V1 = M1 (Q5 L V) id := by
  generalize hL2 : ({ L with tr := Xi L.tr id none, sh := f } : LvD) = L2
  have hP : L2.pres = L.pres := by subst hL2; rfl
  have hT : L2.tr = Xi L.tr id none := by subst hL2; rfl
  have hf : ∀ p, Xe L2 p = ZT (Sb id l) 0 (Xe L) p := fun p => by
    unfold ZT
    cases p with
    | inl j =>
      rw [if_neg (by rintro ⟨_, _, e, _⟩; cases e)]
      simp [Xe, hP]
    | inr q =>
      obtain ⟨i, k, o⟩ := q
      by_cases e : i = id
      · subst e
        have e1 : Xe L2 (.inr (i, k, o)) = 0 := by simp only [Xe, hT, Q3]
        rw [e1]
        split
        · rfl
        · rename_i hq
          cases hk : t.lv k with
          | none => rw [UL ht hk]
          | some x => exact absurd ⟨k, o, rfl, (hl k).2 (by rw [hk]; simp)⟩ hq
      · rw [if_neg (by rintro ⟨_, _, e2, _⟩; cases e2; exact e rfl)]
        simp only [Xe, hT]
        rw [QH e]
  have a1 : RefI (Xe L2) V1 ex := h.ref.fn hf
  have hc : ∀ p, XL V1 (Xe L2 p) = XL V (Xe L2 p) := fun p => (h.pg _ (a1.aliveN rfl (hx _))).2
  have e1 : Q5 L2 V1 = M1 (Q5 L V) id := by
    rw [Hx (V := V) hc]
    unfold Q5 M1
    rw [hP, hT]
    congr 1
    funext i
    by_cases e : i = id
    · subst e; rw [Q3, Q3]; rfl
    · rw [QH e, QH e]
  refine ⟨⟨⟨a1, by rw [hT]; exact hI.rank.del hch, ?_⟩, by subst hL2; rfl, h.al, fun c q => ?_, h.pg⟩, e1⟩
  · rw [e1]
    intro i u k x hi hk
    dsimp only [M1] at hi
    by_cases e : i = id
    · subst e; rw [Q3] at hi; cases hi
    · rw [QH e] at hi; exact hI.agree i u k x hi hk
  · obtain ⟨li, a, b, d⟩ := q
    refine ⟨li, a, fun k hk => b k (by rwa [hP] at hk), fun j u k x hj hk => ?_⟩
    rw [hT] at hj
    by_cases e : j = id
    · subst e; rw [Q3] at hj; cases hj
    · rw [QH e] at hj; exact d j u k x hj hk
set_option maxRecDepth 100000 in
set_option maxHeartbeats 1600000 in
theorem CW {w : World} {ex : Int → Int} {m : Nat} {b n Fr : Nat} {L : LvD} {V : VS} {F : Th} (hS : Sat w [ZU b L, Zu L.sp n Fr V, F]) {c : Nat} (hc : SzLe L c) (hn : n + 2 * c ≤ 600000000) (hI : LvX ex m L V) (hx : NN ex) {id : Int} {t : TrD} (ht : L.tr id = some t) (hch : ∀ i u, L.tr i = some u → u.parent ≠ id) :
    Calls Tryz.prog 55 #[ptrV b 0, intV id] w (Ret fun v w' => ∃ L' V', StepX ex m L V ex m 0 0 L' V' ∧ Q5 L' V' = M1 (Q5 L V) id ∧ L'.pres = L.pres ∧ L'.tr = Xi L.tr id none ∧ Sat w' [ZU b L', Zu L'.sp (n + 2 * c) Fr V', F]) := by
 replace hS := XP hS
 refine Qt Tryz.func55 rfl Tryz.ntmps55 rfl ?_
 refine Qd (Qa (Qb rfl rfl (Qj rfl rfl ?_)))
 refine Qg rfl Wy rfl ?_
 refine Qu rfl YC (by exact hS.cell 0 rfl rfl) rfl ?_
 refine Qb rfl rfl ?_
 refine Zd (k := id) 2 hS keysInt Tryz.underlying82 rfl rfl rfl H0 (u := ptrV t.ad 0) (Zr ht) rfl ?_
 refine Qe rfl rfl (Qf (Qc (Qd (Qd ?_))))
 have hS1 := Z4 (hS.pick [3, 0, 1, 2, 4, 5, 6] rfl) ht
 refine Qa (Qb rfl rfl (Qj rfl rfl ?_))
 refine Qg rfl ZM rfl ?_
 refine Qu rfl Jo (by exact hS1.cell 0 rfl rfl) rfl ?_
 have hC2 := hS1.split [1] [false, true, false, false, false, false, false, false, false, false, false] rfl; dsimp only [Q9, Qz, Q8, cap, Q7] at hC2
 refine Qo T9 rfl (RU hC2 (fun ks h => by have := hc.keysL ht h; omega)) rfl ?_
 rintro e w2 ⟨_, rfl, ks, hks, hS2⟩; refine ⟨_, rfl, ?_⟩
 replace hS2 := hS2.join rfl; dsimp only [QT, QS, cap, Q7] at hS2; clear hC2
 clear hS1
 obtain ⟨ar, cr, hvr, _⟩ := hS2.own_shape 0 rfl; obtain rfl := hvr
 refine XT Tryz.underlying98 rfl rfl ?_
 refine Qb rfl rfl (Qf (Qc ?_))
 refine Qh (L' := [(19, _), (18, _), (17, _), (4, _), (0, _), (1, _)]) (We rfl rfl rfl rfl rfl rfl) ?_
 refine Q1 ?_
 have hnd := Y5 hks.nodup
 have hlk : (QK ks).length ≤ c := by rw [ZY]; exact hc.keysL ht (Came.of_all hks)
 refine Xv (fun K0 E0 W0 => ∃ (i : Nat) (f : Int → Bool) (V1 : VS), K0 = (QK ks).length - i ∧ E0 = [(0, ptrV b 0), (1, intV id), (4, ptrV t.ad 0), (17, .slice ar (QK ks).length cr), (18, intV ((QK ks).length : Int)), (19, intV (i : Int))] ∧ Sat W0 [QN t.ad [intV t.parent, .map (some t.ml), .map (some t.md)], QG Xt t.ml (XU LfD.ad t.lv), Zg VZ t.lv, QG WL t.md (Jb t.dr), Zg UV (Xi L.tr id none), QN b [ptrV L.sp 0, .map (some L.mp), .map (some L.mt), intV L.cur, .map (some L.ms)], QG Xt L.mp (Zn L.pres), QG Xc L.mt (XU TrD.ad L.tr), QG Xc L.ms (Jb f), Zu L.sp (n + 2 * i) Fr V1, rowT kC (.slice ar (QK ks).length cr) (QK ks), F] ∧ (i ≤ (QK ks).length) ∧ (RemI ex L V V1 id ((QK ks).take i))) (L0 := [(0, _), (1, _), (4, _), (17, _), (18, _), (19, _)]) ((QK ks).length) (We rfl rfl rfl rfl rfl rfl) ⟨0, L.sh, V, by omega, rfl, hS2.pick [2, 1, 3, 4, 5, 6, 7, 8, 9, 10, 0, 11] rfl, by omega, RemI.start hI⟩ ?_
 rintro _ _ w3 ⟨i, f, V1, rfl, rfl, hS3, hi, hrm⟩
 refine Qd (Qa ?_)
 refine Xr rfl rfl rfl ?_
 refine Qf (Qc (Qd ?_))
 refine Qx rfl (fun h4 => ?_) (fun h4 => ?_)
 ·obtain ⟨k, hk⟩ : ∃ k, (QK ks)[i]? = some k := ⟨_, List.getElem?_eq_getElem (by omega)⟩
  refine Qy (Qc (Qd (Q1 (Qd (Qa ?_)))))
  refine Xo kC 10 i hS3 rfl rfl rfl (by rfl) hk KI rfl ?_
  intro bx5 capx5 hvx5
  refine Z9 10 i hS3 rfl hvx5 rfl hk XA Xb rfl rfl ?_
  refine Xk hS3 Wo rfl rfl ?_
  intro kb wk6 hk6
  clear hS3
  refine QZ hk6 rfl rfl Xb rfl (by rfl) (i := 0) rfl (by decide) ?_
  intro wk7 hk7; dsimp only [List.set] at hk7
  clear hk6
  replace hk7 := XQ (k := k) hk7
  refine Qf (Qc (Qd ?_))
  obtain ⟨x, hl⟩ : ∃ x, t.lv k = some x := Option.ne_none_iff_exists'.1 ((SZ hks k).1 (List.mem_of_getElem? hk))
  have hS8 := Yt (hk7.pick [3, 0, 1, 2, 4, 5, 6, 7, 8, 9, 10, 11, 12] rfl) hl
  have hS9 := hS8.drew
  refine QJ [0, 1, 2, 3, 4, 5, 6, 7, 8, 9, 10] [10] ZS (by kernel_rfl) ?_
  refine Qk rfl rfl rfl (fun _ => (Qr rfl)) ?_
  refine Qk rfl rfl rfl (fun _ => (Qr rfl)) ?_
  refine Qk rfl rfl rfl (fun _ => (Qq rfl)) ?_
  refine Qk rfl rfl rfl (fun _ => (Qi rfl ZM)) ?_
  refine QE rfl rfl rfl (Qm rfl Jo (by exact hS9.cell 3 rfl rfl)) ?_
  refine QE rfl rfl rfl (X8 rfl XA Xb (by exact hS9.blk 2 rfl) (by exact Nat.le_of_ble_eq_true rfl) rfl) ?_
  refine QE rfl rfl rfl (Xy (k := k) 4 hS9 keysKey Tryz.underlying90 rfl rfl rfl Hy (u := ptrV x.ad 0) (Zr hl)) ?_
  refine Qk rfl rfl rfl (fun _ => (Qq rfl)) ?_
  refine Qk rfl rfl rfl (fun _ => (Qi rfl Rj)) ?_
  refine QE rfl rfl rfl (Qm rfl QV (by exact hS9.cell 0 rfl rfl)) ?_
  refine Xm rfl rfl rfl rfl rfl rfl ?_
  have hC10 := hS9.split [7, 10, 11] [false, false, false, false, false, false, false, true, false, false, true, true, false, false] rfl; dsimp only [Q9, Qz, Q8, cap, Q7] at hC10
  refine Qo Ht rfl (Hh hC10 (by omega) x.base) rfl ?_
  rintro e w10 ⟨_, rfl, rfl, hS10⟩; refine ⟨_, rfl, ?_⟩
  replace hS10 := hS10.join rfl; dsimp only [QT, QS, cap, Q7] at hS10; clear hC10
  clear hS9
  refine XI (.skip (by kernel_rfl) (.skip (by kernel_rfl) (.skip (by kernel_rfl) (.skip (by kernel_rfl) .nil)))) ?_
  refine VC.nil (Qc ?_)
  refine Qh (L' := [(6, _), (0, _), (1, _), (4, _), (17, _), (18, _), (19, _)]) (WJ rfl rfl rfl rfl rfl rfl rfl) ?_
  have hS11 := hS10.drew
  refine QJ [0, 1, 2, 3, 4, 5, 6, 7, 8, 9, 10] [10] ZS (by kernel_rfl) ?_
  refine Qk rfl rfl rfl (fun _ => (Qr rfl)) ?_
  refine Qk rfl rfl rfl (fun _ => (Qr rfl)) ?_
  refine Qk rfl rfl rfl (fun _ => (Qq rfl)) ?_
  refine Qk rfl rfl rfl (fun _ => (Qi rfl ZM)) ?_
  refine QE rfl rfl rfl (Qm rfl Jo (by exact hS11.cell 6 rfl rfl)) ?_
  refine QE rfl rfl rfl (X8 rfl XA Xb (by exact hS11.blk 5 rfl) (by exact Nat.le_of_ble_eq_true rfl) rfl) ?_
  refine QE rfl rfl rfl (Xy (k := k) 7 hS11 keysKey Tryz.underlying90 rfl rfl rfl Hy (u := ptrV x.ad 0) (Zr hl)) ?_
  refine Qk rfl rfl rfl (fun _ => (Qq rfl)) ?_
  refine Qk rfl rfl rfl (fun _ => (Qi rfl WD)) ?_
  refine QE rfl rfl rfl (Qm rfl QV (by exact hS11.cell 3 rfl rfl)) ?_
  refine Xm rfl rfl rfl rfl rfl rfl ?_
  have hC12 := hS11.split [0, 1, 2] [true, true, true, false, false, false, false, false, false, false, false, false, false, false] rfl; dsimp only [Q9, Qz, Q8, cap, Q7] at hC12
  refine Qo Ht rfl (Hh hC12 (by omega) x.own) rfl ?_
  rintro e w12 ⟨_, rfl, rfl, hS12⟩; refine ⟨_, rfl, ?_⟩
  replace hS12 := hS12.join rfl; dsimp only [QT, QS, cap, Q7] at hS12; clear hC12
  clear hS11
  refine XI (.skip (by kernel_rfl) (.skip (by kernel_rfl) (.skip (by kernel_rfl) (.skip (by kernel_rfl) .nil)))) ?_
  refine VC.nil (Qp (Qc ?_))
  refine Qh (L' := [(0, _), (1, _), (4, _), (17, _), (18, _), (19, _)]) (We rfl rfl rfl rfl rfl rfl) ?_
  refine Qa ?_
  refine QM rfl rfl (by omega) (by omega) rfl ?_
  refine Qb rfl rfl (Qf ?_)
  have hS13 := Z6 hl (hS12.pick [3, 4, 0, 1, 2, 5, 6, 7, 8, 9, 10, 11, 12, 13] rfl)
  have hr2 := hrm.step hx ht hl hk hnd
  exact QF (L1 := [(0, _), (1, _), (4, _), (17, _), (18, _), (19, intV ((i + 1 : Nat) : Int))]) (We rfl rfl rfl rfl rfl rfl) (k1 := (QK ks).length - (i + 1)) (by omega) ⟨i + 1, _, _, by omega, rfl, hS13.pick [5, 6, 0, 7, 8, 1, 9, 10, 2, 3, 11, 12] rfl, by omega, hr2⟩
 refine QY (Qv (Qv (Q4 (Qc (Qa (Qb rfl rfl (Qj rfl rfl ?_)))))))
 refine Qg rfl Wy rfl ?_
 refine Qu rfl YC (by exact hS3.cell 5 rfl rfl) rfl ?_
 refine Qb rfl rfl ?_
 refine JW (k := id) 7 hS3 keysInt Tryz.underlying82 rfl rfl rfl rfl ?_
 intro w14 hS14; dsimp only [List.set] at hS14; rw [DU] at hS14
 clear hS3
 refine Qf ?_
 refine W3 (.inl rfl) rfl ?_
 have hil : i = (QK ks).length := by omega
 rw [hil, List.take_length] at hrm
 have hfin := rem_fin (f := f) hI hx hrm ht (SZ hks) hch
 exact ⟨_, rfl, { L with tr := Xi L.tr id none, sh := f }, V1, hfin.1, hfin.2, rfl, rfl, (Xw (m := n + 2 * c) (by omega) ((QX (L := { L with tr := Xi L.tr id none, sh := f }) (hS14.pick [5, 6, 7, 4, 8, 9, 11] rfl)).reorder [1, 0, 2] rfl)).reorder [1, 0, 2] rfl⟩
end Go.Proofs.YtkcjfoaejijdoaaGreatDoor
