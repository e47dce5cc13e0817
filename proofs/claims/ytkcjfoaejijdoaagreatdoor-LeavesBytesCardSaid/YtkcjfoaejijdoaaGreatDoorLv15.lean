/- leaves: Drop -/
import Derived.Test.YtkcjfoaejijdoaaGreatDoorLv11
import Derived.Test.YtkcjfoaejijdoaaGreatDoorLvm
import Derived.Shelf.Spec.TrailingZeros
namespace Go.Proofs.YtkcjfoaejijdoaaGreatDoor
open Go.RowKit M
set_option linter.unusedVariables false
open Classical in
noncomputable def ZU {κ α : Type} (P : κ → Prop) (z : α) (p : κ → α) : κ → α := fun j => if P j then z else p j
theorem Dy {κ α : Type} {z : α} {p : κ → α} : ZU (fun _ => False) z p = p := by funext j; simp [ZU]
theorem UY {κ α : Type} {P Q : κ → Prop} {z : α} {p : κ → α} (h : ∀ j, P j ↔ Q j) : ZU P z p = ZU Q z p := by
  have : P = Q := funext fun j => propext (h j)
  rw [this]
def inD (l : List KD) (ob : Bs) : KD → Prop := fun j => j ∈ l ∧ j.1 = ob
theorem Sd {l : List KD} {i : Nat} {k : KD} (hk : l[i]? = some k) {ob : Bs} (h : k.1 = ob) (j : KD) : inD (l.take (i + 1)) ob j ↔ (j = k ∨ inD (l.take i) ob j) := by
  unfold inD
  rw [List.take_add_one, hk]
  simp only [Option.toList_some, List.mem_append, List.mem_singleton]
  constructor
  · rintro ⟨a | a, b⟩
    · exact .inr ⟨a, b⟩
    · exact .inl a
  · rintro (rfl | ⟨a, b⟩)
    · exact ⟨.inr rfl, h⟩
    · exact ⟨.inl a, b⟩
theorem Se {l : List KD} {i : Nat} {k : KD} (hk : l[i]? = some k) {ob : Bs} (h : k.1 ≠ ob) (j : KD) : inD (l.take (i + 1)) ob j ↔ inD (l.take i) ob j := by
  unfold inD
  rw [List.take_add_one, hk]
  simp only [Option.toList_some, List.mem_append, List.mem_singleton]
  constructor
  · rintro ⟨a | a, b⟩
    · exact ⟨a, b⟩
    · subst a; exact absurd b h
  · rintro ⟨a, b⟩; exact ⟨.inl a, b⟩
theorem HR {κ α : Type} {P Q : κ → Prop} {z : α} {p : κ → α} {k : κ} (h : ∀ j, Q j ↔ (j = k ∨ P j)) : ZU Q z p = HW (ZU P z p) k z := by
  funext j
  by_cases e : j = k
  · subst e; rw [X7]; unfold ZU; rw [if_pos ((h j).2 (.inl rfl))]
  · rw [XL e]; unfold ZU
    by_cases q : P j
    · rw [if_pos q, if_pos ((h j).2 (.inr q))]
    · rw [if_neg q, if_neg fun a => ((h j).1 a).elim e q]
theorem CV {p : KD → Int} {k : KD} {s : Int} : XZ p k s = HW p k s := by
  funext j
  by_cases e : j = k
  · subst e; rw [X7]; simp [XZ]
  · rw [XL e]; simp [XZ, e]
/-- an object is dropped -/
noncomputable def dropP (A : LvA) (ob : Bs) : LvA := { A with pres := ZU (fun j => j.1 = ob) zer A.pres }
open Classical in
noncomputable def Z8 (P : KD → Prop) (f : KD → Option LfA) : KD → Option LfA := fun j => if P j then (f j).map fun x => ML x zer else f j
noncomputable def HL (A : LvA) (id : Int) (ob : Bs) : LvA := match A.tr id with | none => A | some t => { A with tr := Xj A.tr id (some { t with lv := Z8 (fun j => j.1 = ob) t.lv, dr := JF t.dr ob }) }
theorem Ty {f : KD → Option LfA} {ob : Bs} : Z8 (inD [] ob) f = f := by funext j; simp [Z8, inD]
theorem Gl {P Q : KD → Prop} {f : KD → Option LfA} (h : ∀ j, f j ≠ none → (P j ↔ Q j)) : Z8 P f = Z8 Q f := by
  funext j
  unfold Z8
  cases q : f j with
  | none => simp
  | some x =>
    have := h j (by rw [q]; simp)
    by_cases e : P j
    · rw [if_pos e, if_pos (this.1 e)]
    · rw [if_neg e, if_neg fun a => e (this.2 a)]
theorem N4 {P Q : KD → Prop} {f : KD → Option LfA} {k : KD} {x : LfA} (h : ∀ j, Q j ↔ (j = k ∨ P j)) (hk : Z8 P f k = some x) : Z8 Q f = Xj (Z8 P f) k (some (ML x zer)) := by
  funext j
  by_cases e : j = k
  · subst e
    rw [Q3]
    unfold Z8 at hk ⊢
    rw [if_pos ((h j).2 (.inl rfl))]
    split at hk
    · cases q : f j with
      | none => rw [q] at hk; cases hk
      | some y => rw [q] at hk; simp only [Option.map_some, Option.some.injEq] at hk ⊢; subst hk; rfl
    · rw [hk]; rfl
  · rw [QI e]
    unfold Z8
    by_cases q : P j
    · rw [if_pos q, if_pos ((h j).2 (.inr q))]
    · rw [if_neg q, if_neg fun a => ((h j).1 a).elim e q]
theorem Yq {i : Int} : ∀ {l : List KD}, l.Nodup → (l.map fun k => (i, k)).Nodup
  | [], _ => List.nodup_nil
  | a :: l, h => by
    rw [List.nodup_cons] at h
    rw [List.map_cons, List.nodup_cons]
    refine ⟨fun q => ?_, Yq h.2⟩
    obtain ⟨b, hb, e⟩ := List.mem_map.1 q
    cases e
    exact h.1 hb
theorem SzLe.keysP {L : LvD} {c : Nat} (h : SzLe L c) {ks : List KD} (hc : Came (Zo L.pres) ks) : ks.length ≤ c := by
  obtain ⟨l, a, b, d⟩ := h
  have := Wm (Yq (i := 0) hc.nodup) (b := l) fun x hx => by
    obtain ⟨k, hk, rfl⟩ := List.mem_map.1 hx
    exact b k fun q => hc.has k hk (by unfold Zo; rw [if_pos q])
  simp at this; omega
theorem SzLe.keysL {L : LvD} {c : Nat} {i : Int} {t : TrD} (h : SzLe L c) (ht : L.tr i = some t) {ks : List KD} (hc : Came (XV LfD.ad t.lv) ks) : ks.length ≤ c := by
  obtain ⟨l, a, b, d⟩ := h
  have := Wm (Yq (i := i) hc.nodup) (b := l) fun x hx => by
    obtain ⟨k, hk, rfl⟩ := List.mem_map.1 hx
    have h1 := hc.has k hk
    cases q : t.lv k with
    | none => exact absurd (by unfold XV; rw [q]; rfl) h1
    | some x => exact d i t k x ht q
  simp at this; omega
theorem SzLe.subP {L L' : LvD} {c : Nat} (h : SzLe L c) (hp : ∀ k, L'.pres k ≠ 0 → L.pres k ≠ 0) (hT : L'.tr = L.tr) : SzLe L' c := by
  obtain ⟨l, a, b, d⟩ := h
  exact ⟨l, a, fun k hk => b k (hp k hk), fun i t k x ht hx => d i t k x (by rwa [hT] at ht) hx⟩
theorem allP {p : KD → Int} {ks : List KD} (h : AllC (Zo p) ks) (k : KD) : k ∈ QL ks ↔ p k ≠ 0 := by
  rw [(Ju ks).mem_iff, h.mem]
  unfold Zo
  by_cases e : p k = 0
  · simp [e]
  · simp [e]
theorem Fa {f : KD → Option LfD} {ks : List KD} (h : AllC (XV LfD.ad f) ks) (k : KD) : k ∈ QL ks ↔ f k ≠ none := by
  rw [(Ju ks).mem_iff, h.mem]
  unfold XV
  cases f k <;> simp
theorem Y6 {ks : List KD} (h : ks.Nodup) : (QL ks).Nodup := (Ju ks).nodup_iff.2 h
theorem TE {L : LvD} {V : VS} {l : List KD} {ob : Bs} (h0 : V 0 = none) (hl : ∀ k, k ∈ l ↔ L.pres k ≠ 0) : ZU (inD l ob) zer (Q5 L V).pres = ZU (fun j => j.1 = ob) zer (Q5 L V).pres := by
  funext j
  unfold ZU inD
  by_cases e : j.1 = ob
  · by_cases q : j ∈ l
    · rw [if_pos ⟨q, e⟩, if_pos e]
    · rw [if_neg fun a => q a.1, if_pos e]
      have : L.pres j = 0 := Classical.byContradiction fun a => q ((hl j).2 a)
      show XM V (L.pres j) = zer
      rw [this, WP h0]
  · rw [if_neg fun a => e a.2, if_neg e]
set_option maxRecDepth 100000 in
set_option maxHeartbeats 800000000 in
theorem S6 {w : World} {ex : Int → Int} {m : Nat} {b n Fr : Nat} {L : LvD} {V : VS} {F : Th} (hS : Sat w [ZV b L, Zv L.sp n Fr V, F]) {c : Nat} (hc : SzLe L c) (hn : n + 2 * c ≤ 600000000) (hI : LvX ex m L V) (hx : NN ex) (ob : Bs) :
    Calls Tryz.prog 27 #[ptrV b 0, intV 0, strV ob] w (Ret fun v w' => ∃ L' V', StepX ex m L V ex m 0 0 L' V' ∧ Q5 L' V' = dropP (Q5 L V) ob ∧ OthK L L' 0 (fun _ => False) ∧ Sat w' [ZV b L', Zv L'.sp (n + 2 * c) Fr V', F]) := by
 replace hS := XQ hS
 refine Qt Tryz.func27 rfl Tryz.ntmps27 rfl ?_
 refine Qd (Qd (Qa (Qb rfl rfl ?_)))
 refine X2 rfl rfl rfl ?_
 refine Qf (Qc ?_)
 refine Qx rfl (fun h1 => ?_) (fun h1 => ?_)
 ·refine Qd (Qd (Qa (Qb rfl rfl (Qj rfl rfl ?_))))
  refine Qg rfl Uo rfl ?_
  refine Qu rfl Gy (by exact hS.cell 0 rfl rfl) rfl ?_
  have hC2 := hS.split [1] [false, true, false, false, false, false, false] rfl; dsimp only [QC, Qz, Q9, Q8, Q7] at hC2
  refine Qo T9 rfl (RU hC2 (fun ks h => by have := hc.keysP h; omega)) rfl ?_
  rintro e w2 ⟨_, rfl, ks, hks, hS2⟩; refine ⟨_, rfl, ?_⟩
  replace hS2 := hS2.join rfl; dsimp only [QU, QT, Q8, Q7] at hS2; clear hC2
  obtain ⟨ar, cr, hvr, _⟩ := hS2.own_shape 0 rfl; obtain rfl := hvr
  refine XU Tryz.underlying98 rfl rfl ?_
  refine Qb rfl rfl (Qf (Qc ?_))
  refine Qh (L' := [(20, _), (19, _), (18, _), (0, _), (1, _), (2, _)]) (Wf rfl rfl rfl rfl rfl rfl) ?_
  refine Q1 ?_
  have hz := QY (hS2.pick [2, 1, 3, 4, 5, 0, 6, 7] rfl)
  have hlk : (QL ks).length ≤ c := by rw [ZZ]; exact hc.keysP (Came.of_all hks)
  refine Xw (fun K0 E0 W0 => ∃ (i : Nat) (L1 : LvD) (V1 : VS), K0 = (QL ks).length - i ∧ E0 = [(0, ptrV b 0), (2, strV ob), (18, .slice ar (QL ks).length cr), (19, intV ((QL ks).length : Int)), (20, intV (i : Int))] ∧ Sat W0 [ZV b L1, Zv L1.sp (n + i) Fr V1, rowT kC (.slice ar (QL ks).length cr) (QL ks), F] ∧ (i ≤ (QL ks).length) ∧ (LvX ex m L1 V1) ∧ (L1.sp = L.sp) ∧ (∀ c, AliveLe V c → AliveLe V1 c) ∧ (Pgs V V1) ∧ (L1.pres = ZU (inD ((QL ks).take i) ob) 0 L.pres) ∧ (L1.tr = L.tr) ∧ (Q5 L1 V1 = { Q5 L V with pres := ZU (inD ((QL ks).take i) ob) zer (Q5 L V).pres })) (L0 := [(0, _), (2, _), (18, _), (19, _), (20, _)]) ((QL ks).length) (ZH rfl rfl rfl rfl rfl) ⟨0, L, V, by omega, rfl, hz.pick [0, 2, 1, 3] rfl, by omega, hI, rfl, fun _ q => q, .refl, by rw [UY (Q := fun _ => False) (by simp [inD]), Dy], rfl, by rw [UY (Q := fun _ => False) (by simp [inD]), Dy]⟩ ?_
  rintro _ _ w3 ⟨i, L1, V1, rfl, rfl, hS3, hi, hI1, hsp, hal, hpg, hp, hT, hab⟩
  refine Qd (Qa ?_)
  refine Xt rfl rfl rfl ?_
  refine Qf (Qc (Qd ?_))
  refine Qx rfl (fun h4 => ?_) (fun h4 => ?_)
  ·obtain ⟨k, hk⟩ : ∃ k, (QL ks)[i]? = some k := ⟨_, List.getElem?_eq_getElem (by omega)⟩
   refine Qy (Qc (Qd (Q1 (Qd (Qa ?_)))))
   refine Xp kC 2 i hS3 rfl rfl rfl (by rfl) hk KJ rfl ?_
   intro bx5 capx5 hvx5
   refine ZA 2 i hS3 rfl hvx5 rfl hk XB Xc rfl rfl ?_
   refine Xl hS3 Wp rfl rfl ?_
   intro kb wk6 hk6
   clear hS3
   refine Xa hk6 rfl rfl Xc rfl (by rfl) (i := 0) rfl (by decide) ?_
   intro wk7 hk7; dsimp only [List.set] at hk7
   clear hk6
   replace hk7 := XR (k := k) hk7
   refine Qf (Qc (Qd (Qa ?_)))
   refine Qg rfl JQ rfl ?_
   refine Qu rfl Yz (by exact hk7.cell 0 rfl rfl) rfl ?_
   refine Qb rfl rfl ?_
   refine KY rfl rfl rfl ?_
   refine Qf (Qc ?_)
   refine Qh (L' := [(27, _), (7, _), (0, _), (2, _), (18, _), (19, _), (20, _)]) (WK rfl rfl rfl rfl rfl rfl rfl) ?_
   refine Qx rfl (fun h8 => ?_) (fun h8 => ?_)
   ·have hob : k.1 = ob := h8
    refine Qa (Qb rfl rfl ?_)
    refine XX rfl XB Xc (by first | exact hk7.blk 0 rfl) (by exact Nat.le_of_ble_eq_true rfl) rfl rfl ?_
    have hC9 := hk7.split [1, 2] [false, true, true, false, false] rfl; dsimp only [QC, Qz, Q9, Q8, Q7] at hC9
    refine Qo Gr rfl (BH hC9 (by omega) k 0) rfl ?_
    rintro e w9 ⟨_, rfl, rfl, hS9⟩; refine ⟨_, rfl, ?_⟩
    replace hS9 := hS9.join rfl; dsimp only [QU, QT, Q8, Q7] at hS9; clear hC9
    clear hk7
    refine Qf (Qp (Qc (Qa ?_)))
    refine QN rfl rfl (by omega) (by omega) rfl ?_
    refine Qb rfl rfl (Qf ?_)
    obtain ⟨hs1, hs2⟩ := Uc (s := 0) (k := k) hI1 hx (fun q => absurd rfl q) (Jt V1 L1.sh (L1.pres k))
    have hI2 := hs1.inv.ext (ex' := ex) fun j hj => by rw [W2 hj]; omega
    exact QG (L1 := [(0, _), (2, _), (18, _), (19, _), (20, intV ((i + 1 : Nat) : Int))]) (ZH rfl rfl rfl rfl rfl) (k1 := (QL ks).length - (i + 1)) (by omega) ⟨i + 1, _, _, by omega, rfl, hS9.pick [0, 1, 3, 4] rfl, by omega, hI2, hs1.sp.trans hsp, fun c q => hs1.al c (hal c q), hpg.trans hs1.pg, by dsimp only; rw [hp, CV, HR (Sd hk hob)], hT, by rw [hs2, hab, HR (Sd hk hob), WP hI1.zero]⟩
   have hob : k.1 ≠ ob := h8
   refine Qy (Qp (Qc (Qa ?_)))
   refine QN rfl rfl (by omega) (by omega) rfl ?_
   refine Qb rfl rfl (Qf ?_)
   exact QG (L1 := [(0, _), (2, _), (18, _), (19, _), (20, intV ((i + 1 : Nat) : Int))]) (ZH rfl rfl rfl rfl rfl) (k1 := (QL ks).length - (i + 1)) (by omega) ⟨i + 1, L1, V1, by omega, rfl, (Xx (m := n + (i + 1)) (by omega) (hk7.pick [2, 1, 3, 4] rfl)).reorder [1, 0, 2, 3] rfl, by omega, hI1, hsp, hal, hpg, by rw [hp, UY (Se hk hob)], hT, by rw [hab, UY (Se hk hob)]⟩
  refine QZ (Qv (Qv (Q4 (Qc (Q0 (Qs ?_))))))
  refine W4 (.inr rfl) rfl ?_
  have hil : i = (QL ks).length := by omega
  rw [hil, List.take_length] at hp hab
  exact ⟨_, rfl, L1, V1, ⟨hI1, hsp, fun c q => hal c q, fun c q => q.subP (fun j hj => by rw [hp] at hj; unfold ZU at hj; split at hj; exact absurd rfl hj; exact hj) hT, hpg⟩, by rw [hab, TE hI.zero (allP hks)]; rfl, Tx (fun j hj => by rw [hp] at hj; unfold ZU at hj; split at hj; exact absurd rfl hj; exact hj) hT, (Xx (m := n + 2 * c) (by omega) (hS3.pick [1, 0, 3] rfl)).reorder [1, 0, 2] rfl⟩
 exact absurd rfl h1
end Go.Proofs.YtkcjfoaejijdoaaGreatDoor
/- leaves: Drop in a trial -/
namespace Go.Proofs.YtkcjfoaejijdoaaGreatDoor
open Go.RowKit M
set_option linter.unusedVariables false
theorem Jv {L : LvD} {id : Int} {t : TrD} {k : KD} {x : LfD} (ht : L.tr id = some t) (hx : t.lv k = some x) : Zj L id t k x = L := by
  unfold Zj
  rw [Yk hx, Yk ht]
/-- leaves of a trial are changed in memory as they are by contents -/
def DrI (L L1 : LvD) (V V1 : VS) (id : Int) (t : TrD) (l : List KD) (ob : Bs) : Prop :=
  ∃ g : KD → Option LfD, L1.tr = Xj L.tr id (some { t with lv := g }) ∧ L1.pres = L.pres ∧ (∀ k, (g k = none ↔ t.lv k = none) ∧ ∀ x, g k = some x → ∃ y, t.lv k = some y ∧ y.ad = x.ad) ∧
    Q5 L1 V1 = { Q5 L V with tr := Xj (Q5 L V).tr id (some { Zk V t with lv := Z8 (inD l ob) (Zk V t).lv }) }
theorem DrI.start {L : LvD} {V : VS} {id : Int} {t : TrD} {ob : Bs} (ht : L.tr id = some t) : DrI L L V V id t [] ob := by
  refine ⟨t.lv, (Yk ht).symm, rfl, fun k => ⟨Iff.rfl, fun x hx => ⟨x, hx, rfl⟩⟩, ?_⟩
  rw [Ty]
  have := Yk (f := (Q5 L V).tr) (k := id) (Zr ht)
  show Q5 L V = { Q5 L V with tr := Xj (Q5 L V).tr id (some (Zk V t)) }
  rw [this]
theorem DrI.F {L L1 : LvD} {V V1 : VS} {id : Int} {t : TrD} {l : List KD} {i : Nat} {k : KD} {ob : Bs} (h : DrI L L1 V V1 id t (l.take i) ob) (hk : l[i]? = some k) (hob : k.1 ≠ ob) : DrI L L1 V V1 id t (l.take (i + 1)) ob := by
  obtain ⟨g, a, b, c, d⟩ := h
  refine ⟨g, a, b, c, ?_⟩
  rw [d, Gl fun j _ => (Se hk hob j).symm]
theorem DrI.T {L L1 : LvD} {V V1 V2 : VS} {id : Int} {t t1 : TrD} {l : List KD} {i : Nat} {k : KD} {x y : LfD} {ob : Bs} {f : Int → Bool} (h : DrI L L1 V V1 id t (l.take i) ob) (hk : l[i]? = some k) (hob : k.1 = ob) (ht1 : L1.tr id = some t1) (hx : t1.lv k = some x) (hy : y.ad = x.ad)
    (hab : Q5 (Zj { L1 with sh := f } id t1 k y) V2 = Zt (Q5 L1 V1) id k (ML (ZG V1 x) zer)) : DrI L (Zj { L1 with sh := f } id t1 k y) V V2 id t (l.take (i + 1)) ob := by
  obtain ⟨g, a, b, c, d⟩ := h
  rw [a, Q3] at ht1
  cases ht1
  dsimp only at hx
  refine ⟨Xj g k (some y), ?_, b, fun j => ?_, ?_⟩
  · show Xj L1.tr id _ = _
    rw [a, Hh]
  · by_cases e : j = k
    · subst e
      rw [Q3]
      obtain ⟨z, hz, hza⟩ := (c j).2 x hx
      refine ⟨⟨(fun q => by cases q), (fun q => by rw [hz] at q; cases q)⟩, fun w hw => ?_⟩
      cases hw
      exact ⟨z, hz, hza.trans hy.symm⟩
    · rw [QI e]; exact c j
  · have htA : (Q5 L1 V1).tr id = some { Zk V t with lv := Z8 (inD (l.take i) ob) (Zk V t).lv } := by rw [d]; exact Q3
    have hxA : ({ Zk V t with lv := Z8 (inD (l.take i) ob) (Zk V t).lv } : TrA).lv k = some (ZG V1 x) := by
      have h1 := Zr (V := V1) (show L1.tr id = some { t with lv := g } by rw [a, Q3])
      rw [htA] at h1
      have h2 := Zq (V := V1) (t := { t with lv := g }) hx
      have h3 : ({ Zk V t with lv := Z8 (inD (l.take i) ob) (Zk V t).lv } : TrA) = Zk V1 { t with lv := g } := by simpa using h1
      rw [h3]; exact h2
    rw [hab, ZI htA, d]
    simp only [Hh]
    rw [N4 (Sd hk hob) hxA]
theorem N3 {V : VS} {t : TrD} {l : List KD} {ob : Bs} (hl : ∀ k, k ∈ l ↔ t.lv k ≠ none) : Z8 (inD l ob) (Zk V t).lv = Z8 (fun j => j.1 = ob) (Zk V t).lv :=
  Gl fun j hj => by
    have : t.lv j ≠ none := fun q => hj (HQ q)
    unfold inD
    rw [hl]; simp [this]
theorem N2 {ex : Int → Int} {m : Nat} {L L1 : LvD} {V V1 : VS} {id : Int} {t : TrD} {l : List KD} {ob : Bs} {g : KD → Option LfD} (hI1 : LvX ex m L1 V1) (hsp : L1.sp = L.sp) (hal : ∀ c, AliveLe V c → AliveLe V1 c) (hpg : Pgs V V1) (hdr : DrI L L1 V V1 id t l ob) (ht : L.tr id = some t) (hl : ∀ k, k ∈ l ↔ t.lv k ≠ none)
    (hg1 : L1.tr = Xj L.tr id (some { t with lv := g })) (hg2 : L1.pres = L.pres) (hg3 : ∀ k, (g k = none ↔ t.lv k = none) ∧ ∀ x, g k = some x → ∃ y, t.lv k = some y ∧ y.ad = x.ad)
    (hg4 : Q5 L1 V1 = { Q5 L V with tr := Xj (Q5 L V).tr id (some { Zk V t with lv := Z8 (inD l ob) (Zk V t).lv }) }) :
    StepX ex m L V ex m 0 0 { L1 with tr := Xj L1.tr id (some { t with lv := g, dr := JF t.dr ob }) } V1 ∧ Q5 { L1 with tr := Xj L1.tr id (some { t with lv := g, dr := JF t.dr ob }) } V1 = HL (Q5 L V) id ob := by
  have ht1 : L1.tr id = some { t with lv := g } := by rw [hg1, Q3]
  generalize hL2 : ({ L1 with tr := Xj L1.tr id (some { t with lv := g, dr := JF t.dr ob }) } : LvD) = L2
  have hP : L2.pres = L1.pres := by subst hL2; rfl
  have hT : L2.tr = Xj L1.tr id (some { t with lv := g, dr := JF t.dr ob }) := by subst hL2; rfl
  have hf : ∀ q, Xf L2 q = Xf L1 q := fun q => by
    cases q with
    | inl j => simp [Xf, hP]
    | inr q =>
      obtain ⟨i, j, o⟩ := q
      simp only [Xf, hT]
      by_cases e : i = id
      · subst e; rw [Q3, ht1]
      · rw [QI e]
  have e1 : Q5 L2 V1 = HL (Q5 L V) id ob := by
    have h2 : Q5 L2 V1 = { Q5 L1 V1 with tr := Xj (Q5 L1 V1).tr id (some (Zk V1 { t with lv := g, dr := JF t.dr ob })) } := by
      unfold Q5
      rw [hP, hT]
      congr 1
      funext i
      by_cases e : i = id
      · subst e; rw [Q3, Q3]; rfl
      · rw [QI e, QI e]
    have h3 : Zk V1 { t with lv := g } = { Zk V t with lv := Z8 (inD l ob) (Zk V t).lv } := by
      have h4 := Zr (V := V1) ht1
      rw [hg4] at h4
      dsimp only at h4
      rw [Q3] at h4
      simpa using h4.symm
    have h5 : Zk V1 { t with lv := g, dr := JF t.dr ob } = { Zk V t with lv := Z8 (fun j => j.1 = ob) (Zk V t).lv, dr := JF t.dr ob } := by
      have h6 : (Zk V1 { t with lv := g, dr := JF t.dr ob }).lv = (Zk V1 { t with lv := g }).lv := rfl
      show (⟨t.parent, (Zk V1 { t with lv := g, dr := JF t.dr ob }).lv, JF t.dr ob⟩ : TrA) = _
      rw [h6, h3, N3 hl]
      rfl
    rw [h2, hg4, h5]
    unfold HL
    rw [Zr ht]
    dsimp only
    rw [Hh]
    rfl
  refine ⟨⟨⟨hI1.ref.fn hf, by rw [hT]; exact hI1.rank.same (Wk ht1 rfl), ?_⟩, by subst hL2; exact hsp, hal, fun c q => ?_, hpg⟩, e1⟩
  · have h7 : Q5 L2 V1 = { Q5 L1 V1 with tr := Xj (Q5 L1 V1).tr id (some (Zk V1 { t with lv := g, dr := JF t.dr ob })) } := by
      unfold Q5
      rw [hP, hT]
      congr 1
      funext i
      by_cases e : i = id
      · subst e; rw [Q3, Q3]; rfl
      · rw [QI e, QI e]
    rw [h7]
    intro i u k x hi hk
    dsimp only at hi
    by_cases e : i = id
    · subst e; rw [Q3] at hi; cases hi; exact hI1.agree i _ k x (Zr ht1) hk
    · rw [QI e] at hi; exact hI1.agree i u k x hi hk
  · obtain ⟨li, a, b, d⟩ := q
    refine ⟨li, a, fun k hk => b k (by rwa [hP, hg2] at hk), fun j u k x hj hk => ?_⟩
    rw [hT, hg1, Hh] at hj
    by_cases e : j = id
    · subst e
      rw [Q3] at hj
      cases hj
      obtain ⟨y, hy, _⟩ := (hg3 k).2 x hk
      exact d j t k y ht hy
    · rw [QI e] at hj; exact d j u k x hj hk
set_option maxRecDepth 100000 in
set_option maxHeartbeats 1600000 in
theorem S5 {w : World} {ex : Int → Int} {m : Nat} {b n Fr : Nat} {L : LvD} {V : VS} {F : Th} (hS : Sat w [ZV b L, Zv L.sp n Fr V, F]) {c : Nat} (hc : SzLe L c) (hn : n + 2 * c ≤ 600000000) (hI : LvX ex m L V) (hx : NN ex) {id : Int} {t : TrD} (ht : L.tr id = some t) (ob : Bs) :
    Calls Tryz.prog 27 #[ptrV b 0, intV id, strV ob] w (Ret fun v w' => ∃ L' V', StepX ex m L V ex m 0 0 L' V' ∧ Q5 L' V' = HL (Q5 L V) id ob ∧ OthK L L' id (fun _ => False) ∧ Sat w' [ZV b L', Zv L'.sp (n + 2 * c) Fr V', F]) := by
 have h0 : id ≠ 0 := hI.rank.none0 ht
 replace hS := XQ hS
 refine Qt Tryz.func27 rfl Tryz.ntmps27 rfl ?_
 refine Qd (Qd (Qa (Qb rfl rfl ?_)))
 refine X2 rfl rfl rfl ?_
 refine Qf (Qc ?_)
 refine Qx rfl (fun h1 => ?_) (fun h1 => ?_)
 ·exact absurd h1 h0
 refine Qy (Qc (Qd (Qa (Qb rfl rfl (Qj rfl rfl ?_)))))
 refine Qg rfl Wz rfl ?_
 refine Qu rfl YD (by exact hS.cell 0 rfl rfl) rfl ?_
 refine Qb rfl rfl ?_
 refine Ze (k := id) 2 hS keysInt Tryz.underlying82 rfl rfl rfl H1 (u := ptrV t.ad 0) (Zs ht) rfl ?_
 refine Qe rfl rfl (Qf (Qc ?_))
 refine Qh (L' := [(8, _), (0, _), (2, _)]) (Y2 rfl rfl rfl) ?_
 refine Qd (Qd (Qa (Qb rfl rfl ?_)))
 refine ZX Tryz.underlying94 rfl rfl rfl ?_
 refine Qf (Qc ?_)
 refine Xm rfl ?_
 refine Qy (Qc (Qd (Qd ?_)))
 have hS2 := Z5 (hS.pick [3, 0, 1, 2, 4, 5, 6] rfl) ht
 refine Qa (Qb rfl rfl (Qj rfl rfl ?_))
 refine Qg rfl ZN rfl ?_
 refine Qu rfl Jq (by exact hS2.cell 0 rfl rfl) rfl ?_
 have hC3 := hS2.split [1] [false, true, false, false, false, false, false, false, false, false, false] rfl; dsimp only [QC, Qz, Q9, Q8, Q7] at hC3
 refine Qo TA rfl (RV hC3 (fun ks h => by have := hc.keysL ht h; omega)) rfl ?_
 rintro e w3 ⟨_, rfl, ks, hks, hS3⟩; refine ⟨_, rfl, ?_⟩
 replace hS3 := hS3.join rfl; dsimp only [QU, QT, Q8, Q7] at hS3; clear hC3
 clear hS2
 obtain ⟨ar, cr, hvr, _⟩ := hS3.own_shape 0 rfl; obtain rfl := hvr
 refine XU Tryz.underlying98 rfl rfl ?_
 refine Qb rfl rfl (Qf (Qc ?_))
 refine Qh (L' := [(46, _), (45, _), (44, _), (8, _), (0, _), (2, _)]) (Wf rfl rfl rfl rfl rfl rfl) ?_
 refine Q1 ?_
 have hS4 := Z6 ht (hS3.pick [2, 1, 3, 4, 5, 0, 6, 7, 8, 9, 10, 11] rfl)
 have hz := QY (hS4.pick [2, 3, 4, 0, 5, 1, 6, 7] rfl)
 have hlk : (QL ks).length ≤ c := by rw [ZZ]; exact hc.keysL ht (Came.of_all hks)
 refine Xw (fun K0 E0 W0 => ∃ (i : Nat) (L1 : LvD) (V1 : VS), K0 = (QL ks).length - i ∧ E0 = [(0, ptrV b 0), (2, strV ob), (8, ptrV t.ad 0), (44, .slice ar (QL ks).length cr), (45, intV ((QL ks).length : Int)), (46, intV (i : Int))] ∧ Sat W0 [ZV b L1, Zv L1.sp (n + 2 * i) Fr V1, rowT kC (.slice ar (QL ks).length cr) (QL ks), F] ∧ (i ≤ (QL ks).length) ∧ (LvX ex m L1 V1) ∧ (L1.sp = L.sp) ∧ (∀ c, AliveLe V c → AliveLe V1 c) ∧ (Pgs V V1) ∧ (DrI L L1 V V1 id t ((QL ks).take i) ob)) (L0 := [(0, _), (2, _), (8, _), (44, _), (45, _), (46, _)]) ((QL ks).length) (Wf rfl rfl rfl rfl rfl rfl) ⟨0, L, V, by omega, rfl, hz.pick [0, 2, 1, 3] rfl, by omega, hI, rfl, fun _ q => q, .refl, DrI.start ht⟩ ?_
 rintro _ _ w5 ⟨i, L1, V1, rfl, rfl, hS5, hi, hI1, hsp, hal, hpg, hdr⟩
 refine Qd (Qa ?_)
 refine Xt rfl rfl rfl ?_
 refine Qf (Qc (Qd ?_))
 refine Qx rfl (fun h6 => ?_) (fun h6 => ?_)
 ·obtain ⟨k, hk⟩ : ∃ k, (QL ks)[i]? = some k := ⟨_, List.getElem?_eq_getElem (by omega)⟩
  refine Qy (Qc (Qd (Q1 (Qd (Qa ?_)))))
  refine Xp kC 2 i hS5 rfl rfl rfl (by rfl) hk KJ rfl ?_
  intro bx7 capx7 hvx7
  refine ZA 2 i hS5 rfl hvx7 rfl hk XB Xc rfl rfl ?_
  refine Xl hS5 Wp rfl rfl ?_
  intro kb wk8 hk8
  clear hS5
  refine Xa hk8 rfl rfl Xc rfl (by rfl) (i := 0) rfl (by decide) ?_
  intro wk9 hk9; dsimp only [List.set] at hk9
  clear hk8
  replace hk9 := XR (k := k) hk9
  refine Qf (Qc (Qd ?_))
  obtain ⟨g, hg1, hg2, hg3, hg4⟩ := _root_.id hdr
  have ht1 : L1.tr id = some { t with lv := g } := by rw [hg1, Q3]
  obtain ⟨x1, hx1⟩ : ∃ x, g k = some x := Option.ne_none_iff_exists'.1 fun q => absurd ((hg3 k).1.1 q) ((Fa hks k).1 (List.mem_of_getElem? hk))
  have hS10 := JO ht1 hx1 (hk9.pick [1, 0, 2, 3, 4] rfl)
  have hS11 := hS10.drew
  refine QK [0, 1, 2, 3, 4, 5, 6] [] ZT (by kernel_rfl) ?_
  refine Qk rfl rfl rfl (fun _ => (Qr rfl)) ?_
  refine Qk rfl rfl rfl (fun _ => (Qq rfl)) ?_
  refine Qk rfl rfl rfl (fun _ => (Qi rfl ZN)) ?_
  refine QF rfl rfl rfl (Qm rfl Jq (by exact hS11.cell 2 rfl rfl)) ?_
  refine QF rfl rfl rfl (X9 rfl XB Xc (by exact hS11.blk 10 rfl) (by exact Nat.le_of_ble_eq_true rfl) rfl) ?_
  refine QF rfl rfl rfl (Xz (k := k) 3 hS11 keysKey Tryz.underlying90 rfl rfl rfl Hz (u := ptrV x1.ad 0) (Zs hx1)) ?_
  refine Qk rfl rfl rfl (fun _ => (Q6 rfl)) ?_
  refine VC.nil (Qc ?_)
  refine Qh (L' := [(11, _), (10, _), (0, _), (2, _), (8, _), (44, _), (45, _), (46, _)]) (WT rfl rfl rfl rfl rfl rfl rfl rfl) ?_
  refine Qd (Qa ?_)
  refine Qg rfl JQ rfl ?_
  refine Qu rfl Yz (by exact hS11.cell 10 rfl rfl) rfl ?_
  refine Qb rfl rfl ?_
  refine KY rfl rfl rfl ?_
  refine Qf (Qc ?_)
  refine Qh (L' := [(59, _), (11, _), (0, _), (2, _), (8, _), (44, _), (45, _), (46, _)]) (WT rfl rfl rfl rfl rfl rfl rfl rfl) ?_
  refine Qx rfl (fun h12 => ?_) (fun h12 => ?_)
  ·have hob : k.1 = ob := h12
   refine Qd (Qa (Qb rfl rfl (Qb rfl rfl (Qj rfl rfl ?_))))
   refine Qg rfl WE rfl ?_
   have hC13 := hS11.split [6, 9, 11, 0] [true, false, false, false, false, false, true, false, false, true, false, true, false, false] rfl; dsimp only [QC, Qz, Q9, Q8, Q7] at hC13
   refine Qo cal_73 rfl (hold_p hC13 (by omega) 0) rfl ?_
   rintro e w13 ⟨_, rfl, rfl, hS13⟩; refine ⟨_, rfl, ?_⟩
   replace hS13 := hS13.join rfl; dsimp only [QU, QT, Q8, Q7] at hS13; clear hC13
   clear hS11
   refine Qf (Qc ?_)
   refine Qh (L' := [(11, _), (0, _), (2, _), (8, _), (44, _), (45, _), (46, _)]) (WK rfl rfl rfl rfl rfl rfl rfl) ?_
   refine Qa (Qb rfl rfl (Qj rfl rfl ?_))
   refine Qg rfl Wn rfl ?_
   refine Xb (v := XG (BitVec.allOnes 64)) hS13 rfl rfl GZ rfl (i := 3) rfl (by exact Nat.le_of_ble_eq_true rfl) ?_
   intro w14 hS14; dsimp only [List.set] at hS14
   clear hS13
   refine Qf (Qp (Qc (Qa ?_)))
   refine QN rfl rfl (by omega) (by omega) rfl ?_
   refine Qb rfl rfl (Qf ?_)
   have hS15 := WD (L := { L1 with sh := Jt (refW V1 0) (Jx L1.sh 0) x1.own }) (y := { x1 with own := 0, wr := BitVec.allOnes 64 }) ht1 hx1 rfl (hS14.pick [3, 4, 5, 6, 7, 8, 0, 9, 10, 1, 2, 11, 12, 13] rfl)
   obtain ⟨hs1, hs2⟩ := Nr (s := 0) hI1 hx (.inl rfl) ht1 hx1 (Jt (refW V1 0) (Jx L1.sh 0) x1.own)
   rw [WP hI1.zero] at hs2
   have hd2 := hdr.T (y := { x1 with own := 0, wr := BitVec.allOnes 64 }) hk hob ht1 hx1 rfl hs2
   exact QG (L1 := [(0, _), (2, _), (8, _), (44, _), (45, _), (46, intV ((i + 1 : Nat) : Int))]) (Wf rfl rfl rfl rfl rfl rfl) (k1 := (QL ks).length - (i + 1)) (by omega) ⟨i + 1, _, _, by omega, rfl, (Xx (m := n + 2 * (i + 1)) (by omega) (hS15.pick [1, 0, 3, 4] rfl)).reorder [1, 0, 2, 3] rfl, by omega, hs1.inv, hs1.sp.trans hsp, fun c q => hs1.al c (hal c q), hpg.trans hs1.pg, hd2⟩
  have hob : k.1 ≠ ob := h12
  refine Qy (Qp (Qc (Qa ?_)))
  refine QN rfl rfl (by omega) (by omega) rfl ?_
  refine Qb rfl rfl (Qf ?_)
  have hS16 := WD (L := L1) (y := x1) ht1 hx1 rfl (hS11.pick [0, 1, 2, 3, 4, 5, 6, 7, 8, 9, 10, 11, 12, 13] rfl)
  rw [Jv ht1 hx1] at hS16
  exact QG (L1 := [(0, _), (2, _), (8, _), (44, _), (45, _), (46, intV ((i + 1 : Nat) : Int))]) (Wf rfl rfl rfl rfl rfl rfl) (k1 := (QL ks).length - (i + 1)) (by omega) ⟨i + 1, L1, V1, by omega, rfl, (Xx (m := n + 2 * (i + 1)) (by omega) (hS16.pick [2, 0, 3, 4] rfl)).reorder [1, 0, 2, 3] rfl, by omega, hI1, hsp, hal, hpg, hdr.F hk hob⟩
 refine QZ (Qv (Qv (Q4 (Qc ?_))))
 have hil : i = (QL ks).length := by omega
 rw [hil, List.take_length] at hdr
 obtain ⟨g, hg1, hg2, hg3, hg4⟩ := _root_.id hdr
 have ht1 : L1.tr id = some { t with lv := g } := by rw [hg1, Q3]
 have hS17 := XQ (hS5.pick [0, 1, 2, 3] rfl)
 have hS18 := Z5 (hS17.pick [3, 0, 1, 2, 4, 5, 6, 7] rfl) ht1
 refine Qa (Qb rfl rfl (Qj rfl rfl ?_))
 refine Qg rfl Vz rfl ?_
 refine Qu rfl B7 (by exact hS18.cell 0 rfl rfl) rfl ?_
 refine Qb rfl rfl ?_
 refine X1 (k := ob) (v := .bool true) 3 hS18 keysStr Tryz.underlying91 rfl rfl rfl rfl ?_
 intro w19 hS19; dsimp only [List.set] at hS19; rw [Dr] at hS19
 clear hS18
 refine Qf ?_
 refine W4 (.inl rfl) rfl ?_
 have hS20 := Ve (t := ({ t with lv := g, dr := JF t.dr ob } : TrD)) (hS19.pick [0, 1, 2, 3, 4, 5, 6, 7, 8, 9, 10, 11] rfl)
 rw [← YQ (ad := TrD.ad) (f := L1.tr) (k := id) (y := ({ t with lv := g, dr := JF t.dr ob } : TrD)) ht1 rfl] at hS20
 have hfin := N2 hI1 hsp hal hpg hdr ht (Fa hks) hg1 hg2 hg3 hg4
 exact ⟨_, rfl, { L1 with tr := Xj L1.tr id (some ({ t with lv := g, dr := JF t.dr ob } : TrD)) }, V1, hfin.1, hfin.2, Tw ht hg2 (by show Xj L1.tr id _ = _; rw [hg1, Hh]) (fun k x hx => by obtain ⟨y, hy, _⟩ := (hg3 k).2 x hx; rw [hy]; simp), (Xx (m := n + 2 * c) (by omega) ((QY (L := { L1 with tr := Xj L1.tr id (some ({ t with lv := g, dr := JF t.dr ob } : TrD)) }) (hS20.pick [1, 2, 3, 0, 4, 5, 7] rfl)).reorder [1, 0, 2] rfl)).reorder [1, 0, 2] rfl⟩
end Go.Proofs.YtkcjfoaejijdoaaGreatDoor
/- leaves: remove -/
namespace Go.Proofs.YtkcjfoaejijdoaaGreatDoor
open Go.RowKit M
set_option linter.unusedVariables false
theorem Ya {α : Type} {L : List α} (hn : L.Nodup) {i : Nat} {y : α} (hy : L[i]? = some y) : y ∉ L.take i := by
  intro q
  obtain ⟨j, hj⟩ := List.mem_iff_getElem?.1 q
  have hji : j < i := by have := (List.getElem?_eq_some_iff.1 hj).1; rw [List.length_take] at this; omega
  rw [List.getElem?_take_of_lt hji] at hj
  have h1 := (List.getElem?_eq_some_iff.1 hy)
  have h2 := (List.getElem?_eq_some_iff.1 hj)
  obtain ⟨p1, p2⟩ := h1
  obtain ⟨r1, r2⟩ := h2
  have := (List.getElem_inj hn).1 (r2.trans p2.symm)
  omega
/-- the child that a name leads to -/
def Sc (id : Int) (l : List KD) : Pl → Prop := fun p => ∃ k o, p = .inr (id, k, o) ∧ k ∈ l
theorem DV {κ α : Type} {ad : α → Nat} {f : κ → Option α} {k : κ} : upd (XV ad f) k none = XV ad (Xj f k none) := by
  funext j
  by_cases h : j = k
  · subst h; rw [ZD]; unfold XV; rw [Q3]; rfl
  · rw [W5 h]; unfold XV; rw [QI h]
/-- while a trial is removed -/
structure RemI (ex : Int → Int) (L : LvD) (V V1 : VS) (id : Int) (l : List KD) : Prop where
  ref : RefI (ZU (Sc id l) 0 (Xf L)) V1 ex
  pg : Pgs V V1
  al : ∀ c, AliveLe V c → AliveLe V1 c
theorem RemI.start {ex : Int → Int} {m : Nat} {L : LvD} {V : VS} {id : Int} (h : LvX ex m L V) : RemI ex L V V id [] :=
  ⟨h.ref.fn fun p => by simp [ZU, Sc], .refl, fun _ q => q⟩
theorem Bh {κ : Type} {f : κ → Int} {V : VS} {ex : Int → Int} (h : RefI f V ex) (hx : NN ex) (p : κ) : RefI (HW f p 0) (Zg V (f p)) ex :=
  ((h.put p 0).unr (h.aliveN rfl (hx _))).ext fun j hj => by rw [W2 (s := 0) hj]; omega
theorem RemI.step {ex : Int → Int} {L : LvD} {V V1 : VS} {id : Int} {t : TrD} {l : List KD} {i : Nat} {k : KD} {x : LfD} (h : RemI ex L V V1 id (l.take i)) (hx : NN ex) (ht : L.tr id = some t) (hl : t.lv k = some x) (hk : l[i]? = some k) (hn : l.Nodup) :
    RemI ex L V (Zg (Zg V1 x.base) x.own) id (l.take (i + 1)) := by
  have hni : k ∉ l.take i := Ya hn hk
  have hnz : ∀ o, ¬ Sc id (l.take i) (.inr (id, k, o)) := fun o => by
    rintro ⟨k', o', e, q⟩
    simp at e
    obtain ⟨rfl, rfl⟩ := e
    exact hni q
  have e1 : ZU (Sc id (l.take i)) 0 (Xf L) (.inr (id, k, false)) = x.base := by unfold ZU; rw [if_neg (hnz _), X3 ht hl]; rfl
  have a1 := Bh h.ref hx (.inr (id, k, false))
  rw [e1] at a1
  have e2 : HW (ZU (Sc id (l.take i)) 0 (Xf L)) (.inr (id, k, false)) 0 (.inr (id, k, true)) = x.own := by rw [XL (by simp)]; unfold ZU; rw [if_neg (hnz _), X3 ht hl]; rfl
  have a2 := Bh a1 hx (.inr (id, k, true))
  rw [e2] at a2
  refine ⟨a2.fn fun p => ?_, (h.pg.trans (Pgs.unr h.ref.zero)).trans (Pgs.unr a1.zero), fun c q => (h.al c q).unr.unr⟩
  · have hz : ∀ p, Sc id (l.take (i + 1)) p ↔ (p = .inr (id, k, true) ∨ (p = .inr (id, k, false) ∨ Sc id (l.take i) p)) := fun p => by
      unfold Sc
      rw [List.take_add_one, hk]
      simp only [Option.toList_some, List.mem_append, List.mem_singleton]
      constructor
      · rintro ⟨k', o, rfl, q | q⟩
        · exact .inr (.inr ⟨k', o, rfl, q⟩)
        · subst q; cases o
          · exact .inr (.inl rfl)
          · exact .inl rfl
      · rintro (rfl | rfl | ⟨k', o, rfl, q⟩)
        · exact ⟨k, true, rfl, .inr rfl⟩
        · exact ⟨k, false, rfl, .inr rfl⟩
        · exact ⟨k', o, rfl, .inl q⟩
    rw [HR (P := fun p => p = .inr (id, k, false) ∨ Sc id (l.take i) p) hz, HR (P := Sc id (l.take i)) (fun _ => Iff.rfl)]
noncomputable def M2 (A : LvA) (id : Int) : LvA := { A with tr := Xj A.tr id none }
theorem RankI.del {T : Int → Option TrD} {m : Nat} {id : Int} (h : RankI T m) (hch : ∀ i u, T i = some u → u.parent ≠ id) : RankI (Xj T id none) m := by
  obtain ⟨h0, r, a, b⟩ := h
  have h00 : Xj T id none 0 = none := by
    by_cases e : (0 : Int) = id
    · rw [← e, Q3]
    · rw [QI e]; exact h0
  refine ⟨h00, r, a, fun i t ht => ?_⟩
  by_cases e : i = id
  · subst e; rw [Q3] at ht; cases ht
  · rw [QI e] at ht
    rcases b i t ht with h1 | ⟨h1, h2⟩
    · exact .inl h1
    · exact .inr ⟨by rw [QI (hch i t ht)]; exact h1, h2⟩
theorem rem_fin {ex : Int → Int} {m : Nat} {L : LvD} {V V1 : VS} {id : Int} {t : TrD} {l : List KD} {f : Int → Bool} (hI : LvX ex m L V) (hx : NN ex) (h : RemI ex L V V1 id l) (ht : L.tr id = some t) (hl : ∀ k, k ∈ l ↔ t.lv k ≠ none) (hch : ∀ i u, L.tr i = some u → u.parent ≠ id) :
    StepX ex m L V ex m 0 0 { L with tr := Xj L.tr id none, sh := f } V1 ∧ Q5 { L with tr := Xj L.tr id none, sh := f } V1 = M2 (Q5 L V) id := by
  generalize hL2 : ({ L with tr := Xj L.tr id none, sh := f } : LvD) = L2
  have hP : L2.pres = L.pres := by subst hL2; rfl
  have hT : L2.tr = Xj L.tr id none := by subst hL2; rfl
  have hf : ∀ p, Xf L2 p = ZU (Sc id l) 0 (Xf L) p := fun p => by
    unfold ZU
    cases p with
    | inl j =>
      rw [if_neg (by rintro ⟨_, _, e, _⟩; cases e)]
      simp [Xf, hP]
    | inr q =>
      obtain ⟨i, k, o⟩ := q
      by_cases e : i = id
      · subst e
        have e1 : Xf L2 (.inr (i, k, o)) = 0 := by simp only [Xf, hT, Q3]
        rw [e1]
        split
        · rfl
        · rename_i hq
          cases hk : t.lv k with
          | none => rw [UM ht hk]
          | some x => exact absurd ⟨k, o, rfl, (hl k).2 (by rw [hk]; simp)⟩ hq
      · rw [if_neg (by rintro ⟨_, _, e2, _⟩; cases e2; exact e rfl)]
        simp only [Xf, hT]
        rw [QI e]
  have a1 : RefI (Xf L2) V1 ex := h.ref.fn hf
  have hc : ∀ p, XM V1 (Xf L2 p) = XM V (Xf L2 p) := fun p => (h.pg _ (a1.aliveN rfl (hx _))).2
  have e1 : Q5 L2 V1 = M2 (Q5 L V) id := by
    rw [Hy (V := V) hc]
    unfold Q5 M2
    rw [hP, hT]
    congr 1
    funext i
    by_cases e : i = id
    · subst e; rw [Q3, Q3]; rfl
    · rw [QI e, QI e]
  refine ⟨⟨⟨a1, by rw [hT]; exact hI.rank.del hch, ?_⟩, by subst hL2; rfl, h.al, fun c q => ?_, h.pg⟩, e1⟩
  · rw [e1]
    intro i u k x hi hk
    dsimp only [M2] at hi
    by_cases e : i = id
    · subst e; rw [Q3] at hi; cases hi
    · rw [QI e] at hi; exact hI.agree i u k x hi hk
  · obtain ⟨li, a, b, d⟩ := q
    refine ⟨li, a, fun k hk => b k (by rwa [hP] at hk), fun j u k x hj hk => ?_⟩
    rw [hT] at hj
    by_cases e : j = id
    · subst e; rw [Q3] at hj; cases hj
    · rw [QI e] at hj; exact d j u k x hj hk
set_option maxRecDepth 100000 in
set_option maxHeartbeats 1600000 in
theorem CX {w : World} {ex : Int → Int} {m : Nat} {b n Fr : Nat} {L : LvD} {V : VS} {F : Th} (hS : Sat w [ZV b L, Zv L.sp n Fr V, F]) {c : Nat} (hc : SzLe L c) (hn : n + 2 * c ≤ 600000000) (hI : LvX ex m L V) (hx : NN ex) {id : Int} {t : TrD} (ht : L.tr id = some t) (hch : ∀ i u, L.tr i = some u → u.parent ≠ id) :
    Calls Tryz.prog 55 #[ptrV b 0, intV id] w (Ret fun v w' => ∃ L' V', StepX ex m L V ex m 0 0 L' V' ∧ Q5 L' V' = M2 (Q5 L V) id ∧ L'.pres = L.pres ∧ L'.tr = Xj L.tr id none ∧ Sat w' [ZV b L', Zv L'.sp (n + 2 * c) Fr V', F]) := by
 replace hS := XQ hS
 refine Qt Tryz.func55 rfl Tryz.ntmps55 rfl ?_
 refine Qd (Qa (Qb rfl rfl (Qj rfl rfl ?_)))
 refine Qg rfl Wz rfl ?_
 refine Qu rfl YD (by exact hS.cell 0 rfl rfl) rfl ?_
 refine Qb rfl rfl ?_
 refine Ze (k := id) 2 hS keysInt Tryz.underlying82 rfl rfl rfl H1 (u := ptrV t.ad 0) (Zs ht) rfl ?_
 refine Qe rfl rfl (Qf (Qc (Qd (Qd ?_))))
 have hS1 := Z5 (hS.pick [3, 0, 1, 2, 4, 5, 6] rfl) ht
 refine Qa (Qb rfl rfl (Qj rfl rfl ?_))
 refine Qg rfl ZN rfl ?_
 refine Qu rfl Jq (by exact hS1.cell 0 rfl rfl) rfl ?_
 have hC2 := hS1.split [1] [false, true, false, false, false, false, false, false, false, false, false] rfl; dsimp only [QC, Qz, Q9, Q8, Q7] at hC2
 refine Qo TA rfl (RV hC2 (fun ks h => by have := hc.keysL ht h; omega)) rfl ?_
 rintro e w2 ⟨_, rfl, ks, hks, hS2⟩; refine ⟨_, rfl, ?_⟩
 replace hS2 := hS2.join rfl; dsimp only [QU, QT, Q8, Q7] at hS2; clear hC2
 clear hS1
 obtain ⟨ar, cr, hvr, _⟩ := hS2.own_shape 0 rfl; obtain rfl := hvr
 refine XU Tryz.underlying98 rfl rfl ?_
 refine Qb rfl rfl (Qf (Qc ?_))
 refine Qh (L' := [(19, _), (18, _), (17, _), (4, _), (0, _), (1, _)]) (Wf rfl rfl rfl rfl rfl rfl) ?_
 refine Q1 ?_
 have hnd := Y6 hks.nodup
 have hlk : (QL ks).length ≤ c := by rw [ZZ]; exact hc.keysL ht (Came.of_all hks)
 refine Xw (fun K0 E0 W0 => ∃ (i : Nat) (f : Int → Bool) (V1 : VS), K0 = (QL ks).length - i ∧ E0 = [(0, ptrV b 0), (1, intV id), (4, ptrV t.ad 0), (17, .slice ar (QL ks).length cr), (18, intV ((QL ks).length : Int)), (19, intV (i : Int))] ∧ Sat W0 [QO t.ad [intV t.parent, .map (some t.ml), .map (some t.md)], QH Xu t.ml (XV LfD.ad t.lv), Zh Ka t.lv, QH WM t.md (Jc t.dr), Zh UW (Xj L.tr id none), QO b [ptrV L.sp 0, .map (some L.mp), .map (some L.mt), intV L.cur, .map (some L.ms)], QH Xu L.mp (Zo L.pres), QH Xd L.mt (XV TrD.ad L.tr), QH Xd L.ms (Jc f), Zv L.sp (n + 2 * i) Fr V1, rowT kC (.slice ar (QL ks).length cr) (QL ks), F] ∧ (i ≤ (QL ks).length) ∧ (RemI ex L V V1 id ((QL ks).take i))) (L0 := [(0, _), (1, _), (4, _), (17, _), (18, _), (19, _)]) ((QL ks).length) (Wf rfl rfl rfl rfl rfl rfl) ⟨0, L.sh, V, by omega, rfl, hS2.pick [2, 1, 3, 4, 5, 6, 7, 8, 9, 10, 0, 11] rfl, by omega, RemI.start hI⟩ ?_
 rintro _ _ w3 ⟨i, f, V1, rfl, rfl, hS3, hi, hrm⟩
 refine Qd (Qa ?_)
 refine Xt rfl rfl rfl ?_
 refine Qf (Qc (Qd ?_))
 refine Qx rfl (fun h4 => ?_) (fun h4 => ?_)
 ·obtain ⟨k, hk⟩ : ∃ k, (QL ks)[i]? = some k := ⟨_, List.getElem?_eq_getElem (by omega)⟩
  refine Qy (Qc (Qd (Q1 (Qd (Qa ?_)))))
  refine Xp kC 10 i hS3 rfl rfl rfl (by rfl) hk KJ rfl ?_
  intro bx5 capx5 hvx5
  refine ZA 10 i hS3 rfl hvx5 rfl hk XB Xc rfl rfl ?_
  refine Xl hS3 Wp rfl rfl ?_
  intro kb wk6 hk6
  clear hS3
  refine Xa hk6 rfl rfl Xc rfl (by rfl) (i := 0) rfl (by decide) ?_
  intro wk7 hk7; dsimp only [List.set] at hk7
  clear hk6
  replace hk7 := XR (k := k) hk7
  refine Qf (Qc (Qd ?_))
  obtain ⟨x, hl⟩ : ∃ x, t.lv k = some x := Option.ne_none_iff_exists'.1 ((Fa hks k).1 (List.mem_of_getElem? hk))
  have hS8 := Yu (hk7.pick [3, 0, 1, 2, 4, 5, 6, 7, 8, 9, 10, 11, 12] rfl) hl
  have hS9 := hS8.drew
  refine QK [0, 1, 2, 3, 4, 5, 6, 7, 8, 9, 10] [10] ZT (by kernel_rfl) ?_
  refine Qk rfl rfl rfl (fun _ => (Qr rfl)) ?_
  refine Qk rfl rfl rfl (fun _ => (Qr rfl)) ?_
  refine Qk rfl rfl rfl (fun _ => (Qq rfl)) ?_
  refine Qk rfl rfl rfl (fun _ => (Qi rfl ZN)) ?_
  refine QF rfl rfl rfl (Qm rfl Jq (by exact hS9.cell 3 rfl rfl)) ?_
  refine QF rfl rfl rfl (X9 rfl XB Xc (by exact hS9.blk 2 rfl) (by exact Nat.le_of_ble_eq_true rfl) rfl) ?_
  refine QF rfl rfl rfl (Xz (k := k) 4 hS9 keysKey Tryz.underlying90 rfl rfl rfl Hz (u := ptrV x.ad 0) (Zs hl)) ?_
  refine Qk rfl rfl rfl (fun _ => (Qq rfl)) ?_
  refine Qk rfl rfl rfl (fun _ => (Qi rfl Rk)) ?_
  refine QF rfl rfl rfl (Qm rfl QW (by exact hS9.cell 0 rfl rfl)) ?_
  refine Xn rfl rfl rfl rfl rfl rfl ?_
  have hC10 := hS9.split [7, 10, 11] [false, false, false, false, false, false, false, true, false, false, true, true, false, false] rfl; dsimp only [QC, Qz, Q9, Q8, Q7] at hC10
  refine Qo Hu rfl (Hi hC10 (by omega) x.base) rfl ?_
  rintro e w10 ⟨_, rfl, rfl, hS10⟩; refine ⟨_, rfl, ?_⟩
  replace hS10 := hS10.join rfl; dsimp only [QU, QT, Q8, Q7] at hS10; clear hC10
  clear hS9
  refine XJ (.skip (by kernel_rfl) (.skip (by kernel_rfl) (.skip (by kernel_rfl) (.skip (by kernel_rfl) .nil)))) ?_
  refine VC.nil (Qc ?_)
  refine Qh (L' := [(6, _), (0, _), (1, _), (4, _), (17, _), (18, _), (19, _)]) (WK rfl rfl rfl rfl rfl rfl rfl) ?_
  have hS11 := hS10.drew
  refine QK [0, 1, 2, 3, 4, 5, 6, 7, 8, 9, 10] [10] ZT (by kernel_rfl) ?_
  refine Qk rfl rfl rfl (fun _ => (Qr rfl)) ?_
  refine Qk rfl rfl rfl (fun _ => (Qr rfl)) ?_
  refine Qk rfl rfl rfl (fun _ => (Qq rfl)) ?_
  refine Qk rfl rfl rfl (fun _ => (Qi rfl ZN)) ?_
  refine QF rfl rfl rfl (Qm rfl Jq (by exact hS11.cell 6 rfl rfl)) ?_
  refine QF rfl rfl rfl (X9 rfl XB Xc (by exact hS11.blk 5 rfl) (by exact Nat.le_of_ble_eq_true rfl) rfl) ?_
  refine QF rfl rfl rfl (Xz (k := k) 7 hS11 keysKey Tryz.underlying90 rfl rfl rfl Hz (u := ptrV x.ad 0) (Zs hl)) ?_
  refine Qk rfl rfl rfl (fun _ => (Qq rfl)) ?_
  refine Qk rfl rfl rfl (fun _ => (Qi rfl WE)) ?_
  refine QF rfl rfl rfl (Qm rfl QW (by exact hS11.cell 3 rfl rfl)) ?_
  refine Xn rfl rfl rfl rfl rfl rfl ?_
  have hC12 := hS11.split [0, 1, 2] [true, true, true, false, false, false, false, false, false, false, false, false, false, false] rfl; dsimp only [QC, Qz, Q9, Q8, Q7] at hC12
  refine Qo Hu rfl (Hi hC12 (by omega) x.own) rfl ?_
  rintro e w12 ⟨_, rfl, rfl, hS12⟩; refine ⟨_, rfl, ?_⟩
  replace hS12 := hS12.join rfl; dsimp only [QU, QT, Q8, Q7] at hS12; clear hC12
  clear hS11
  refine XJ (.skip (by kernel_rfl) (.skip (by kernel_rfl) (.skip (by kernel_rfl) (.skip (by kernel_rfl) .nil)))) ?_
  refine VC.nil (Qp (Qc ?_))
  refine Qh (L' := [(0, _), (1, _), (4, _), (17, _), (18, _), (19, _)]) (Wf rfl rfl rfl rfl rfl rfl) ?_
  refine Qa ?_
  refine QN rfl rfl (by omega) (by omega) rfl ?_
  refine Qb rfl rfl (Qf ?_)
  have hS13 := Z7 hl (hS12.pick [3, 4, 0, 1, 2, 5, 6, 7, 8, 9, 10, 11, 12, 13] rfl)
  have hr2 := hrm.step hx ht hl hk hnd
  exact QG (L1 := [(0, _), (1, _), (4, _), (17, _), (18, _), (19, intV ((i + 1 : Nat) : Int))]) (Wf rfl rfl rfl rfl rfl rfl) (k1 := (QL ks).length - (i + 1)) (by omega) ⟨i + 1, _, _, by omega, rfl, hS13.pick [5, 6, 0, 7, 8, 1, 9, 10, 2, 3, 11, 12] rfl, by omega, hr2⟩
 refine QZ (Qv (Qv (Q4 (Qc (Qa (Qb rfl rfl (Qj rfl rfl ?_)))))))
 refine Qg rfl Wz rfl ?_
 refine Qu rfl YD (by exact hS3.cell 5 rfl rfl) rfl ?_
 refine Qb rfl rfl ?_
 refine JX (k := id) 7 hS3 keysInt Tryz.underlying82 rfl rfl rfl rfl ?_
 intro w14 hS14; dsimp only [List.set] at hS14; rw [DV] at hS14
 clear hS3
 refine Qf ?_
 refine W4 (.inl rfl) rfl ?_
 have hil : i = (QL ks).length := by omega
 rw [hil, List.take_length] at hrm
 have hfin := rem_fin (f := f) hI hx hrm ht (Fa hks) hch
 exact ⟨_, rfl, { L with tr := Xj L.tr id none, sh := f }, V1, hfin.1, hfin.2, rfl, rfl, (Xx (m := n + 2 * c) (by omega) ((QY (L := { L with tr := Xj L.tr id none, sh := f }) (hS14.pick [5, 6, 7, 4, 8, 9, 11] rfl)).reorder [1, 0, 2] rfl)).reorder [1, 0, 2] rfl⟩
end Go.Proofs.YtkcjfoaejijdoaaGreatDoor
