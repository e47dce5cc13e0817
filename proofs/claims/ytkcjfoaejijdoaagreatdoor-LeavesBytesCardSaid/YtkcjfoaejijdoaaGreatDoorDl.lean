/- slices.IndexFunc, DeleteFunc -/
import Derived.Test.YtkcjfoaejijdoaaGreatDoorRow
import Derived.Test.YtkcjfoaejijdoaaGreatDoorSh7
namespace Go.Proofs.YtkcjfoaejijdoaaGreatDoor
open Go.RowKit M
set_option linter.unusedVariables false
def EqF (P : Program) (g : Nat) (c : Nat) (id : Int) : Prop := QM P g = true ∧ ∀ (n : Int) (w : World) (X : Th), Sat w [QO c [intV id], X] → Calls P g #[intV n, ptrV c 0] w (Ret fun v w' => v = .bool (decide (n = id)) ∧ Sat w' [QO c [intV id], X])
set_option maxRecDepth 100000 in
theorem ixI_sp {w : World} {g c : Nat} {id : Int} {F : Th} (hE : EqF Tryz.prog g c id) (hS : Sat w [QO c [intV id], F]) {lv : Value} {l : List Int} (hL : Ent F (RdL inC lv l)) :
    Calls Tryz.prog 85 #[lv, .func (.func g) #[] #[ptrV c 0]] w (Ret fun v w' => (v = intV (-1) ∧ (∀ y ∈ l, y ≠ id) ∧ Sat w' [QO c [intV id], F]) ∨ (∃ k : Nat, v = intV (k : Int) ∧ l[k]? = some id ∧ (∀ j y, j < k → l[j]? = some y → y ≠ id) ∧ Sat w' [QO c [intV id], F])) := by
 obtain ⟨ao, cap, rfl, hmax⟩ := (hL.sat hS 1 rfl).shape
 refine Qt Tryz.func85 rfl Tryz.ntmps85 rfl ?_
 refine Qd (Qa (Qe rfl rfl (Qf (Qc (Qd (Qd (Qa (Qb rfl rfl ?_))))))))
 refine XU Tryz.underlying47 rfl rfl ?_
 refine Qb rfl rfl (Qf (Qc (Q1 ?_)))
 refine Xw (fun K0 E0 W0 => ∃ (i : Nat), K0 = l.length - i ∧ E0 = [(0, .slice ao l.length cap), (1, .func (.func g) #[] #[ptrV c 0]), (7, intV (l.length : Int)), (8, intV (i : Int))] ∧ Sat W0 [QO c [intV id], F] ∧ (i ≤ l.length) ∧ (∀ j y, j < i → l[j]? = some y → y ≠ id)) (L0 := [(0, _), (1, _), (7, _), (8, _)]) (l.length - 0) (Jr rfl rfl rfl rfl) ⟨0, rfl, rfl, hS, by omega, by omega⟩ ?_
 rintro _ _ w1 ⟨i, rfl, rfl, hS1, hi, hno⟩
 refine Qd (Qa ?_)
 refine Xt rfl rfl rfl ?_
 refine Qf (Qc (Qd ?_))
 refine Qx rfl (fun h2 => ?_) (fun h2 => ?_)
 ·obtain ⟨x, hx⟩ : ∃ x, l[i]? = some x := ⟨_, List.getElem?_eq_getElem (by omega)⟩
  obtain ⟨b, off, rfl, _⟩ := (hL.sat hS1 1 rfl).get hx
  refine Qy (Qc (Qd (Q1 (Qd (Qa (Qb rfl rfl (Qe rfl rfl (Qf (Qc (Qd (Qa (Qb rfl rfl (Qb rfl rfl (Qb rfl rfl ?_))))))))))))))
  refine Z1 i rfl rfl (by rfl) (by exact (List.getElem?_eq_some_iff.1 hx).1) KK rfl ?_
  refine Qu rfl QW (((hL.sat hS1 1 rfl).at_ hx) 0 _ rfl) rfl ?_
  have hC3 := hS1.split [0] [true, false] rfl; dsimp only [QC, Qz, Q9, Q8, Q7] at hC3
  refine R1 rfl hE.1 rfl (hE.2 _ _ _ hC3) rfl ?_
  rintro e w3 ⟨_, rfl, rfl, hS3⟩; refine ⟨_, rfl, ?_⟩
  replace hS3 := hS3.join rfl; dsimp only [QU, QT, Q8, Q7] at hS3; clear hC3
  clear hS1
  refine Qf (Qc ?_)
  refine Qh (L' := [(16, _), (5, _), (0, _), (1, _), (7, _), (8, _)]) (Wf rfl rfl rfl rfl rfl rfl) ?_
  refine Qx rfl (fun h4 => ?_) (fun h4 => ?_)
  ·have heq : x = id := h4
   refine Qd (Qa (Qb rfl rfl (Qe rfl rfl (Qf (Qc (Q0 (QE (Qs (Qs (QE (Qs ?_)))))))))))
   refine QV (.inr rfl) rfl rfl ?_
   exact ⟨_, rfl, .inr ⟨i, rfl, by rw [hx, heq], hno, hS3.pick [0, 1] rfl⟩⟩
  have hne : x ≠ id := h4
  refine Qy (Qp (Qc (Qa ?_)))
  refine QN rfl rfl (by omega) (by omega) rfl ?_
  refine Qb rfl rfl (Qf ?_)
  exact QG (L1 := [(0, _), (1, _), (7, _), (8, intV ((i + 1 : Nat) : Int))]) (Jr rfl rfl rfl rfl) (k1 := l.length - (i + 1)) (by omega) ⟨i + 1, rfl, rfl, hS3.pick [0, 1] rfl, by omega, fun j y hj hq => by by_cases e : j = i; (subst e; rw [hx] at hq; cases hq; exact hne); exact hno j y (by omega) hq⟩
 refine QZ (Qv (Qv (Q4 (Qc (Qd (Qa (Qe rfl rfl (Qf (Qc (Q0 ?_))))))))))
 refine QV (.inr rfl) rfl rfl ?_
 exact ⟨_, rfl, .inl ⟨rfl, fun y hm => by obtain ⟨j, hj⟩ := List.mem_iff_getElem?.1 hm; exact hno j y (by have := (List.getElem?_eq_some_iff.1 hj).1; omega) hj, hS1.pick [0, 1] rfl⟩⟩
set_option maxRecDepth 100000 in
set_option maxHeartbeats 800000000 in
theorem Db {w : World} {g c : Nat} {id : Int} {F : Th} (hE : EqF Tryz.prog g c id) {sv : Value} {l : List Int} (hS : Sat w [rowT inC sv l, QO c [intV id], F]) (hln : l.length ≤ 1000000000) :
    Calls Tryz.prog 153 #[sv, .func (.func g) #[] #[ptrV c 0]] w (Ret fun v w' => Sat w' [rowT inC v (l.filter (fun n => !decide (n = id))), QO c [intV id], F]) := by
 obtain ⟨ao, cap, rfl, hcap0, _⟩ := hS.own_shape 0 rfl
 refine Qt Tryz.func153 rfl Tryz.ntmps153 rfl ?_
 refine Qd (Qa (Qe rfl rfl (Qf (Qc (Qd (Qa (Qb rfl rfl (Qb rfl rfl ?_))))))))
 have hC1 := hS.split [1] [false, true, false] rfl; dsimp only [QC, Qz, Q9, Q8, Q7] at hC1
 refine Qo cal_85 rfl (ixI_sp hE hC1 (l := l) (Ent.starL (Hr (C := inC) (l := l) (by omega)) 0 rfl)) rfl ?_
 rintro e w1 ⟨_, rfl, (⟨rfl, hno, hS1⟩ | ⟨k, rfl, hk, hno, hS1⟩)⟩
 ·refine ⟨_, rfl, ?_⟩
  replace hS1 := hS1.join rfl; dsimp only [QU, QT, Q8, Q7] at hS1; clear hC1
  refine Qe rfl rfl (Qf (Qc (Qd (Qd (Qa (Qb rfl rfl ?_))))))
  refine X2 rfl rfl rfl ?_
  refine Qf (Qc ?_)
  refine Qx rfl (fun h2 => ?_) (fun h2 => ?_)
  ·refine Qd (Qa (Qb rfl rfl (Qe rfl rfl (Qf (Qc (Q0 (Qs ?_)))))))
   refine QV (.inr rfl) rfl rfl ?_
   exact ⟨_, rfl, by rw [show l.filter (fun n => !decide (n = id)) = l from List.filter_eq_self.2 (fun y hy => by simpa using hno y hy)]; exact hS1.pick [1, 0, 2] rfl⟩
  exact absurd rfl h2
 refine ⟨_, rfl, ?_⟩
 replace hS1 := hS1.join rfl; dsimp only [QU, QT, Q8, Q7] at hS1; clear hC1
 refine Qe rfl rfl (Qf (Qc (Qd (Qd (Qa (Qb rfl rfl ?_))))))
 refine X2 rfl rfl rfl ?_
 refine Qf (Qc ?_)
 refine Qx rfl (fun h3 => ?_) (fun h3 => ?_)
 ·exact absurd h3 (by omega)
 refine Qy (Qc (Qd (Qd ?_)))
 have hkl := (List.getElem?_eq_some_iff.1 hk).1
 obtain ⟨ob, oc9, hq9, hcap⟩ := hS1.own_at 1 rfl (by omega)
 cases hq9
 refine Qa (Qb rfl rfl ?_)
 refine QN rfl rfl (by omega) (by omega) rfl ?_
 refine Qe rfl rfl (Qf (Qc ?_))
 refine Qh (L' := [(6, _), (5, _), (4, _), (0, _), (1, _)]) (ZH rfl rfl rfl rfl rfl) ?_
 refine Q1 ?_
 have hq0 := hS1.pick [1, 0, 2] rfl
 refine Xw (fun K0 E0 W0 => ∃ (l1 : List Int) (i j : Nat), K0 = l.length - j ∧ E0 = [(0, .slice (some ⟨ob, 0, none⟩) l.length cap), (1, .func (.func g) #[] #[ptrV c 0]), (5, intV (i : Int)), (6, intV (j : Int))] ∧ Sat W0 [rowT inC (.slice (some ⟨ob, 0, none⟩) l.length cap) l1, QO c [intV id], F] ∧ (i < j) ∧ (j ≤ l.length) ∧ (l1.length = l.length) ∧ (l1.take i = (l.take j).filter (fun n => !decide (n = id))) ∧ (l1.drop j = l.drop j)) (L0 := [(0, _), (1, _), (5, _), (6, _)]) (l.length - (k + 1)) (Jr rfl rfl rfl rfl) ⟨l, k, k + 1, rfl, rfl, hq0, by omega, by omega, rfl, by rw [HG hk, if_pos rfl, List.append_nil]; symm; rw [List.filter_eq_self]; intro y hy; obtain ⟨q, hq⟩ := List.mem_iff_getElem?.1 hy; have hql := (List.getElem?_eq_some_iff.1 hq).1; rw [List.length_take] at hql; rw [List.getElem?_take, if_pos (by omega)] at hq; simpa using hno q y (by omega) hq, rfl⟩ ?_
 rintro _ _ w4 ⟨l1, i, j, rfl, rfl, hS4, hij, hjl, hl1, ht1, hd1⟩
 refine Qd (Qd (Qa (Qb rfl rfl (Qb rfl rfl ?_))))
 refine XU Tryz.underlying47 rfl rfl ?_
 refine Xt rfl rfl rfl ?_
 refine Qf (Qc ?_)
 refine Qx rfl (fun h5 => ?_) (fun h5 => ?_)
 ·obtain ⟨v, hv⟩ : ∃ v, l[j]? = some v := ⟨_, List.getElem?_eq_getElem (by omega)⟩
  have hv1 : l1[j]? = some v := by have := congrArg (fun q => q[0]?) hd1; simp only [List.getElem?_drop, Nat.add_zero] at this; rw [this]; exact hv
  refine Qy (Qc (Qd (Q1 (Qd (Qa (Qb rfl rfl (Qb rfl rfl ?_)))))))
  refine Xp inC 0 j hS4 rfl rfl rfl (by rfl) hv1 KK rfl ?_
  intro bx6 capx6 hvx6
  refine Z4 0 j 0 hS4 rfl hvx6 rfl rfl hv1 QW rfl rfl ?_
  refine Qe rfl rfl (Qf (Qc ?_))
  refine Qh (L' := [(7, _), (0, _), (1, _), (5, _), (6, _)]) (ZH rfl rfl rfl rfl rfl) ?_
  refine Qd (Qa (Qb rfl rfl (Qb rfl rfl ?_)))
  have hC7 := hS4.split [1] [false, true, false] rfl; dsimp only [QC, Qz, Q9, Q8, Q7] at hC7
  refine R1 rfl hE.1 rfl (hE.2 _ _ _ hC7) rfl ?_
  rintro e w7 ⟨_, rfl, rfl, hS7⟩; refine ⟨_, rfl, ?_⟩
  replace hS7 := hS7.join rfl; dsimp only [QU, QT, Q8, Q7] at hS7; clear hC7
  clear hS4
  refine QS rfl rfl ?_
  refine Qf (Qc ?_)
  refine QR rfl (fun h8 => ?_) (fun h8 => ?_)
  ·have hvn : ¬ v = id := by simpa using h8
   refine Qd ?_
   obtain ⟨vx, hvx⟩ : ∃ v, l1[i]? = some v := ⟨_, List.getElem?_eq_getElem (by omega)⟩
   refine Qa (Qb rfl rfl (Qb rfl rfl (Qb rfl rfl ?_)))
   refine Xp inC 1 i hS7 rfl rfl rfl (by rfl) hvx KK rfl ?_
   intro bx9 capx9 hvx9
   refine ZJ 1 i v hS7 rfl hvx9 rfl rfl YM (by rfl) (by omega) ?_
   intro w10 hS11; dsimp only [List.set] at hS11
   clear hS7
   refine Qf (Qc ?_)
   refine Qh (L' := [(0, _), (1, _), (5, _), (6, _)]) (Jr rfl rfl rfl rfl) ?_
   refine Qa (Qb rfl rfl ?_)
   refine QN rfl rfl (by omega) (by omega) rfl ?_
   refine Qe rfl rfl (Qf (Qp (Qc (Qa (Qb rfl rfl ?_)))))
   refine QN rfl rfl (by omega) (by omega) rfl ?_
   refine Qe rfl rfl (Qf ?_)
   exact QG (L1 := [(0, _), (1, _), (5, intV ((i + 1 : Nat) : Int)), (6, intV ((j + 1 : Nat) : Int))]) (Jr rfl rfl rfl rfl) (k1 := l.length - (j + 1)) (by omega) ⟨l1.set i v, i + 1, j + 1, rfl, rfl, hS11.pick [1, 0, 2] rfl, by omega, by omega, by rw [List.length_set]; exact hl1, by rw [HG hv, if_neg hvn, List.take_add_one, List.getElem?_set_self (by omega), List.take_set_of_le (by omega), ht1]; rfl, by rw [List.drop_set_of_lt (by omega)]; have := congrArg (List.drop 1) hd1; rwa [List.drop_drop, List.drop_drop] at this⟩
  have hvi : v = id := by simpa using h8
  refine Qy (Qp (Qc (Qa (Qb rfl rfl ?_))))
  refine QN rfl rfl (by omega) (by omega) rfl ?_
  refine Qe rfl rfl (Qf ?_)
  exact QG (L1 := [(0, _), (1, _), (5, _), (6, intV ((j + 1 : Nat) : Int))]) (Jr rfl rfl rfl rfl) (k1 := l.length - (j + 1)) (by omega) ⟨l1, i, j + 1, rfl, rfl, hS7.pick [1, 0, 2] rfl, by omega, by omega, hl1, by rw [HG hv, if_pos hvi, List.append_nil]; exact ht1, by have := congrArg (List.drop 1) hd1; rwa [List.drop_drop, List.drop_drop] at this⟩
 refine QZ (Qv (Qv (Q4 (Qc (Qd (Qa (Qb rfl rfl (Qb rfl rfl ?_))))))))
 refine KX i l.length Tryz.underlying47 YM rfl (KW i _ rfl rfl) (bndN _) (by omega) (by omega) rfl ?_
 rw [show YK 1 (.slice (some ⟨ob, 0, none⟩) l.length cap) i l.length = .slice (some ⟨ob, 0 + i * 1, none⟩) (l.length - i) (cap - i) from GS (by omega)]
 refine GP 0 hS4 rfl rfl rfl Tryz.underlying47 Y1 rfl (by rw [inC.cells_len]; show 0 + i * 1 + (l.length - i) * 1 ≤ l1.length * 1; omega) (xs' := inC.cells (l1.take i ++ List.replicate (l1.length - i) 0)) (by rw [← hl1]; exact S7 (by omega)) rfl ?_
 intro w12 hS12a; dsimp only [List.set] at hS12a
 have hS12 := Sat.row_cast (C := inC) (l := l1.take i ++ List.replicate (l1.length - i) 0) (hS12a.pull 0 rfl) (by rw [List.length_append, List.length_take, List.length_replicate]; omega) rfl rfl; dsimp only [List.eraseIdx] at hS12
 clear hS4
 refine Qf (Qc ?_)
 refine Qh (L' := [(0, _), (5, _)]) (H0 rfl rfl) ?_
 refine Qd (Qa (Qb rfl rfl (Qb rfl rfl ?_)))
 refine KX 0 i Tryz.underlying47 YM rfl (bndN _) (KW i _ rfl rfl) (by omega) (by omega) rfl ?_
 rw [show YK 1 (.slice (some ⟨ob, 0, none⟩) l.length cap) 0 i = .slice (some ⟨ob, 0, none⟩) i cap from GS (by omega)]
 refine Qe rfl rfl (Qf (Qc (Q0 ?_)))
 refine QV (.inr rfl) rfl rfl ?_
 have hz := (hS12.pick [0, 1, 2] rfl).row_shrink i (by rw [List.length_append, List.length_take]; omega)
 rw [List.take_append_of_le_length (by rw [List.length_take]; omega), List.take_take, Nat.min_self, ht1, List.take_of_length_le (by omega)] at hz
 exact ⟨_, rfl, hz⟩
end Go.Proofs.YtkcjfoaejijdoaaGreatDoor
/- sheets: Unref, Page, Byte -/
namespace Go.Proofs.YtkcjfoaejijdoaaGreatDoor
open Go.RowKit M
set_option linter.unusedVariables false
theorem MT {S : SS} {A : Int → Option ShE} {j : Int} (hA : A = up S.all j none) : (fun i => (A i).map fun x => (x.refs, x.pg)) = up (vw S) j none := by
  subst hA
  funext i
  by_cases q : i = j
  · subst q; rw [XF, XF]; rfl
  · rw [XN q, XN q]; rfl
/-- a sheet is gone -/
structure DelS (T : Nat) (S S' : SS) (id : Int) : Prop where
  inv : ShI UX (T + 1) S'
  f : ShF S S'
  is : vw S' = up (vw S) id none
theorem N7 {T : Nat} {S : SS} {id : Int} {x : ShE} (h : ShI UX T S) (hx : S.all id = some x) (hp : x.place = 1) : DelS T S { offFrame S x.at_ with all := up S.all id none } id := by
  have h1 := (h.offFrame (fun q => q) hx hp rfl).gone (j := id) (.inr rfl)
  refine ⟨h1.congr fun i _ => ⟨fun ⟨a, b⟩ => b (a.resolve_left fun q => q), False.elim⟩, ⟨⟨[x.at_], rfl, fun j y hy hp1 => ?_⟩, rfl, rfl, by show (S.fr.set _ _).length = _; rw [List.length_set]⟩, MT rfl⟩
  by_cases q : j = id
  · subst q; rw [hx] at hy; cases hy; exact .inl (by simp)
  · exact .inr ⟨y, by show up S.all id _ j = _; rw [XN q]; exact hy, hp1, rfl⟩
theorem ShF.del {S S' : SS} {id : Int} {x : ShE} (hx : S.all id = some x) (hp : x.place ≠ 1) (ha : S'.all = up S.all id none) (ht : S'.taken = S.taken) (hb : S'.budget = S.budget) (hs : S'.slots = S.slots) (hf : S'.fr = S.fr) : ShF S S' := by
  refine ⟨⟨[], by rw [ht]; simp, fun j y hy hp1 => .inr ⟨y, ?_, hp1, rfl⟩⟩, hb, hs, by rw [hf]⟩
  rw [ha, XN (fun q => by subst q; rw [hx] at hy; cases hy; exact hp hp1)]; exact hy
theorem Kq {T : Nat} {S : SS} {id : Int} {x : ShE} (h : ShI UX T S) (hx : S.all id = some x) (hp : x.place = 2) : ShI (one id) T { S with cache := S.cache.filter (fun n => !decide (n = id)) } :=
  (h.offCache hx hp (List.filter_sublist) (fun i => by rw [List.mem_filter]; simp)).congr fun i _ => ⟨fun q => q.resolve_left fun q => q, fun q => .inr q⟩
theorem N8 {T : Nat} {S : SS} {id : Int} {x : ShE} (h : ShI UX T S) (hx : S.all id = some x) (hp : x.place = 2) : DelS T S { S with cache := S.cache.filter (fun n => !decide (n = id)), all := up S.all id none } id := by
  have h1 := ((Kq h hx hp).gone (j := id) rfl).mono (Nat.le_add_right T 1)
  exact ⟨h1.congr fun i _ => ⟨fun ⟨a, b⟩ => b a, False.elim⟩, ShF.del hx (by omega) rfl rfl rfl rfl rfl, MT rfl⟩
theorem H9 {E : Int → Prop} {T : Nat} {S : SS} {id : Int} {x : ShE} (h : ShI E T S) (hE : ¬ E id) (hx : S.all id = some x) (hp : x.place = 3) : Ku S.sl x.at_ = true ∧ RB S.sl x.at_ = x.pg ∧ UE S.sl x.at_ = S.sl.set x.at_.toNat [] := by
  obtain ⟨h0, h1⟩ := h.slt hE hx hp
  have h64 := (h.ent hx).2.2.2.2.1
  have hne : x.pg ≠ [] := fun q => by rw [q] at h64; simp at h64
  have hb : Ku S.sl x.at_ = true := by unfold Ku; rw [h1]; simp [h0, hne]
  exact ⟨hb, by unfold RB; rw [if_pos hb, h1]; rfl, by unfold UE; rw [if_pos hb]⟩
theorem RP {T : Nat} {S : SS} {id : Int} {x : ShE} (h : ShI UX T S) (hx : S.all id = some x) (hp : x.place = 3) : ShI (one id) T { S with sl := S.sl.set x.at_.toNat [] } :=
  (h.offSlot (fun q => q) hx hp).congr fun i _ => ⟨fun q => q.resolve_left fun q => q, fun q => .inr q⟩
theorem S8 {T : Nat} {S : SS} {id : Int} {x : ShE} (h : ShI UX T S) (hx : S.all id = some x) (hp : x.place = 3) : DelS T S { S with sl := S.sl.set x.at_.toNat [], all := up S.all id none } id := by
  have h1 := ((RP h hx hp).gone (j := id) rfl).mono (Nat.le_add_right T 1)
  exact ⟨h1.congr fun i _ => ⟨fun ⟨a, b⟩ => b a, False.elim⟩, ShF.del hx (by omega) rfl rfl rfl rfl rfl, MT rfl⟩
def J7 (S : SS) (id : Int) : Bs := match S.all id with | none => if id = 0 then zer else [] | some x => x.pg
theorem eqU (c : Nat) (id : Int) : EqF Tryz.prog 154 c id := ⟨cal_154, fun n w X hS => by
  refine Qt Tryz.func154 rfl Tryz.ntmps154 rfl ?_
  refine Qd ?_
  refine Qa ?_
  refine Qe rfl rfl ?_
  refine Qf ?_
  refine Qc ?_
  refine Qd ?_
  refine Qa ?_
  refine Qb rfl rfl ?_
  refine Qu rfl QW (by exact hS.cell 0 rfl rfl) rfl ?_
  refine X2 rfl rfl rfl ?_
  refine Qe rfl rfl ?_
  refine Qf ?_
  refine Qc ?_
  refine Q0 ?_
  refine QV (.inr rfl) rfl rfl ?_
  exact ⟨_, rfl, rfl, hS⟩⟩
theorem eqB (c : Nat) (id : Int) : EqF Tryz.prog 157 c id := ⟨cal_157, fun n w X hS => by
  refine Qt Tryz.func157 rfl Tryz.ntmps157 rfl ?_
  refine Qd ?_
  refine Qa ?_
  refine Qe rfl rfl ?_
  refine Qf ?_
  refine Qc ?_
  refine Qd ?_
  refine Qa ?_
  refine Qb rfl rfl ?_
  refine Qu rfl QW (by exact hS.cell 0 rfl rfl) rfl ?_
  refine X2 rfl rfl rfl ?_
  refine Qe rfl rfl ?_
  refine Qf ?_
  refine Qc ?_
  refine Q0 ?_
  refine QV (.inr rfl) rfl rfl ?_
  exact ⟨_, rfl, rfl, hS⟩⟩
set_option maxRecDepth 100000 in
set_option maxHeartbeats 1600000 in
theorem Tf {w : World} {p : Nat} {S : SS} {F : Th} (hS : Sat w [J6 p S, F]) {N : Nat} (hI : ShI UX N S) (hN : N ≤ 800000000) (id : Int) :
    Calls Tryz.prog 104 #[ptrV p 0, intV id] w (Ret fun v w' => (match S.all id with | none => v = (if id = 0 then intV 0 else intV 4) ∧ Sat w' [J6 p S, F] | some x => v = intV 0 ∧ ((1 < x.refs ∧ Sat w' [J6 p { S with all := up S.all id (some { x with refs := x.refs - 1 }) }, F]) ∨ (x.refs = 1 ∧ ∃ S', DelS N S S' id ∧ Sat w' [J6 p S', F])))) := by
 obtain ⟨ba, bi, fp, sp, kp, ac, cc, at2, ct, hS⟩ := XO hS
 cases Zp : S.all id with
 | none =>
  dsimp only
  refine Qt Tryz.func104 rfl Tryz.ntmps104 rfl ?_
  refine Qd (Qa ?_)
  refine Zf hS rfl rfl rfl ?_
  intro b1 w1 hS1
  refine Qe rfl rfl (Qf (Qc (Qd ?_)))
  have hS2 := hS1.drew
  refine QK [0, 1, 2, 3, 4, 5, 6, 7, 8, 9, 10, 11] [9, 10] ZT (by kernel_rfl) ?_
  refine Qk rfl rfl rfl (fun _ => (Qr rfl)) ?_
  refine Qk rfl rfl rfl (fun _ => (Qq rfl)) ?_
  refine Qk rfl rfl rfl (fun _ => (Qi rfl X8)) ?_
  refine QF rfl rfl rfl (Qm rfl XS (by exact hS2.cell 1 rfl rfl)) ?_
  refine QF rfl rfl rfl (Qm rfl QW (by exact hS2.cell 0 rfl rfl)) ?_
  refine QF rfl rfl rfl (ZP (k := id) 2 hS2 keysInt Tryz.underlying108 rfl rfl rfl X5 (u := (.agg #[intV 0, intV 0, intV 0, strV []])) (g := false) (JV Zp) (JD Zp)) ?_
  refine Qk rfl rfl rfl (fun _ => (Qr rfl)) ?_
  refine Qk rfl rfl rfl (fun _ => (QJ rfl rfl)) ?_
  refine Qk rfl rfl rfl (fun _ => (QJ rfl rfl)) ?_
  refine Xn rfl rfl rfl rfl rfl rfl ?_
  refine Xl hS2 X5 rfl rfl ?_
  intro b3 w3 hS3
  clear hS2
  refine XJ (.cons (.inl ⟨rfl, (ZP (k := id) 3 hS3 keysInt Tryz.underlying108 rfl rfl rfl X5 (u := (.agg #[intV 0, intV 0, intV 0, strV []])) (g := false) (JV Zp) (JD Zp))⟩) (.cons (.inl ⟨rfl, (Qm rfl QW (by exact hS3.cell 1 rfl rfl))⟩) (.cons (.inl ⟨rfl, (Qm rfl XS (by exact hS3.cell 2 rfl rfl))⟩) .nil))) ?_
  refine Xn rfl rfl rfl rfl rfl rfl ?_
  (refine Xa hS3 rfl rfl WV rfl (by rfl) (i := 0) rfl (by decide) ?_)
  intro w4 hS5; dsimp only [List.set] at hS5
  clear hS3
  refine Zi (.skip (by kernel_rfl) (.skip (by kernel_rfl) (.skip (by kernel_rfl) .nil))) ?_
  refine Qk rfl rfl rfl (fun _ => (Q6 rfl)) ?_
  refine VC.nil (Qc ?_)
  refine Qh (L' := [(6, _), (5, _), (4, _), (3, _), (0, _)]) (ZH rfl rfl rfl rfl rfl) ?_
  refine Qd (Qd (Qa (Qb rfl rfl ?_)))
  refine QS rfl rfl ?_
  refine Qf (Qc ?_)
  refine QR rfl (fun h6 => ?_) (fun h6 => ?_)
  ·refine Qd (Qd (Qa ?_))
   refine Qu rfl QW (by exact hS5.cell 1 rfl rfl) rfl ?_
   refine X2 rfl rfl rfl ?_
   refine Qf (Qc ?_)
   refine Qx rfl (fun h7 => ?_) (fun h7 => ?_)
   ·refine Qd (Qa (Qe rfl rfl (Qf (Qc (Q0 (Qs (Qs ?_)))))))
    refine QV (.inr rfl) rfl rfl ?_
    exact ⟨_, rfl, by rw [if_pos (by omega)], QP (hS5.pick [2, 3, 4, 5, 6, 7, 8, 9, 10] rfl)⟩
   refine Qy (Qc (Qd (Qa (Qe rfl rfl (Qf (Qc (Q0 (Qs ?_))))))))
   refine QV (.inr rfl) rfl rfl ?_
   exact ⟨_, rfl, by rw [if_neg (by omega)], QP (hS5.pick [2, 3, 4, 5, 6, 7, 8, 9, 10] rfl)⟩
  exact absurd h6 (by simp)
 | some x =>
  obtain ⟨hid1, _, hr1, hr2, _, hplc⟩ := hI.ent Zp
  dsimp only
  refine Qt Tryz.func104 rfl Tryz.ntmps104 rfl ?_
  refine Qd (Qa ?_)
  refine Zf hS rfl rfl rfl ?_
  intro b1 w1 hS1
  refine Qe rfl rfl (Qf (Qc (Qd ?_)))
  have hS2 := hS1.drew
  refine QK [0, 1, 2, 3, 4, 5, 6, 7, 8, 9, 10, 11] [9, 10] ZT (by kernel_rfl) ?_
  refine Qk rfl rfl rfl (fun _ => (Qr rfl)) ?_
  refine Qk rfl rfl rfl (fun _ => (Qq rfl)) ?_
  refine Qk rfl rfl rfl (fun _ => (Qi rfl X8)) ?_
  refine QF rfl rfl rfl (Qm rfl XS (by exact hS2.cell 1 rfl rfl)) ?_
  refine QF rfl rfl rfl (Qm rfl QW (by exact hS2.cell 0 rfl rfl)) ?_
  refine QF rfl rfl rfl (ZP (k := id) 2 hS2 keysInt Tryz.underlying108 rfl rfl rfl X5 (u := (.agg #[intV x.refs, intV x.place, intV x.at_, strV (UQ x)])) (g := true) (W3 Zp) (JC Zp)) ?_
  refine Qk rfl rfl rfl (fun _ => (Qr rfl)) ?_
  refine Qk rfl rfl rfl (fun _ => (QJ rfl rfl)) ?_
  refine Qk rfl rfl rfl (fun _ => (QJ rfl rfl)) ?_
  refine Xn rfl rfl rfl rfl rfl rfl ?_
  refine Xl hS2 X5 rfl rfl ?_
  intro b3 w3 hS3
  clear hS2
  refine XJ (.cons (.inl ⟨rfl, (ZP (k := id) 3 hS3 keysInt Tryz.underlying108 rfl rfl rfl X5 (u := (.agg #[intV x.refs, intV x.place, intV x.at_, strV (UQ x)])) (g := true) (W3 Zp) (JC Zp))⟩) (.cons (.inl ⟨rfl, (Qm rfl QW (by exact hS3.cell 1 rfl rfl))⟩) (.cons (.inl ⟨rfl, (Qm rfl XS (by exact hS3.cell 2 rfl rfl))⟩) .nil))) ?_
  refine Xn rfl rfl rfl rfl rfl rfl ?_
  (refine Xa hS3 rfl rfl WV rfl (by rfl) (i := 0) rfl (by decide) ?_)
  intro w4 hS5; dsimp only [List.set] at hS5
  clear hS3
  refine Zi (.skip (by kernel_rfl) (.skip (by kernel_rfl) (.skip (by kernel_rfl) .nil))) ?_
  refine Qk rfl rfl rfl (fun _ => (Q6 rfl)) ?_
  refine VC.nil (Qc ?_)
  refine Qh (L' := [(6, _), (5, _), (4, _), (3, _), (0, _)]) (ZH rfl rfl rfl rfl rfl) ?_
  refine Qd (Qd (Qa (Qb rfl rfl ?_)))
  refine QS rfl rfl ?_
  refine Qf (Qc ?_)
  refine QR rfl (fun h6 => ?_) (fun h6 => ?_)
  ·exact absurd h6 (by simp)
  refine Qy (Qc (Qd (Qd (Qa ?_))))
  refine Qg rfl W7 rfl ?_
  refine Qu rfl QW (by exact hS5.cell 0 rfl rfl) rfl ?_
  refine UZ rfl rfl (by omega) (by omega) rfl ?_
  refine Qg rfl W7 rfl ?_
  (refine Xb hS5 rfl rfl YM (by rfl) (i := 0) rfl (by exact Nat.le_of_ble_eq_true rfl) ?_)
  intro w7 hS8; dsimp only [List.set] at hS8
  clear hS5
  refine Qf (Qc ?_)
  refine Qh (L' := [(5, _), (4, _), (3, _), (0, _)]) (Jr rfl rfl rfl rfl) ?_
  refine Qd (Qa ?_)
  refine Qg rfl W7 rfl ?_
  refine Qu rfl QW (by exact hS8.cell 0 rfl rfl) rfl ?_
  refine UA rfl rfl rfl ?_
  refine Qf (Qc ?_)
  refine Qx rfl (fun h9 => ?_) (fun h9 => ?_)
  ·refine Qd ?_
   have hS10 := hS8.drew
   refine QK [0, 1, 2, 3, 4, 5, 6] [6] ZT (by kernel_rfl) ?_
   refine Qk rfl rfl rfl (fun _ => (Qr rfl)) ?_
   refine Qk rfl rfl rfl (fun _ => (Qq rfl)) ?_
   refine Qk rfl rfl rfl (fun _ => (Qi rfl X8)) ?_
   refine QF rfl rfl rfl (Qm rfl XS (by exact hS10.cell 2 rfl rfl)) ?_
   refine QF rfl rfl rfl (Qm rfl QW (by exact hS10.cell 1 rfl rfl)) ?_
   refine QF rfl rfl rfl (X9 rfl Fc WV (by exact hS10.blk 0 rfl) (by exact Nat.le_of_ble_eq_true rfl) rfl) ?_
   refine Xn rfl rfl rfl rfl rfl rfl ?_
   refine X1 (k := id) (v := TM { x with refs := x.refs - 1 }) 3 hS10 keysInt Tryz.underlying108 rfl rfl rfl rfl ?_
   intro w11 hS11a; dsimp only [List.set] at hS11a; have hS11 := hS11a; rw [U8] at hS11
   clear hS10
   refine Zi (.skip (by kernel_rfl) (.skip (by kernel_rfl) (.skip (by kernel_rfl) .nil))) ?_
   refine VC.nil (Qc ?_)
   refine Qh (L' := [(5, _), (4, _), (3, _), (0, _)]) (Jr rfl rfl rfl rfl) ?_
   refine Qd (Qa (Qe rfl rfl (Qf (Qc (Q0 (Qs ?_))))))
   refine QV (.inr rfl) rfl rfl ?_
   exact ⟨_, rfl, rfl, .inl ⟨by omega, QP (S := { S with all := up S.all id (some { x with refs := x.refs - 1 }) }) (hS11.pick [2, 3, 4, 5, 6, 7, 8, 9, 10] rfl)⟩⟩
  refine Qy (Qc (Qd (Qd (Qa ?_))))
  refine Qg rfl J9 rfl ?_
  refine Qu rfl QW (by exact hS8.cell 0 rfl rfl) rfl ?_
  refine Qf (Qc (Q1 (Qd (Qa ?_))))
  refine X2 rfl rfl rfl ?_
  refine Qe rfl rfl (Qf (Qc ?_))
  refine Qh (L' := [(35, _), (34, _), (5, _), (4, _), (3, _), (0, _)]) (Wf rfl rfl rfl rfl rfl rfl) ?_
  refine Qx rfl (fun h12 => ?_) (fun h12 => ?_)
  ·have hp1 : x.place = 1 := h12
   refine Qa (Qb rfl rfl ?_)
   refine Qg rfl Jo rfl ?_
   refine Qu rfl QW (by exact hS8.cell 0 rfl rfl) rfl ?_
   have hS13 := QP (hS8.pick [2, 3, 4, 5, 6, 7, 8, 9, 0, 1, 10] rfl)
   have hC14 := hS13.split [0] [true, false, false, false] rfl; dsimp only [QC, Qz, Q9, Q8, Q7] at hC14
   refine Qo Do rfl (Kl hC14 (f := x.at_) (b0 := x.pg) (hI.frc (fun q => q) Zp hp1) (by show S.ck.length = S.fr.length; rw [hI.ck, List.length_map]) (by have := hI.tln; omega)) rfl ?_
   rintro e w14 ⟨_, rfl, rfl, hS14⟩; refine ⟨_, rfl, ?_⟩
   replace hS14 := hS14.join rfl; dsimp only [QU, QT, Q8, Q7] at hS14; clear hC14
   clear hS13
   obtain ⟨ba, bi, fp, sp, kp, ac, cc, at2, ct, hSo15⟩ := XO (hS14.pick [0, 1, 2, 3] rfl)
   refine Qf (Qp (Qc (Qd ?_)))
   have hS16 := hSo15.drew
   refine QK [0, 1, 2, 3, 4, 5] [5] ZT (by kernel_rfl) ?_
   refine Qk rfl rfl rfl (fun _ => (Qr rfl)) ?_
   refine Qk rfl rfl rfl (fun _ => (Qq rfl)) ?_
   refine Qk rfl rfl rfl (fun _ => (Qi rfl X8)) ?_
   refine QF rfl rfl rfl (Qm rfl XS (by exact hS16.cell 0 rfl rfl)) ?_
   refine QF rfl rfl rfl (Qm rfl QW (by exact hS16.cell 9 rfl rfl)) ?_
   refine Xn rfl rfl rfl rfl rfl rfl ?_
   refine JX (k := id) 1 hS16 keysInt Tryz.underlying108 rfl rfl rfl rfl ?_
   intro w17 hS17; dsimp only [List.set] at hS17; rw [TF] at hS17
   clear hS16
   refine Zi (.skip (by kernel_rfl) (.skip (by kernel_rfl) .nil)) ?_
   refine VC.nil (Qc ?_)
   refine Qh (L' := [(4, _)]) (Hd rfl) ?_
   refine Qd (Qa (Qe rfl rfl (Qf (Qc (Q0 ?_)))))
   refine QV (.inr rfl) rfl rfl ?_
   exact ⟨_, rfl, rfl, .inr ⟨by omega, _, N7 hI Zp hp1, QP (S := { offFrame S x.at_ with all := up S.all id none }) (hS17.pick [0, 1, 2, 3, 4, 5, 6, 7, 10] rfl)⟩⟩
  refine Qd (Qa ?_)
  refine X2 rfl rfl rfl ?_
  refine Qe rfl rfl (Qf (Qc ?_))
  refine Qx rfl (fun h18 => ?_) (fun h18 => ?_)
  ·have hp2 : x.place = 2 := h18
   refine Qa (Qb rfl rfl (Qb rfl rfl (Qj rfl rfl ?_)))
   refine Qg rfl ZO rfl ?_
   refine Qu rfl Y0 (by exact hS8.cell 2 rfl rfl) rfl ?_
   have hC19 := hS8.split [] [false, false, false, false, false, false, false, false, false, false, false] rfl; dsimp only [QC, Qz, Q9, Q8, Q7] at hC19
   refine Qo Df rfl (Ur hC19 (Ent.starL (Hr (C := inC) (l := S.cache) (by have := hI.cln; omega)) 5 rfl) (by have := hI.cln; omega)) rfl ?_
   rintro e w19 ⟨_, rfl, hS19⟩; refine ⟨_, rfl, ?_⟩
   replace hS19 := hS19.join rfl; dsimp only [QU, QT, Q8, Q7] at hS19; clear hC19
   clear hS8
   have h1n := hS19.own_one 0 rfl
   refine ZL rfl rfl ?_
   have hC20 := hS19.split [0, 2] [true, false, true, false, false, false, false, false, false, false, false, false] rfl; dsimp only [QC, Qz, Q9, Q8, Q7] at hC20
   refine Qo Dn rfl (Db (eqU _ id) hC20 (by have := hI.cln; omega)) rfl ?_
   rintro e w20 ⟨_, rfl, hS20⟩; refine ⟨_, rfl, ?_⟩
   replace hS20 := hS20.join rfl; dsimp only [QU, QT, Q8, Q7] at hS20; clear hC20
   clear hS19
   have h1d := hS20.own_one 0 rfl
   refine Qj rfl rfl ?_
   refine Qg rfl ZO rfl ?_
   (refine Xb hS20 rfl rfl K9 (by assumption) (i := 3) rfl (by exact Nat.le_of_ble_eq_true rfl) ?_)
   intro w21 hS22; dsimp only [List.set] at hS22
   clear hS20
   refine Qf (Qp (Qc ?_))
   refine Qh (L' := [(4, _), (3, _), (0, _)]) (Y2 rfl rfl rfl) ?_
   refine Qd ?_
   have hS23 := hS22.drew
   refine QK [0, 1, 2, 3, 4, 5] [5] ZT (by kernel_rfl) ?_
   refine Qk rfl rfl rfl (fun _ => (Qr rfl)) ?_
   refine Qk rfl rfl rfl (fun _ => (Qq rfl)) ?_
   refine Qk rfl rfl rfl (fun _ => (Qi rfl X8)) ?_
   refine QF rfl rfl rfl (Qm rfl XS (by exact hS23.cell 3 rfl rfl)) ?_
   refine QF rfl rfl rfl (Qm rfl QW (by exact hS23.cell 1 rfl rfl)) ?_
   refine Xn rfl rfl rfl rfl rfl rfl ?_
   refine JX (k := id) 4 hS23 keysInt Tryz.underlying108 rfl rfl rfl rfl ?_
   intro w24 hS24; dsimp only [List.set] at hS24; rw [TF] at hS24
   clear hS23
   refine Zi (.skip (by kernel_rfl) (.skip (by kernel_rfl) .nil)) ?_
   refine VC.nil (Qc (Qd (Qa (Qe rfl rfl (Qf (Qc (Q0 ?_)))))))
   refine QV (.inr rfl) rfl rfl ?_
   exact ⟨_, rfl, rfl, .inr ⟨by omega, _, N8 hI Zp hp2, QP (S := { S with cache := S.cache.filter (fun n => !decide (n = id)), all := up S.all id none }) (hS24.pick [3, 4, 5, 0, 7, 8, 9, 10, 11] rfl)⟩⟩
  refine Qd (Qa ?_)
  refine X2 rfl rfl rfl ?_
  refine Qe rfl rfl (Qf (Qc ?_))
  refine Qx rfl (fun h25 => ?_) (fun h25 => ?_)
  ·have hp3 : x.place = 3 := h25
   have hS26 := hS8.drew
   refine QK [0, 1, 2, 3, 4, 5, 6] [6] ZT (by kernel_rfl) ?_
   refine Qk rfl rfl rfl (fun _ => (Qr rfl)) ?_
   refine Qk rfl rfl rfl (fun _ => (Qq rfl)) ?_
   refine Qk rfl rfl rfl (fun _ => (Qi rfl JA)) ?_
   refine QF rfl rfl rfl (Qm rfl HP (by exact hS26.cell 2 rfl rfl)) ?_
   refine Qk rfl rfl rfl (fun _ => (Qi rfl Jo)) ?_
   refine QF rfl rfl rfl (Qm rfl QW (by exact hS26.cell 0 rfl rfl)) ?_
   refine Xn rfl rfl rfl rfl rfl rfl ?_
   have hC27 := hS26.split [7] [false, false, false, false, false, false, false, true, false, false, false] rfl; dsimp only [QC, Qz, Q9, Q8, Q7] at hC27
   refine Qo Dm rfl (Kj hC27 x.at_) rfl ?_
   rintro e w27 ⟨_, rfl, rfl, hS27⟩; refine ⟨_, rfl, ?_⟩
   replace hS27 := hS27.join rfl; dsimp only [QU, QT, Q8, Q7] at hS27; clear hC27
   clear hS26
   rw [(H9 hI (fun q => q) Zp hp3).2.2] at hS27
   refine XJ (.skip (by kernel_rfl) (.skip (by kernel_rfl) .nil)) ?_
   refine VC.nil (Qp (Qc ?_))
   refine Qh (L' := [(4, _), (3, _), (0, _)]) (Y2 rfl rfl rfl) ?_
   refine Qd ?_
   have hS28 := hS27.drew
   refine QK [0, 1, 2, 3, 4, 5] [5] ZT (by kernel_rfl) ?_
   refine Qk rfl rfl rfl (fun _ => (Qr rfl)) ?_
   refine Qk rfl rfl rfl (fun _ => (Qq rfl)) ?_
   refine Qk rfl rfl rfl (fun _ => (Qi rfl X8)) ?_
   refine QF rfl rfl rfl (Qm rfl XS (by exact hS28.cell 3 rfl rfl)) ?_
   refine QF rfl rfl rfl (Qm rfl QW (by exact hS28.cell 2 rfl rfl)) ?_
   refine Xn rfl rfl rfl rfl rfl rfl ?_
   refine JX (k := id) 4 hS28 keysInt Tryz.underlying108 rfl rfl rfl rfl ?_
   intro w29 hS29; dsimp only [List.set] at hS29; rw [TF] at hS29
   clear hS28
   refine Zi (.skip (by kernel_rfl) (.skip (by kernel_rfl) .nil)) ?_
   refine VC.nil (Qc (Qd (Qa (Qe rfl rfl (Qf (Qc (Q0 ?_)))))))
   refine QV (.inr rfl) rfl rfl ?_
   exact ⟨_, rfl, rfl, .inr ⟨by omega, _, S8 hI Zp hp3, QP (S := { S with sl := S.sl.set x.at_.toNat [], all := up S.all id none }) (hS29.pick [3, 4, 5, 6, 7, 0, 8, 9, 10] rfl)⟩⟩
  exact absurd hplc (by omega)
set_option maxRecDepth 100000 in
set_option maxHeartbeats 1600000 in
theorem Bb {w : World} {p : Nat} {S : SS} {F : Th} (hS : Sat w [J6 p S, F]) {E : Int → Prop} {N : Nat} (hI : ShI E N S) (id : Int) (hE : ¬ E id) :
    Calls Tryz.prog 34 #[ptrV p 0, intV id] w (Ret fun v w' => v = strV (J7 S id) ∧ Sat w' [J6 p S, F]) := by
 obtain ⟨ba, bi, fp, sp, kp, ac, cc, at2, ct, hS⟩ := XO hS
 cases Zp : S.all id with
 | none =>
  refine Qt Tryz.func34 rfl Tryz.ntmps34 rfl ?_
  refine Qd (Qa (Qe rfl rfl (Qf (Qc (Qd (Qa (Qb rfl rfl (Qj rfl rfl ?_))))))))
  refine Qg rfl X8 rfl ?_
  refine Qu rfl XS (by exact hS.cell 0 rfl rfl) rfl ?_
  refine Qb rfl rfl ?_
  refine ZB (k := id) 1 hS keysInt Tryz.underlying108 rfl rfl rfl X5 (u := (.agg #[intV 0, intV 0, intV 0, strV []])) (g := false) (JV Zp) (JD Zp) rfl ?_
  refine Qb rfl rfl (Qw rfl rfl rfl (Qw rfl rfl rfl ?_))
  refine Xl hS X5 rfl rfl ?_
  intro b1 w1 hS1
  (refine Xa hS1 rfl rfl WV rfl (by rfl) (i := 0) rfl (by decide) ?_)
  intro w2 hS3; dsimp only [List.set] at hS3
  clear hS1
  refine Qe rfl rfl (Qf (Qc ?_))
  refine Qh (L' := [(6, _), (5, _), (4, _), (0, _), (1, _)]) (ZH rfl rfl rfl rfl rfl) ?_
  refine Qd (Q1 (Qd (Qa (Qb rfl rfl ?_))))
  refine X2 rfl rfl rfl ?_
  refine Qe rfl rfl (Qf (Qc ?_))
  refine Qx rfl (fun h4 => ?_) (fun h4 => ?_)
  ·refine Qd (Qa ?_)
   have hC5 := hS3.split [] [false, false, false, false, false, false, false, false, false, false] rfl; dsimp only [QC, Qz, Q9, Q8, Q7] at hC5
   refine Qo SJ rfl (M5 hC5 zer (by decide)) rfl ?_
   rintro e w5 ⟨_, rfl, rfl, hS5⟩; refine ⟨_, rfl, ?_⟩
   replace hS5 := hS5.join rfl; dsimp only [QU, QT, Q8, Q7] at hS5; clear hC5
   clear hS3
   refine Qe rfl rfl (Qf (Qc (Q0 (QE (Qs ?_)))))
   refine QV (.inr rfl) rfl rfl ?_
   exact ⟨_, rfl, by unfold J7; rw [Zp]; dsimp only; rw [if_pos (by omega)], QP (hS5.pick [1, 2, 3, 4, 5, 6, 7, 8, 9] rfl)⟩
  refine Qd (Qa (Qb rfl rfl ?_))
  refine QS rfl rfl ?_
  refine Qe rfl rfl (Qf (Qc ?_))
  refine Qh (L' := [(24, _), (5, _), (4, _), (0, _)]) (Jr rfl rfl rfl rfl) ?_
  refine QR rfl (fun h6 => ?_) (fun h6 => ?_)
  ·refine Qd (Qa (Qe rfl rfl (Qf (Qc (Q0 (QE (Qs ?_)))))))
   refine QV (.inr rfl) rfl rfl ?_
   exact ⟨_, rfl, by unfold J7; rw [Zp]; dsimp only; rw [if_neg (by omega)], QP (hS3.pick [1, 2, 3, 4, 5, 6, 7, 8, 9] rfl)⟩
  exact absurd h6 (by simp)
 | some x =>
  obtain ⟨hid1, _, hr1, hr2, _, hplc⟩ := hI.ent Zp
  refine Qt Tryz.func34 rfl Tryz.ntmps34 rfl ?_
  refine Qd (Qa (Qe rfl rfl (Qf (Qc (Qd (Qa (Qb rfl rfl (Qj rfl rfl ?_))))))))
  refine Qg rfl X8 rfl ?_
  refine Qu rfl XS (by exact hS.cell 0 rfl rfl) rfl ?_
  refine Qb rfl rfl ?_
  refine ZB (k := id) 1 hS keysInt Tryz.underlying108 rfl rfl rfl X5 (u := (.agg #[intV x.refs, intV x.place, intV x.at_, strV (UQ x)])) (g := true) (W3 Zp) (JC Zp) rfl ?_
  refine Qb rfl rfl (Qw rfl rfl rfl (Qw rfl rfl rfl ?_))
  refine Xl hS X5 rfl rfl ?_
  intro b1 w1 hS1
  (refine Xa hS1 rfl rfl WV rfl (by rfl) (i := 0) rfl (by decide) ?_)
  intro w2 hS3; dsimp only [List.set] at hS3
  clear hS1
  refine Qe rfl rfl (Qf (Qc ?_))
  refine Qh (L' := [(6, _), (5, _), (4, _), (0, _), (1, _)]) (ZH rfl rfl rfl rfl rfl) ?_
  refine Qd (Q1 (Qd (Qa (Qb rfl rfl ?_))))
  refine X2 rfl rfl rfl ?_
  refine Qe rfl rfl (Qf (Qc ?_))
  refine Qx rfl (fun h4 => ?_) (fun h4 => ?_)
  ·exact absurd h4 (by omega)
  refine Qd (Qa (Qb rfl rfl ?_))
  refine QS rfl rfl ?_
  refine Qe rfl rfl (Qf (Qc ?_))
  refine Qh (L' := [(24, _), (5, _), (4, _), (0, _)]) (Jr rfl rfl rfl rfl) ?_
  refine QR rfl (fun h5 => ?_) (fun h5 => ?_)
  ·exact absurd h5 (by simp)
  refine Qd (Qa ?_)
  refine Qg rfl J9 rfl ?_
  refine Qu rfl QW (by exact hS3.cell 0 rfl rfl) rfl ?_
  refine X2 rfl rfl rfl ?_
  refine Qe rfl rfl (Qf (Qc ?_))
  refine Qx rfl (fun h6 => ?_) (fun h6 => ?_)
  ·have hp1 : x.place = 1 := h6
   refine Qd ?_
   have hS7 := hS3.drew
   refine QK [0, 1, 2, 3, 4, 5, 6, 7] [6] ZT (by kernel_rfl) ?_
   refine Qk rfl rfl rfl (fun _ => (Qr rfl)) ?_
   refine Qk rfl rfl rfl (fun _ => (Qq rfl)) ?_
   refine Qk rfl rfl rfl (fun _ => (Qi rfl Wb)) ?_
   refine QF rfl rfl rfl (Qm rfl J0 (by exact hS7.cell 1 rfl rfl)) ?_
   refine Qk rfl rfl rfl (fun _ => (Qi rfl Jo)) ?_
   refine QF rfl rfl rfl (Qm rfl QW (by exact hS7.cell 0 rfl rfl)) ?_
   refine Xn rfl rfl rfl rfl rfl rfl ?_
   have hC8 := hS7.split [5] [false, false, false, false, false, true, false, false, false, false] rfl; dsimp only [QC, Qz, Q9, Q8, Q7] at hC8
   refine Qo T8 rfl (Kv hC8 x.at_) rfl ?_
   rintro e w8 ⟨_, rfl, rfl, hS8⟩; refine ⟨_, rfl, ?_⟩
   replace hS8 := hS8.join rfl; dsimp only [QU, QT, Q8, Q7] at hS8; clear hC8
   clear hS7
   rw [hI.frc hE Zp hp1]
   dsimp only [Option.getD_some]
   refine XJ (.skip (by kernel_rfl) (.skip (by kernel_rfl) .nil)) ?_
   refine Qk rfl rfl rfl (fun _ => (Q6 rfl)) ?_
   refine VC.nil (Qc ?_)
   refine Qh (L' := [(4, _), (5, _), (0, _)]) (Y2 rfl rfl rfl) ?_
   refine Q0 (QE (Qs ?_))
   refine QV (.inr rfl) rfl rfl ?_
   exact ⟨_, rfl, by unfold J7; rw [Zp], QP (hS8.pick [2, 3, 4, 5, 0, 6, 7, 8, 9] rfl)⟩
  refine Qd (Qa ?_)
  refine Qg rfl J9 rfl ?_
  refine Qu rfl QW (by exact hS3.cell 0 rfl rfl) rfl ?_
  refine X2 rfl rfl rfl ?_
  refine Qe rfl rfl (Qf (Qc ?_))
  refine Qh (L' := [(38, _), (5, _), (4, _), (0, _)]) (Jr rfl rfl rfl rfl) ?_
  refine Qx rfl (fun h9 => ?_) (fun h9 => ?_)
  ·have hp2 : x.place = 2 := h9
   refine Qd (Qa ?_)
   refine Qg rfl Gd rfl ?_
   refine Qu rfl Yz (by exact hS3.cell 0 rfl rfl) rfl ?_
   obtain ⟨fy, hfy⟩ := Option.ne_none_iff_exists'.1 (hI.pck hE Zp hp2).2
   have hfme : UQ x = fy := by unfold UQ fm; rw [if_pos hp2, hfy]; rfl
   have hC10 := hS3.split [] [false, false, false, false, false, false, false, false, false, false] rfl; dsimp only [QC, Qz, Q9, Q8, Q7] at hC10
   refine Qo T7 rfl (Kh hC10 (hI.ent Zp).2.2.2.2.1 (by rw [hfme]; exact hfy)) rfl ?_
   rintro e w10 ⟨_, rfl, rfl, hS10⟩; refine ⟨_, rfl, ?_⟩
   replace hS10 := hS10.join rfl; dsimp only [QU, QT, Q8, Q7] at hS10; clear hC10
   clear hS3
   refine Qb rfl rfl (Qw rfl rfl rfl (Qw rfl rfl rfl (Qe rfl rfl (Qe rfl rfl (Qf (Qc ?_))))))
   refine Qh (L' := [(7, _), (5, _), (4, _), (0, _)]) (Jr rfl rfl rfl rfl) ?_
   refine Qd (Qa (Qb rfl rfl (Qe rfl rfl (Qf (Qc (Q0 (QE (Qs ?_))))))))
   refine QV (.inr rfl) rfl rfl ?_
   exact ⟨_, rfl, by unfold J7; rw [Zp], QP (hS10.pick [1, 2, 3, 4, 5, 6, 7, 8, 9] rfl)⟩
  refine Qy (Qp (Qc (Qd ?_)))
  have hp3 : x.place = 3 := by omega
  have hS11 := hS3.drew
  refine QK [0, 1, 2, 3, 4, 5, 6, 7, 8, 9, 10, 11] [6] ZT (by kernel_rfl) ?_
  refine Qk rfl rfl rfl (fun _ => (Qr rfl)) ?_
  refine Qk rfl rfl rfl (fun _ => (Qq rfl)) ?_
  refine Qk rfl rfl rfl (fun _ => (Qi rfl JA)) ?_
  refine QF rfl rfl rfl (Qm rfl HP (by exact hS11.cell 1 rfl rfl)) ?_
  refine Qk rfl rfl rfl (fun _ => (Qi rfl Jo)) ?_
  refine QF rfl rfl rfl (Qm rfl QW (by exact hS11.cell 0 rfl rfl)) ?_
  refine Xn rfl rfl rfl rfl rfl rfl ?_
  have hC12 := hS11.split [6] [false, false, false, false, false, false, true, false, false, false] rfl; dsimp only [QC, Qz, Q9, Q8, Q7] at hC12
  refine Qo SI rfl (DC hC12 x.at_) rfl ?_
  rintro e w12 ⟨_, rfl, eg, rfl, hS12⟩; refine ⟨_, rfl, ?_⟩
  replace hS12 := hS12.join rfl; dsimp only [QU, QT, Q8, Q7] at hS12; clear hC12
  clear hS11
  rw [(H9 hI hE Zp hp3).2.1]
  refine XJ (.skip (by kernel_rfl) (.skip (by kernel_rfl) .nil)) ?_
  refine Qk rfl rfl rfl (fun _ => (Qr rfl)) ?_
  refine Qk rfl rfl rfl (fun _ => (QJ rfl rfl)) ?_
  refine Qk rfl rfl rfl (fun _ => (QJ rfl rfl)) ?_
  refine Qk rfl rfl rfl (fun _ => (Q6 rfl)) ?_
  refine Qk rfl rfl rfl (fun _ => (Q6 rfl)) ?_
  refine VC.nil (Qc ?_)
  refine Qh (L' := [(9, _), (4, _)]) (H0 rfl rfl) ?_
  refine Qd (Qa (Qb rfl rfl (Qe rfl rfl (Qf (Qc (Q0 ?_))))))
  refine QV (.inr rfl) rfl rfl ?_
  exact ⟨_, rfl, by unfold J7; rw [Zp], QP (hS12.pick [2, 3, 4, 5, 6, 0, 7, 8, 9] rfl)⟩
def CU (S : SS) (id at_ : Int) : UInt8 := if 0 ≤ at_ ∧ at_ < 64 then (J7 S id).getD at_.toNat 0 else 0
theorem PI {E : Int → Prop} {N : Nat} {S : SS} (hI : ShI E N S) (id : Int) : (J7 S id).length = 64 ∨ J7 S id = [] := by
  unfold J7
  cases Zp : S.all id with
  | none => dsimp only; split; (left; decide); right; rfl
  | some x => exact .inl (hI.ent Zp).2.2.2.2.1
theorem CT {w : World} {p : Nat} {S : SS} {F : Th} (hS : Sat w [J6 p S, F]) {N : Nat} (hI : ShI UX N S) (hN : N ≤ 800000000) (id at_ : Int) :
    Calls Tryz.prog 47 #[ptrV p 0, intV id, intV at_] w (Ret fun v w' => v = WA (CU S id at_) ∧ Sat w' [J6 p S, F]) := by
 refine Qt Tryz.func47 rfl Tryz.ntmps47 rfl ?_
 refine Qd (Qa (Qe rfl rfl (Qf (Qc (Qd (Qd (Qa (Qb rfl rfl ?_))))))))
 refine Xt rfl rfl rfl ?_
 refine Qb rfl rfl ?_
 refine Xk 10 rfl (fun h1 => ?_) (fun h1 => ?_)
 ·refine Ql rfl rfl (decide_eq_true h1) rfl ?_
  refine Ql rfl rfl (decide_eq_true h1) rfl ?_
  refine Xg rfl (decide_eq_true h1) rfl rfl ?_
  refine Qf (Qc ?_)
  refine XP rfl ?_
  refine Qd (Qa (Qe rfl rfl (Qf (Qc (Q0 (Qs ?_))))))
  refine QV (.inr rfl) rfl rfl ?_
  exact ⟨_, rfl, by unfold CU; rw [if_neg (by omega)]; rfl, hS.pick [0, 1] rfl⟩
 refine Qn rfl rfl (decide_eq_false h1) ?_
 refine Qb rfl rfl ?_
 refine Qn rfl rfl (decide_eq_false h1) ?_
 refine JE rfl rfl rfl ?_
 refine QX rfl (decide_eq_false h1) rfl rfl ?_
 refine Qf (Qc ?_)
 refine Qx rfl (fun h2 => ?_) (fun h2 => ?_)
 ·refine Qd (Qa (Qe rfl rfl (Qf (Qc (Q0 (Qs ?_))))))
  refine QV (.inr rfl) rfl rfl ?_
  exact ⟨_, rfl, by unfold CU; rw [if_neg (by omega)]; rfl, hS.pick [0, 1] rfl⟩
 refine Qy (Qc (Qd (Qd (Qa (Qb rfl rfl (Qb rfl rfl ?_))))))
 have hC3 := hS.split [0] [true, false] rfl; dsimp only [QC, Qz, Q9, Q8, Q7] at hC3
 refine Qo Jz rfl (Bb hC3 hI id (fun q => q)) rfl ?_
 rintro e w3 ⟨_, rfl, rfl, hS3⟩; refine ⟨_, rfl, ?_⟩
 replace hS3 := hS3.join rfl; dsimp only [QU, QT, Q8, Q7] at hS3; clear hC3
 refine Qe rfl rfl (Qf (Qc ?_))
 refine Qh (L' := [(7, _), (6, _), (2, _)]) (Y2 rfl rfl rfl) ?_
 refine Qd (Qa (Qb rfl rfl ?_))
 refine B9 rfl rfl rfl ?_
 refine Qf (Qc ?_)
 refine Qx rfl (fun h4 => ?_) (fun h4 => ?_)
 ·have hpn : J7 S id ≠ [] := h4
  obtain ⟨cb, hcb⟩ : ∃ c, (J7 S id)[at_.toNat]? = some c := ⟨_, List.getElem?_eq_getElem (by have := (PI hI id).resolve_right hpn; omega)⟩
  refine Qd (Qa (Qb rfl rfl (Qb rfl rfl ?_)))
  refine ZW at_.toNat Tryz.underlying9 rfl rfl (by omega) hcb rfl ?_
  refine Qe rfl rfl (Qf (Qc (Q0 (Qs ?_))))
  refine QV (.inr rfl) rfl rfl ?_
  exact ⟨_, rfl, by unfold CU; rw [if_pos (by omega), List.getD_eq_getElem?_getD, hcb]; rfl, hS3.pick [0, 1] rfl⟩
 have hpn : ¬ J7 S id ≠ [] := h4
 refine Qy (Qc (Qd (Qa (Qe rfl rfl (Qf (Qc (Q0 ?_)))))))
 refine QV (.inr rfl) rfl rfl ?_
 exact ⟨_, rfl, by unfold CU; rw [if_pos (by omega), show J7 S id = [] from Decidable.not_not.1 hpn]; rfl, hS3.pick [0, 1] rfl⟩
end Go.Proofs.YtkcjfoaejijdoaaGreatDoor
/- sheets: New, Copy -/
namespace Go.Proofs.YtkcjfoaejijdoaaGreatDoor
open Go.RowKit M
set_option linter.unusedVariables false
def Vp (count slots budget : Int) : SS := ⟨fun _ => none, fun _ => none, [], List.replicate (min (max count 1) 256).toNat none, List.replicate (min (max slots 0) 4096).toNat [], List.replicate (min (max count 1) 256).toNat false, min (max slots 0) 4096, max budget 0, 1, []⟩
theorem PL (count slots budget : Int) : ShI UX 0 (Vp count slots budget) where
  ck := by simp [Vp]
  fr1 := by simp [Vp]; omega
  fr2 := by simp [Vp]; omega
  slo := by simp [Vp]; omega
  sl2 := by simp [Vp]; omega
  bud := by simp [Vp]; omega
  nx1 := by simp [Vp]
  nx2 := by simp [Vp]
  ent := fun h => by cases h
  frm := fun f j => ⟨fun h => (by cases h), fun ⟨_, x, h, _⟩ => (by cases h)⟩
  frc := fun _ h => by cases h
  fru := fun {f b} h => by
    obtain ⟨_, h⟩ := Jy h
    have : (Vp count slots budget).fr = List.replicate (min (max count 1) 256).toNat none := rfl
    rw [this, List.getElem?_replicate] at h
    split at h
    · cases h
    · cases h
  pck := fun _ h => by cases h
  cch := fun h => by cases h
  nod := List.nodup_nil
  sum := by show ((0 : Nat) : Int) ≤ max budget 0; omega
  slt := fun _ h => by cases h
  slu := fun {k p} h hp => by
    have : (Vp count slots budget).sl = List.replicate (min (max slots 0) 4096).toNat [] := rfl
    rw [this, List.getElem?_replicate] at h
    split at h
    · cases h; exact absurd rfl hp
    · cases h
  sli := fun _ _ h => by cases h
  cln := Nat.le_refl _
  tln := Nat.le_refl _
theorem aG_nil : (fun _ => none : Int → Option Value) = aG (fun _ => none) := rfl
set_option maxRecDepth 100000 in
set_option maxHeartbeats 1600000 in
theorem Pr {w : World} {F : Th} (hS : Sat w [F]) (count slots budget : Int) :
    Calls Tryz.prog 15 #[intV count, intV slots, intV budget] w (Ret fun v w' => ∃ p, v = ptrV p 0 ∧ Sat w' [J6 p (Vp count slots budget), F]) := by
 refine Qt Tryz.func15 rfl Tryz.ntmps15 rfl ?_
 refine Qd (Qa (Qe rfl rfl (Qf (Qc (Qd (Qa (Qb rfl rfl ?_)))))))
 refine JL rfl rfl rfl ?_
 refine HS rfl rfl rfl ?_
 refine Qb rfl rfl ?_
 refine JL rfl rfl rfl ?_
 refine HS rfl rfl rfl ?_
 refine Qe rfl rfl (Qe rfl rfl (Qf (Qc (Qd (Qa ?_)))))
 refine ZC Xd hS rfl ?_
 intro mb1 w1 hS1; rw [aG_nil] at hS1
 refine ZC Xd hS1 rfl ?_
 intro mb2 w2 hS2; rw [Vv] at hS2
 clear hS1
 refine Qb rfl rfl ?_
 have hC3 := hS2.split [] [false, false, false] rfl; dsimp only [QC, Qz, Q9, Q8, Q7] at hC3
 refine Qo cal_57 rfl (Sj hC3 (min (max count 1) 256)) rfl ?_
 rintro e w3 ⟨_, rfl, fpn, rfl, hS3⟩; refine ⟨_, rfl, ?_⟩
 replace hS3 := hS3.join rfl; dsimp only [QU, QT, Q8, Q7] at hS3; clear hC3
 clear hS2
 refine Qb rfl rfl ?_
 have hC4 := hS3.split [] [false, false, false, false] rfl; dsimp only [QC, Qz, Q9, Q8, Q7] at hC4
 refine Qo cal_58 rfl (Pi hC4 (min (max slots 0) 4096)) rfl ?_
 rintro e w4 ⟨_, rfl, spn, rfl, hS4⟩; refine ⟨_, rfl, ?_⟩
 replace hS4 := hS4.join rfl; dsimp only [QU, QT, Q8, Q7] at hS4; clear hC4
 clear hS3
 refine Qb rfl rfl ?_
 have hC5 := hS4.split [] [false, false, false, false, false] rfl; dsimp only [QC, Qz, Q9, Q8, Q7] at hC5
 refine Qo cal_59 rfl (SH hC5 (min (max count 1) 256) (by omega)) rfl ?_
 rintro e w5 ⟨_, rfl, kpn, rfl, hS5⟩; refine ⟨_, rfl, ?_⟩
 replace hS5 := hS5.join rfl; dsimp only [QU, QT, Q8, Q7] at hS5; clear hC5
 clear hS4
 refine Qb rfl rfl (Qb rfl rfl ?_)
 refine JL rfl rfl rfl ?_
 refine Zy rfl Hn asz_117 zr_117 rfl rfl ?_
 refine Zf hS5 rfl rfl rfl ?_
 intro bp wbp hSbp
 clear hS5
 refine Qe rfl rfl (Qf (Qc ?_))
 refine Qh (L' := [(6, _)]) (Hd rfl) ?_
 refine Q0 ?_
 refine QV (.inr rfl) rfl rfl ?_
 have hz := (hSbp.pick [0, 5, 4, 3, 2, 1, 6] rfl).row_nil inC
 have hz2 := (hz.reorder [1, 2, 3, 0, 4, 5, 6, 7] rfl).row_nil inC
 rw [show (min (max (min (max count 1) 256) 0) 4096).toNat = (min (max count 1) 256).toNat by omega] at hz2
 rw [show (max 0 (min (min (max slots 0) 4096) 4096)).toNat = (min (max slots 0) 4096).toNat by omega] at hz2
 exact ⟨_, rfl, _, rfl, QP (S := Vp count slots budget) (hz2.reorder [1, 2, 3, 4, 5, 6, 7, 0, 8] rfl)⟩
end Go.Proofs.YtkcjfoaejijdoaaGreatDoor
