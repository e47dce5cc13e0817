/- sheets: the store; giveUp, packed and what tells -/
import Derived.Test.YtkcjfoaejijdoaaGreatDoorCk2
import Derived.Test.YtkcjfoaejijdoaaGreatDoorDk
namespace Go.Proofs.YtkcjfoaejijdoaaGreatDoor
open Go.RowKit M
set_option linter.unusedVariables false
def UQ (x : ShE) : Bs := if x.place = 2 then fm x.pg else []
def TM (x : ShE) : Value := .agg #[intV x.refs, intV x.place, intV x.at_, strV (UQ x)]
def aG (A : Int → Option ShE) : Int → Option Value := fun k => (A k).map TM
theorem W3 {A : Int → Option ShE} {k : Int} {x : ShE} {z : Value} (h : A k = some x) : (aG A k).getD z = .agg #[intV x.refs, intV x.place, intV x.at_, strV (UQ x)] := by unfold aG; rw [h]; rfl
theorem JC {A : Int → Option ShE} {k : Int} {x : ShE} (h : A k = some x) : (aG A k).isSome = true := by unfold aG; rw [h]; rfl
theorem JV {A : Int → Option ShE} {k : Int} {z : Value} (h : A k = none) : (aG A k).getD z = z := by unfold aG; rw [h]; rfl
theorem JD {A : Int → Option ShE} {k : Int} (h : A k = none) : (aG A k).isSome = false := by unfold aG; rw [h]; rfl
theorem U8 (A : Int → Option ShE) (k : Int) (x : ShE) : upd (aG A) k (some (TM x)) = aG (up A k (some x)) := by
  funext j
  by_cases h : j = k
  · subst h; rw [ZD]; unfold aG; rw [XF]; rfl
  · rw [W5 h]; unfold aG; rw [XN h]
theorem TF (A : Int → Option ShE) (k : Int) : upd (aG A) k none = aG (up A k none) := by
  funext j
  by_cases h : j = k
  · subst h; rw [ZD]; unfold aG; rw [XF]; rfl
  · rw [W5 h]; unfold aG; rw [XN h]
theorem gI_del (g : Int → Option Int) (k : Int) : upd (gI g) k none = gI (up g k none) := by
  funext j
  by_cases h : j = k
  · subst h; rw [ZD]; unfold gI; rw [XF]; rfl
  · rw [W5 h]; unfold gI; rw [XN h]
structure ShX where
  ba : Nat
  bi : Nat
  fp : Nat
  sp : Nat
  kp : Nat
  cv : Value
  tv : Value
def J6 (p : Nat) (S : SS) : Th := Tt fun q : ShX => starL [QO p [.map (some q.ba), .map (some q.bi), q.cv, ptrV q.fp 0, ptrV q.sp 0, ptrV q.kp 0, intV S.slots, intV S.budget, intV S.next, q.tv], QH Xd q.ba (aG S.all), QH Xd q.bi (gI S.inn), rowT inC q.cv S.cache, Vy q.fp S.fr, VY q.sp S.sl, B0 q.kp S.ck, rowT inC q.tv S.taken]
theorem XO {w : World} {p : Nat} {S : SS} {As : List Th} (h : Sat w (J6 p S :: As)) : ∃ ba bi fp sp kp ac cc at2 ct, Sat w (QO p [.map (some ba), .map (some bi), .slice ac S.cache.length cc, ptrV fp 0, ptrV sp 0, ptrV kp 0, intV S.slots, intV S.budget, intV S.next, .slice at2 S.taken.length ct] :: QH Xd ba (aG S.all) :: QH Xd bi (gI S.inn) :: rowT inC (.slice ac S.cache.length cc) S.cache :: Vy fp S.fr :: VY sp S.sl :: B0 kp S.ck :: rowT inC (.slice at2 S.taken.length ct) S.taken :: As) := by
  obtain ⟨⟨ba, bi, fp, sp, kp, cv, tv⟩, h⟩ := h.ex
  replace h := h.flat
  obtain ⟨ac, cc, hv, _⟩ := Sat.own_shape (As := QO p _ :: QH Xd ba (aG S.all) :: QH Xd bi (gI S.inn) :: rowT inC cv S.cache :: Vy fp S.fr :: VY sp S.sl :: B0 kp S.ck :: rowT inC tv S.taken :: As) h 3 rfl
  obtain rfl := hv
  obtain ⟨at2, ct, hv, _⟩ := Sat.own_shape (As := QO p _ :: QH Xd ba (aG S.all) :: QH Xd bi (gI S.inn) :: rowT inC _ S.cache :: Vy fp S.fr :: VY sp S.sl :: B0 kp S.ck :: rowT inC tv S.taken :: As) h 7 rfl
  obtain rfl := hv
  exact ⟨ba, bi, fp, sp, kp, ac, cc, at2, ct, h⟩
theorem QP {w : World} {p : Nat} {S : SS} {As : List Th} {ba bi fp sp kp : Nat} {cv tv : Value} (h : Sat w (QO p [.map (some ba), .map (some bi), cv, ptrV fp 0, ptrV sp 0, ptrV kp 0, intV S.slots, intV S.budget, intV S.next, tv] :: QH Xd ba (aG S.all) :: QH Xd bi (gI S.inn) :: rowT inC cv S.cache :: Vy fp S.fr :: VY sp S.sl :: B0 kp S.ck :: rowT inC tv S.taken :: As)) : Sat w (J6 p S :: As) :=
  Sat.ex_intro (f := fun q : ShX => starL [QO p [.map (some q.ba), .map (some q.bi), q.cv, ptrV q.fp 0, ptrV q.sp 0, ptrV q.kp 0, intV S.slots, intV S.budget, intV S.next, q.tv], QH Xd q.ba (aG S.all), QH Xd q.bi (gI S.inn), rowT inC q.cv S.cache, Vy q.fp S.fr, VY q.sp S.sl, B0 q.kp S.ck, rowT inC q.tv S.taken]) ⟨ba, bi, fp, sp, kp, cv, tv⟩
    (Sat.fold (As := [QO p _, QH Xd ba (aG S.all), QH Xd bi (gI S.inn), rowT inC cv S.cache, Vy fp S.fr, VY sp S.sl, B0 kp S.ck, rowT inC tv S.taken]) h)
set_option maxRecDepth 100000 in
theorem Ur {w : World} {F : Th} (hS : Sat w [F]) {lv : Value} {l : List Int} (hL : Ent F (RdL inC lv l)) (hln : l.length ≤ 1000000000) :
    Calls Tryz.prog 76 #[lv] w (Ret fun v w' => Sat w' [rowT inC v l, F]) := by
 obtain ⟨ao, cap, rfl, hmax⟩ := (hL.sat hS 0 rfl).shape
 refine Qt Tryz.func76 rfl Tryz.ntmps76 rfl ?_
 refine Qd (Qa (Qe rfl rfl (Qf (Qc (Qd (Qd (Qa (Qb rfl rfl ?_))))))))
 refine D3 Tryz.underlying47 rfl rfl rfl ?_
 refine Qf (Qc ?_)
 refine QR rfl (fun h1 => ?_) (fun h1 => ?_)
 ·refine Qd (Qa (Qe rfl rfl (Qf (Qc (Q0 (Qs ?_))))))
  refine QV (.inr rfl) rfl rfl ?_
  obtain rfl := Option.isNone_iff_eq_none.1 (by assumption : ao.isNone = true)
  have hnl : l = [] := (hL.sat hS 0 rfl).isNil
  exact ⟨_, rfl, by rw [hnl]; exact (hS.pick [0] rfl).row_nil inC⟩
 refine Qy (Qc (Qd (Qa ?_)))
 refine ZK inC [] hS rfl Tryz.underlying47 KF rfl rfl rfl rfl (by rfl) rfl ?_
 intro b2 w2 hS2
 refine Qb rfl rfl ?_
 refine WY inC 0 hS2 rfl rfl rfl (hL.sat hS2 1 rfl) Tryz.underlying47 Tryz.underlying47 (by intro k hk; cases hk) Bq rfl (by simp only [List.length_nil]; omega) rfl (by simp only [List.length_nil]; omega) ?_
 intro v3 w3 hS3; dsimp only [List.set] at hS3
 clear hS2
 have h1v3 : v3.oneCell' = true := hS3.own_one 0 rfl
 refine Qe rfl rfl (Qf (Qc (Q0 ?_)))
 refine QV (.inr rfl) rfl rfl ?_
 exact ⟨_, rfl, hS3.pick [0, 1] rfl⟩
theorem CQ {w : World} {p : Nat} {S : SS} {F : Th} (hS : Sat w [J6 p S, F]) (id : Int) :
    Calls Tryz.prog 23 #[ptrV p 0, intV id] w (Ret fun v w' => v = (match S.all id with | none => intV 0 | some x => intV x.refs) ∧ Sat w' [J6 p S, F]) := by
 obtain ⟨ba, bi, fp, sp, kp, ac, cc, at2, ct, hS⟩ := XO hS
 cases Zp : S.all id with
 | none =>
  refine Qt Tryz.func23 rfl Tryz.ntmps23 rfl ?_
  refine Qd (Qa (Qe rfl rfl (Qf (Qc (Qd (Qa (Qb rfl rfl (Qj rfl rfl ?_))))))))
  refine Qg rfl X8 rfl ?_
  refine Qu rfl XS (by exact hS.cell 0 rfl rfl) rfl ?_
  refine Qb rfl rfl ?_
  refine Ze (k := id) 1 hS keysInt Tryz.underlying108 rfl rfl rfl X5 (u := (.agg #[intV 0, intV 0, intV 0, strV []])) (JV Zp) rfl ?_
  refine Rz Vw rfl rfl rfl ?_
  refine Qe rfl rfl (Qf (Qc (Q0 ?_)))
  refine QV (.inr rfl) rfl rfl ?_
  exact ⟨_, rfl, rfl, QP (hS.pick [0, 1, 2, 3, 4, 5, 6, 7, 8] rfl)⟩
 | some x =>
  refine Qt Tryz.func23 rfl Tryz.ntmps23 rfl ?_
  refine Qd (Qa (Qe rfl rfl (Qf (Qc (Qd (Qa (Qb rfl rfl (Qj rfl rfl ?_))))))))
  refine Qg rfl X8 rfl ?_
  refine Qu rfl XS (by exact hS.cell 0 rfl rfl) rfl ?_
  refine Qb rfl rfl ?_
  refine Ze (k := id) 1 hS keysInt Tryz.underlying108 rfl rfl rfl X5 (u := (.agg #[intV x.refs, intV x.place, intV x.at_, strV (UQ x)])) (W3 Zp) rfl ?_
  refine Rz Vw rfl rfl rfl ?_
  refine Qe rfl rfl (Qf (Qc (Q0 ?_)))
  refine QV (.inr rfl) rfl rfl ?_
  exact ⟨_, rfl, rfl, QP (hS.pick [0, 1, 2, 3, 4, 5, 6, 7, 8] rfl)⟩
set_option maxRecDepth 100000 in
theorem Kl {w : World} {p : Nat} {S : SS} {F : Th} (hS : Sat w [J6 p S, F]) {f : Int} {b0 : Bs} (hf : Z2 S.fr f = some b0) (hck : S.ck.length = S.fr.length) (htl : S.taken.length ≤ 900000000) :
    Calls Tryz.prog 152 #[ptrV p 0, intV f] w (Ret fun v w' => v = .tuple #[] ∧ Sat w' [J6 p (offFrame S f), F]) := by
 obtain ⟨hf0, hfl⟩ := Rj hf
 have hfc : 0 ≤ f ∧ f < (S.ck.length : Int) := by omega
 obtain ⟨ba, bi, fp, sp, kp, ac, cc, at2, ct, hS⟩ := XO hS
 refine Qt Tryz.func152 rfl Tryz.ntmps152 rfl ?_
 refine Qd (Qa (Qb rfl rfl (Qj rfl rfl ?_)))
 refine Qg rfl Wb rfl ?_
 refine Qu rfl J0 (by exact hS.cell 0 rfl rfl) rfl ?_
 refine Qb rfl rfl ?_
 have hC1 := hS.split [4] [false, false, false, false, true, false, false, false, false] rfl; dsimp only [QC, Qz, Q9, Q8, Q7] at hC1
 refine Qo cal_185 rfl (Nu hC1 f) rfl ?_
 rintro e w1 ⟨_, rfl, _, rfl, hS1⟩; refine ⟨_, rfl, ?_⟩
 replace hS1 := hS1.join rfl; dsimp only [QU, QT, Q8, Q7] at hS1; clear hC1
 rw [show UP S.fr f = S.fr.set f.toNat none by unfold UP; rw [hf]] at hS1
 refine Qf (Qc (Qd (Qa (Qb rfl rfl (Qj rfl rfl ?_)))))
 refine Qg rfl VD rfl ?_
 refine Qu rfl Dw (by exact hS1.cell 1 rfl rfl) rfl ?_
 refine Qb rfl rfl ?_
 have hC2 := hS1.split [6] [false, false, false, false, false, false, true, false, false] rfl; dsimp only [QC, Qz, Q9, Q8, Q7] at hC2
 refine Qo Dl rfl (ckgoneT hC2 f hfc) rfl ?_
 rintro e w2 ⟨_, rfl, rfl, hS2⟩; refine ⟨_, rfl, ?_⟩
 replace hS2 := hS2.join rfl; dsimp only [QU, QT, Q8, Q7] at hS2; clear hC2
 clear hS1
 refine Qf (Qc ?_)
 refine Qh (L' := [(0, _), (1, _)]) (H0 rfl rfl) ?_
 refine Qd (Qa (Qb rfl rfl (Qj rfl rfl ?_)))
 refine Qg rfl Yw rfl ?_
 refine Qu rfl Ww (by exact hS2.cell 2 rfl rfl) rfl ?_
 refine Qb rfl rfl ?_
 refine JX (k := f) 4 hS2 keysInt Tryz.underlying109 rfl rfl rfl rfl ?_
 intro w3 hS3; dsimp only [List.set] at hS3; rw [gI_del] at hS3
 clear hS2
 refine Qf (Qc (Qa (Qb rfl rfl (Qb rfl rfl (Qj rfl rfl ?_)))))
 refine Qg rfl Mp rfl ?_
 refine Qu rfl Y0 (by exact hS3.cell 2 rfl rfl) rfl ?_
 refine Qb rfl rfl ?_
 refine ZK inC [f] hS3 rfl Tryz.underlying47 KF rfl rfl rfl rfl (by rfl) rfl ?_
 intro b4 w4 hS4
 clear hS3
 refine WY inC 8 hS4 rfl rfl rfl (hS4.rd 0 rfl (by simp)) Tryz.underlying47 Tryz.underlying47 (by intro k hk; cases hk) Bq rfl (by simp only [List.length_cons, List.length_nil]; omega) rfl (by simp only [List.length_cons, List.length_nil]; omega) ?_
 intro v5 w5 hS5; dsimp only [List.set] at hS5
 clear hS4
 have h1v5 : v5.oneCell' = true := hS5.own_one 8 rfl
 refine Qj rfl rfl ?_
 refine Qg rfl Mp rfl ?_
 first | (refine Xb hS5 rfl rfl K9 (by assumption) (i := 3) rfl (by exact Nat.le_of_ble_eq_true rfl) ?_)
 intro w6 hS7; dsimp only [List.set] at hS7
 clear hS5
 refine Qf ?_
 refine W4 (.inl rfl) rfl ?_
 exact ⟨_, rfl, rfl, QP (S := offFrame S f) (hS7.pick [3, 4, 5, 6, 2, 7, 1, 8, 9] rfl)⟩
theorem CN {A : Int → Option ShE} {l : List Int} {i : Nat} {j : Int} {x : ShE} (hj : l[i]? = some j) (hx : A j = some x) (hp : x.place = 2) : Wc A (l.take (i + 1)) = Wc A (l.take i) + (UQ x).length := by
  rw [List.take_add_one, hj]
  unfold Wc
  simp only [Option.toList_some, List.map_append, List.map_cons, List.map_nil, List.sum_append, List.sum_cons, List.sum_nil]
  unfold fmL UQ
  rw [hx, if_pos hp]; rfl
theorem CO {A : Int → Option ShE} {l : List Int} {i : Nat} {j : Int} {x : ShE} (hj : l[i]? = some j) (hx : A j = some x) (hp : x.place = 2) : Wc A (l.drop i) = (UQ x).length + Wc A (l.drop (i + 1)) := by
  obtain ⟨hi, he⟩ := List.getElem?_eq_some_iff.1 hj
  rw [List.drop_eq_getElem_cons hi, he]
  unfold Wc
  rw [List.map_cons, List.sum_cons]
  unfold fmL UQ
  rw [hx, if_pos hp]
theorem fm_le (p : Bs) : (fm p).length ≤ 47 := by
  unfold fm
  cases h : YR p with
  | none => simp
  | some f => exact (RN h).1
theorem Rb (A : Int → Option ShE) : ∀ l : List Int, Wc A l ≤ 47 * l.length
  | [] => by simp [Wc]
  | j :: l => by
    have h1 := Rb A l
    unfold Wc at h1 ⊢
    rw [List.map_cons, List.sum_cons, List.length_cons]
    have : fmL A j ≤ 47 := by
      unfold fmL
      cases A j with
      | none => simp
      | some x => exact fm_le x.pg
    omega
set_option maxRecDepth 100000 in
theorem DE {w : World} {p : Nat} {S : SS} {F : Th} (hS : Sat w [J6 p S, F]) {E : Int → Prop} {N : Nat} (hI : ShI E N S) (hN : N ≤ 900000000) :
    Calls Tryz.prog 204 #[ptrV p 0] w (Ret fun v w' => v = intV ((Wc S.all S.cache : Nat) : Int) ∧ Sat w' [J6 p S, F]) := by
 have hcl := hI.cln
 obtain ⟨ba, bi, fp, sp, kp, ac, cc, at2, ct, hS⟩ := XO hS
 refine Qt Tryz.func204 rfl Tryz.ntmps204 rfl ?_
 refine Qd (Qa (Qe rfl rfl (Qf (Qc (Qd (Qa (Qe rfl rfl (Qf (Qc (Qd (Qd (Qa (Qb rfl rfl (Qj rfl rfl ?_))))))))))))))
 refine Qg rfl ZO rfl ?_
 refine Qu rfl Y0 (by exact hS.cell 0 rfl rfl) rfl ?_
 refine XU Tryz.underlying47 rfl rfl ?_
 refine Qb rfl rfl (Qf (Qc (Q1 ?_)))
 refine Xw (fun K0 E0 W0 => ∃ (i : Nat), K0 = S.cache.length - i ∧ E0 = [(0, ptrV p 0), (3, intV ((Wc S.all (S.cache.take i) : Nat) : Int)), (9, .slice ac S.cache.length cc), (10, intV (S.cache.length : Int)), (11, intV (i : Int))] ∧ Sat W0 [QO p [.map (some ba), .map (some bi), .slice ac S.cache.length cc, ptrV fp 0, ptrV sp 0, ptrV kp 0, intV S.slots, intV S.budget, intV S.next, .slice at2 S.taken.length ct], QH Xd ba (aG S.all), QH Xd bi (gI S.inn), rowT inC (.slice ac S.cache.length cc) S.cache, Vy fp S.fr, VY sp S.sl, B0 kp S.ck, rowT inC (.slice at2 S.taken.length ct) S.taken, F] ∧ (i ≤ S.cache.length)) (L0 := [(0, _), (3, _), (9, _), (10, _), (11, _)]) (S.cache.length - 0) (ZH rfl rfl rfl rfl rfl) ⟨0, rfl, rfl, hS, by omega⟩ ?_
 rintro _ _ w1 ⟨i, rfl, rfl, hS1, hi⟩
 refine Qd (Qa ?_)
 refine Xt rfl rfl rfl ?_
 refine Qf (Qc (Qd ?_))
 refine Qx rfl (fun h2 => ?_) (fun h2 => ?_)
 ·obtain ⟨j, hj⟩ : ∃ j, S.cache[i]? = some j := ⟨_, List.getElem?_eq_getElem (by omega)⟩
  obtain ⟨_, x, hx, hp⟩ := hI.cch (List.mem_of_getElem? hj)
  have hsl := Rb S.all (S.cache.take i)
  have htl := List.length_take_le i S.cache
  have hfl : (UQ x).length ≤ 47 := by unfold UQ; rw [if_pos hp]; exact fm_le x.pg
  refine Qy (Qc (Qd (Q1 (Qd (Qa ?_)))))
  refine Xp inC 3 i hS1 rfl rfl rfl (by rfl) hj KK rfl ?_
  intro bx3 capx3 hvx3
  refine Z4 3 i 0 hS1 rfl hvx3 rfl rfl hj QW rfl rfl ?_
  refine Qe rfl rfl (Qf (Qc (Qa (Qb rfl rfl (Qb rfl rfl (Qj rfl rfl ?_))))))
  refine Qg rfl X8 rfl ?_
  refine Qu rfl XS (by exact hS1.cell 0 rfl rfl) rfl ?_
  refine Qb rfl rfl ?_
  refine Ze (k := j) 1 hS1 keysInt Tryz.underlying108 rfl rfl rfl X5 (u := (.agg #[intV x.refs, intV x.place, intV x.at_, strV (UQ x)])) (W3 hx) rfl ?_
  refine Rz Mj rfl rfl rfl ?_
  refine Wg Tryz.underlying9 rfl rfl ?_
  refine QN rfl rfl (by omega) (by omega) rfl ?_
  refine Qe rfl rfl (Qf (Qp (Qc ?_)))
  refine Qh (L' := [(3, _), (0, _), (9, _), (10, _), (11, _)]) (ZH rfl rfl rfl rfl rfl) ?_
  refine Qa ?_
  refine QN rfl rfl (by omega) (by omega) rfl ?_
  refine Qb rfl rfl (Qf ?_)
  exact QG (L1 := [(0, _), (3, intV ((Wc S.all (S.cache.take (i + 1)) : Nat) : Int)), (9, _), (10, _), (11, intV ((i + 1 : Nat) : Int))]) (by rw [CN hj hx hp]; exact (ZH rfl rfl rfl rfl rfl)) (k1 := S.cache.length - (i + 1)) (by omega) ⟨i + 1, rfl, rfl, hS1.pick [0, 1, 2, 3, 4, 5, 6, 7, 8] rfl, by omega⟩
 refine QZ (Qv (Qv (Q4 (Qc (Qd (Qa (Qb rfl rfl (Qe rfl rfl (Qf (Qc (Q0 ?_)))))))))))
 refine QV (.inr rfl) rfl rfl ?_
 exact ⟨_, rfl, by rw [List.take_of_length_le (by omega)], QP (hS1.pick [0, 1, 2, 3, 4, 5, 6, 7, 8] rfl)⟩
end Go.Proofs.YtkcjfoaejijdoaaGreatDoor
/- sheets: pack -/
namespace Go.Proofs.YtkcjfoaejijdoaaGreatDoor
open Go.RowKit M
set_option linter.unusedVariables false
/-- sheets were moved from the cache to slots; E: those that lie nowhere -/
structure PkS (E : Int → Prop) (S S1 : SS) : Prop where
  go : ShG S S1
  inn : S1.inn = S.inn
  fr : S1.fr = S.fr
  ck : S1.ck = S.ck
  tak : S1.taken = S.taken
  one : ∀ j x, S.all j = some x → x.place = 1 ∨ E j → S1.all j = some x
theorem PkS.refl (E : Int → Prop) (S : SS) : PkS E S S := ⟨ShG.refl S, rfl, rfl, rfl, rfl, fun _ _ h _ => h⟩
theorem Nk {E : Int → Prop} {T : Nat} {S0 S : SS} {j : Int} {c : List Int} {x : ShE} {k : Nat} (h : ShI E T S) (hp : PkS E S0 S) (hc : S.cache = j :: c) (hx : S.all j = some x) (hk : S.sl[k]? = some []) :
    ShI E T { S with all := up S.all j (some ⟨x.refs, 3, (k : Nat), x.pg⟩), sl := S.sl.set k x.pg, cache := c } ∧ PkS E S0 { S with all := up S.all j (some ⟨x.refs, 3, (k : Nat), x.pg⟩), sl := S.sl.set k x.pg, cache := c } := by
  obtain ⟨hje, x', hx', hpl⟩ := h.cch (j := j) (by rw [hc]; simp)
  obtain rfl : x = x' := by rw [hx] at hx'; cases hx'; rfl
  have hjc : j ∉ c := by have := h.nod; rw [hc] at this; exact (List.nodup_cons.1 this).1
  have h1 := h.offCache hx hpl (c := c) (by rw [hc]; exact List.sublist_cons_self j c) (fun i => by
    rw [hc]
    constructor
    · intro hi; exact ⟨List.mem_cons_of_mem _ hi, fun q => hjc (q ▸ hi)⟩
    · rintro ⟨hi, hne⟩; exact (List.mem_cons.1 hi).resolve_left hne)
  have h2 := ShI.onSlot (S := { S with cache := c }) (x := x) h1 (.inr rfl) hx hk
  refine ⟨h2.congr fun i _ => ⟨fun ⟨a, b⟩ => a.resolve_right b, fun a => ⟨.inl a, fun q => hje (q ▸ a)⟩⟩, ?_⟩
  refine ⟨hp.go.trans ⟨fun i => ?_, ⟨[], by simp, fun i y hy hp1 => .inr ⟨y, ?_, hp1, rfl⟩⟩, rfl, rfl, rfl, rfl⟩, hp.inn, hp.fr, hp.ck, hp.tak, fun i y hy hpy => ?_⟩
  · show ((up S.all j _) i).map _ = _
    by_cases q : i = j
    · subst q; rw [XF, hx]; rfl
    · rw [XN q]
  · show (up S.all j _) i = _
    rw [XN (fun q => by subst q; rw [hx] at hy; cases hy; omega)]; exact hy
  · show (up S.all j _) i = _
    have h3 := hp.one i y hy hpy
    rw [XN (fun q => by
      subst q
      rcases hpy with hpy | hpy
      · rw [hx] at h3; cases h3; omega
      · exact hje hpy)]; exact h3
/-- what evicting leaves -/
structure EvS (E : Int → Prop) (T : Nat) (f : Int) (S S' : SS) : Prop where
  inv : ShI E (T + 1) S'
  go : ShG S S'
  fr : S'.fr = S.fr.set f.toNat none
  lim : ∀ j x, S.all j = some x → E j → S'.all j = some x
theorem Tv {E : Int → Prop} {T : Nat} {S S1 : SS} {id f : Int} {x : ShE} (h0 : ShI E T S) (h : ShI E T S1) (hp : PkS E S S1) (hE : ¬ E id) (hx : S.all id = some x) (hpl : x.place = 1) (hat : x.at_ = f) (hpk : YR x.pg ≠ none) (hs : (Wc S1.all S1.cache + (fm x.pg).length : Int) ≤ S1.budget) :
    EvS E T f S (offFrame { S1 with all := up S1.all id (some ⟨x.refs, 2, 0, x.pg⟩), cache := S1.cache ++ [id] } f) := by
  have hx1 := hp.one id x hx (.inl hpl)
  have h1 := h.offFrame hE hx1 hpl hat
  have h2 := ShI.onCache (S := offFrame S1 f) (x := x) h1 (.inr rfl) hx1 hpk hs (by have := h.cln; show S1.cache.length + 1 ≤ _; omega) 0
  refine ⟨h2.congr fun i _ => ⟨fun ⟨a, b⟩ => a.resolve_right b, fun a => ⟨.inl a, fun q => hE (q ▸ a)⟩⟩, hp.go.trans ⟨fun i => ?_, ⟨[f], rfl, fun i y hy hp1 => ?_⟩, rfl, rfl, by show (S1.fr.set _ _).length = _; rw [List.length_set], rfl⟩, by show S1.fr.set _ _ = _; rw [hp.fr], fun i y hy hi => ?_⟩
  · show (up S1.all id _ i).map _ = _
    by_cases q : i = id
    · subst q; rw [XF, hx1]; rfl
    · rw [XN q]
  · by_cases q : i = id
    · subst q; rw [hx1] at hy; cases hy; exact .inl (by rw [hat]; simp)
    · exact .inr ⟨y, by show up S1.all id _ i = _; rw [XN q]; exact hy, hp1, rfl⟩
  · show up S1.all id _ i = _
    rw [XN (fun q => hE (by rw [← q]; exact hi))]; exact hp.one i y hy (.inr hi)
theorem Tu {E : Int → Prop} {T : Nat} {S : SS} {id f : Int} {x : ShE} {k : Nat} (h : ShI E T S) (hE : ¬ E id) (hx : S.all id = some x) (hpl : x.place = 1) (hat : x.at_ = f) (hk : S.sl[k]? = some []) :
    EvS E T f S (offFrame { S with all := up S.all id (some ⟨x.refs, 3, (k : Nat), x.pg⟩), sl := S.sl.set k x.pg } f) := by
  have h1 := h.offFrame hE hx hpl hat
  have h2 := ShI.onSlot (S := offFrame S f) (x := x) h1 (.inr rfl) hx hk
  refine ⟨h2.congr fun i _ => ⟨fun ⟨a, b⟩ => a.resolve_right b, fun a => ⟨.inl a, fun q => hE (q ▸ a)⟩⟩, ⟨fun i => ?_, ⟨[f], rfl, fun i y hy hp1 => ?_⟩, rfl, rfl, by show (S.fr.set _ _).length = _; rw [List.length_set], rfl⟩, rfl, fun i y hy hi => ?_⟩
  · show (up S.all id _ i).map _ = _
    by_cases q : i = id
    · subst q; rw [XF, hx]; rfl
    · rw [XN q]
  · by_cases q : i = id
    · subst q; rw [hx] at hy; cases hy; exact .inl (by rw [hat]; simp)
    · exact .inr ⟨y, by show up S.all id _ i = _; rw [XN q]; exact hy, hp1, rfl⟩
  · show up S.all id _ i = _
    rw [XN (fun q => hE (by rw [← q]; exact hi))]; exact hy
/-- the sheet of a frame -/
theorem Nv {E : Int → Prop} {T : Nat} {S : SS} {f : Int} {b : Bs} (h : ShI E T S) (hf : Z2 S.fr f = some b) : ∃ id x, S.inn f = some id ∧ ¬ E id ∧ S.all id = some x ∧ x.place = 1 ∧ x.at_ = f ∧ x.pg = b := by
  cases hq : S.inn f with
  | none => exact absurd hq (h.fru hf)
  | some id =>
    obtain ⟨h1, x, h2, h3, h4⟩ := (h.frm f id).1 hq
    have := h.frc h1 h2 h3
    rw [h4, hf] at this
    exact ⟨id, x, rfl, h1, h2, h3, h4, by cases this; rfl⟩
theorem gI_some {g : Int → Option Int} {k j : Int} {z : Value} (h : g k = some j) : (gI g k).getD z = intV j := by unfold gI; rw [h]; rfl
set_option maxRecDepth 100000 in
set_option maxHeartbeats 1600000 in
theorem CR {w : World} {p : Nat} {S : SS} {F : Th} (hS : Sat w [J6 p S, F]) {E : Int → Prop} {N : Nat} (hI : ShI E N S) (hN : N ≤ 900000000) {id : Int} {x : ShE} (hx : S.all id = some x) (hpl : x.place = 1) :
    Calls Tryz.prog 171 #[ptrV p 0, intV id, strV x.pg] w (Ret fun v w' => (v = .bool false ∧ Sat w' [J6 p S, F]) ∨ (∃ f S1, v = .bool true ∧ YR x.pg = some f ∧ ShI E N S1 ∧ PkS E S S1 ∧ (Wc S1.all S1.cache + f.length : Int) ≤ S1.budget ∧ Sat w' [J6 p { S1 with all := up S1.all id (some ⟨x.refs, 2, 0, x.pg⟩), cache := S1.cache ++ [id] }, F])) := by
 have hx64 : x.pg.length = 64 := (hI.ent hx).2.2.2.2.1
 have hcl := hI.cln
 have hul := Yi S.sl
 have hslo := hI.slo
 have hsl2 := hI.sl2
 obtain ⟨ba, bi, fp, sp, kp, ac, cc, at2, ct, hS⟩ := XO hS
 cases hpm : YR x.pg with
 | none =>
  refine Qt Tryz.func171 rfl Tryz.ntmps171 rfl ?_
  refine Qd (Qa (Qe rfl rfl (Qf (Qc (Qd (Qa (Qb rfl rfl ?_)))))))
  have hC1 := hS.split [] [false, false, false, false, false, false, false, false, false] rfl; dsimp only [QC, Qz, Q9, Q8, Q7] at hC1
  refine Qo Dq rfl (BO hC1 x.pg hx64) rfl ?_
  rintro e w1 ⟨_, rfl, rfl, hS1⟩; refine ⟨_, rfl, ?_⟩
  replace hS1 := hS1.join rfl; dsimp only [QU, QT, Q8, Q7] at hS1; clear hC1
  rw [hpm]
  dsimp only [TS, Option.getD_some, Option.isSome_some, Option.getD_none, Option.isSome_none]
  refine Qb rfl rfl (Qw rfl rfl rfl (Qw rfl rfl rfl (Qe rfl rfl (Qe rfl rfl (Qf (Qc ?_))))))
  refine Qh (L' := [(8, _), (7, _), (6, _), (0, _), (1, _)]) (ZH rfl rfl rfl rfl rfl) ?_
  refine Qd (Qd (Qa (Qb rfl rfl ?_)))
  refine QS rfl rfl ?_
  refine Qb rfl rfl ?_
  refine Zd 25 rfl (fun h2 => ?_) (fun h2 => ?_)
  ·refine Ql rfl rfl h2 rfl ?_
   refine Ql rfl rfl h2 rfl ?_
   refine Ql rfl rfl h2 rfl ?_
   refine Ql rfl rfl h2 rfl ?_
   refine Ql rfl rfl h2 rfl ?_
   refine Ql rfl rfl h2 rfl ?_
   refine Ql rfl rfl h2 rfl ?_
   refine Xg rfl h2 rfl rfl ?_
   refine Qf (Qc ?_)
   refine Qh (L' := [(33, _), (7, _), (6, _), (0, _), (1, _)]) (ZH rfl rfl rfl rfl rfl) ?_
   refine XP rfl ?_
   refine Qd (Qa (Qe rfl rfl (Qf (Qc (Q0 (Qs ?_))))))
   refine QV (.inr rfl) rfl rfl ?_
   exact ⟨_, rfl, .inl ⟨rfl, QP (hS1.pick [0, 1, 2, 3, 4, 5, 6, 7, 8] rfl)⟩⟩
  exact absurd h2 (by simp)
 | some f =>
  have hfl := (RN hpm).1
  have hss := Rb S.all S.cache
  refine Qt Tryz.func171 rfl Tryz.ntmps171 rfl ?_
  refine Qd (Qa (Qe rfl rfl (Qf (Qc (Qd (Qa (Qb rfl rfl ?_)))))))
  have hC1 := hS.split [] [false, false, false, false, false, false, false, false, false] rfl; dsimp only [QC, Qz, Q9, Q8, Q7] at hC1
  refine Qo Dq rfl (BO hC1 x.pg hx64) rfl ?_
  rintro e w1 ⟨_, rfl, rfl, hS1⟩; refine ⟨_, rfl, ?_⟩
  replace hS1 := hS1.join rfl; dsimp only [QU, QT, Q8, Q7] at hS1; clear hC1
  rw [hpm]
  dsimp only [TS, Option.getD_some, Option.isSome_some, Option.getD_none, Option.isSome_none]
  refine Qb rfl rfl (Qw rfl rfl rfl (Qw rfl rfl rfl (Qe rfl rfl (Qe rfl rfl (Qf (Qc ?_))))))
  refine Qh (L' := [(8, _), (7, _), (6, _), (0, _), (1, _)]) (ZH rfl rfl rfl rfl rfl) ?_
  refine Qd (Qd (Qa (Qb rfl rfl ?_)))
  refine QS rfl rfl ?_
  refine Qb rfl rfl ?_
  refine Zd 25 rfl (fun h2 => ?_) (fun h2 => ?_)
  ·exact absurd h2 (by simp)
  refine Qn rfl rfl h2 ?_
  refine Qb rfl rfl ?_
  refine Qn rfl rfl h2 ?_
  refine Wg Tryz.underlying9 rfl rfl ?_
  refine Qn rfl rfl h2 ?_
  refine Qb rfl rfl ?_
  refine Qn rfl rfl h2 ?_
  refine Qj rfl rfl ?_
  refine Qn rfl rfl h2 ?_
  refine Qg rfl Mq rfl ?_
  refine Qn rfl rfl h2 ?_
  refine Qu rfl QW (by exact hS1.cell 0 rfl rfl) rfl ?_
  refine Qn rfl rfl h2 ?_
  refine UA rfl rfl rfl ?_
  refine QX rfl h2 rfl rfl ?_
  refine Qf (Qc ?_)
  refine Qh (L' := [(33, _), (7, _), (6, _), (0, _), (1, _)]) (ZH rfl rfl rfl rfl rfl) ?_
  refine Qx rfl (fun h3 => ?_) (fun h3 => ?_)
  ·refine Qd (Qa (Qe rfl rfl (Qf (Qc (Q0 (Qs ?_))))))
   refine QV (.inr rfl) rfl rfl ?_
   exact ⟨_, rfl, .inl ⟨rfl, QP (hS1.pick [0, 1, 2, 3, 4, 5, 6, 7, 8] rfl)⟩⟩
  refine Qy (Qc (Qd (Qa (Qb rfl rfl ?_))))
  have hSc := QP (hS1.pick [0, 1, 2, 3, 4, 5, 6, 7, 8] rfl)
  have hC4 := hSc.split [0] [true, false] rfl; dsimp only [QC, Qz, Q9, Q8, Q7] at hC4
  refine Qo cal_204 rfl (DE hC4 hI hN) rfl ?_
  rintro e w4 ⟨_, rfl, rfl, hS4⟩; refine ⟨_, rfl, ?_⟩
  replace hS4 := hS4.join rfl; dsimp only [QU, QT, Q8, Q7] at hS4; clear hC4
  clear hSc
  obtain ⟨ba, bi, fp, sp, kp, ac, cc, at2, ct, hSo5⟩ := XO (hS4.pick [0, 1] rfl)
  obtain ⟨_, _, hqc, hccl, _⟩ := hSo5.own_shape 3 rfl; cases hqc
  refine Qb rfl rfl ?_
  refine Wg Tryz.underlying9 rfl rfl ?_
  refine QN rfl rfl (by omega) (by omega) rfl ?_
  refine Qe rfl rfl (Qe rfl rfl (Qf (Qc ?_)))
  refine Qh (L' := [(10, _), (9, _), (7, _), (6, _), (0, _), (1, _)]) (Wf rfl rfl rfl rfl rfl rfl) ?_
  refine Qd (Q1 ?_)
  refine Xw (fun K0 E0 W0 => ∃ (k : Nat), K0 = S.cache.length - k ∧ E0 = [(0, ptrV p 0), (1, intV id), (7, strV f), (9, intV (k : Int)), (10, intV ((Wc S.all (S.cache.drop k) + f.length : Nat) : Int))] ∧ Sat W0 [QO p [.map (some ba), .map (some bi), .slice ac S.cache.length cc, ptrV fp 0, ptrV sp 0, ptrV kp 0, intV S.slots, intV S.budget, intV S.next, .slice at2 S.taken.length ct], QH Xd ba (aG S.all), QH Xd bi (gI S.inn), rowT inC (.slice ac S.cache.length cc) S.cache, Vy fp S.fr, VY sp S.sl, B0 kp S.ck, rowT inC (.slice at2 S.taken.length ct) S.taken, F] ∧ (k ≤ S.cache.length)) (L0 := [(0, _), (1, _), (7, _), (9, _), (10, _)]) (S.cache.length - 0) (ZH rfl rfl rfl rfl rfl) ⟨0, rfl, rfl, hSo5, by omega⟩ ?_
  rintro _ _ w6 ⟨k, rfl, rfl, hS6, hk⟩
  refine Qd (Qd (Qa (Qb rfl rfl (Qb rfl rfl (Qj rfl rfl ?_)))))
  refine Qg rfl Mq rfl ?_
  refine Qu rfl QW (by exact hS6.cell 0 rfl rfl) rfl ?_
  refine UA rfl rfl rfl ?_
  refine Qf (Qc ?_)
  refine Qh (L' := [(44, _), (0, _), (1, _), (7, _), (9, _), (10, _)]) (Wf rfl rfl rfl rfl rfl rfl) ?_
  refine Qx rfl (fun h7 => ?_) (fun h7 => ?_)
  ·have hkl : k < S.cache.length := by rcases Nat.lt_or_ge k S.cache.length with q | q; exact q; (exfalso; have hh := h7; rw [List.drop_of_length_le q] at hh; simp only [Wc, List.map_nil, List.sum_nil] at hh; omega)
   obtain ⟨j, hj⟩ : ∃ j, S.cache[k]? = some j := ⟨_, List.getElem?_eq_getElem hkl⟩
   obtain ⟨_, y, hy, hyp⟩ := hI.cch (List.mem_of_getElem? hj)
   have hsd := CO hj hy hyp
   have hsl := Rb S.all (S.cache.drop k)
   have hdl : (S.cache.drop k).length ≤ S.cache.length := by rw [List.length_drop]; omega
   refine Qy (Qc (Q1 (Qd ?_)))
   obtain ⟨ob, oc9, hq9, _⟩ := hS6.own_at 3 rfl (by omega)
   cases hq9
   have hS8 := hS6.drew
   refine QK [0, 1, 2, 3, 4, 5, 6, 7, 8, 9, 10, 11, 12, 13, 14, 15, 16] [] ZT (by kernel_rfl) ?_
   refine Qk rfl rfl rfl (fun _ => (Qr rfl)) ?_
   refine Qk rfl rfl rfl (fun _ => (Qr rfl)) ?_
   refine Qk rfl rfl rfl (fun _ => (Qq rfl)) ?_
   refine Qk rfl rfl rfl (fun _ => (Qi rfl X8)) ?_
   refine QF rfl rfl rfl (Qm rfl XS (by exact hS8.cell 0 rfl rfl)) ?_
   refine Qk rfl rfl rfl (fun _ => (Qr rfl)) ?_
   refine Qk rfl rfl rfl (fun _ => (Qq rfl)) ?_
   refine Qk rfl rfl rfl (fun _ => (Qi rfl ZO)) ?_
   refine QF rfl rfl rfl (Qm rfl Y0 (by exact hS8.cell 0 rfl rfl)) ?_
   refine Qk rfl rfl rfl (fun _ => (Qr rfl)) ?_
   refine Qk rfl rfl rfl (fun _ => (JR k rfl rfl (by rfl) (by exact hkl) KK)) ?_
   refine QF rfl rfl rfl (KH inC 3 k 0 hS8 rfl hj QW rfl rfl) ?_
   refine QF rfl rfl rfl (Xz (k := j) 1 hS8 keysInt Tryz.underlying108 rfl rfl rfl X5 (u := (.agg #[intV y.refs, intV y.place, intV y.at_, strV (UQ y)])) (W3 hy)) ?_
   refine Qk rfl rfl rfl (fun _ => (VE Mj rfl rfl)) ?_
   refine Qk rfl rfl rfl (fun _ => (Ro Tryz.underlying9 rfl)) ?_
   refine Qk rfl rfl rfl (fun _ => (Cg rfl rfl (by omega) (by omega))) ?_
   refine Qk rfl rfl rfl (fun _ => (Q6 rfl)) ?_
   refine VC.nil (Qc ?_)
   refine Qh (L' := [(10, _), (0, _), (1, _), (7, _), (9, _)]) (ZH rfl rfl rfl rfl rfl) ?_
   refine Qa (Qb rfl rfl ?_)
   refine QN rfl rfl (by omega) (by omega) rfl ?_
   refine Qe rfl rfl (Qf (Qp ?_))
   exact QG (L1 := [(0, _), (1, _), (7, _), (9, intV ((k + 1 : Nat) : Int)), (10, intV ((Wc S.all (S.cache.drop (k + 1)) + f.length : Nat) : Int))]) (by rw [show Wc S.all (S.cache.drop (k + 1)) + f.length = Wc S.all (S.cache.drop k) + f.length - (UQ y).length by omega, Int.ofNat_sub (by omega)]; exact (ZH rfl rfl rfl rfl rfl)) (k1 := S.cache.length - (k + 1)) (by omega) ⟨k + 1, rfl, rfl, hS8.pick [0, 1, 2, 3, 4, 5, 6, 7, 8] rfl, by omega⟩
  refine QZ (Qv (Qv (Q4 (Qc (Qd (Qd ?_))))))
  have hS9 := hS6.drew
  refine QK [0, 1, 2, 3, 4, 5, 6, 7, 10, 8, 9, 11] [8] ZT (by kernel_rfl) ?_
  refine Qk rfl rfl rfl (fun _ => (Qr rfl)) ?_
  refine Qk rfl rfl rfl (fun _ => (Qq rfl)) ?_
  refine Qk rfl rfl rfl (fun _ => (Qi rfl Sn)) ?_
  refine QF rfl rfl rfl (Qm rfl QW (by exact hS9.cell 0 rfl rfl)) ?_
  refine Qk rfl rfl rfl (fun _ => (Qr rfl)) ?_
  refine Qk rfl rfl rfl (fun _ => (Qq rfl)) ?_
  refine Qk rfl rfl rfl (fun _ => (Qi rfl JA)) ?_
  refine QF rfl rfl rfl (Qm rfl HP (by exact hS9.cell 0 rfl rfl)) ?_
  refine Qk rfl rfl rfl (fun _ => (Qr rfl)) ?_
  refine Xn rfl rfl rfl rfl rfl rfl ?_
  have hC10 := hS9.split [5] [false, false, false, false, false, true, false, false, false] rfl; dsimp only [QC, Qz, Q9, Q8, Q7] at hC10
  refine Qo cal_62 rfl (CM hC10) rfl ?_
  rintro e w10 ⟨_, rfl, rfl, hS10⟩; refine ⟨_, rfl, ?_⟩
  replace hS10 := hS10.join rfl; dsimp only [QU, QT, Q8, Q7] at hS10; clear hC10
  clear hS9
  refine XJ (.skip (by kernel_rfl) (.cons (.inl ⟨rfl, (Qm rfl QW (by exact hS10.cell 1 rfl rfl))⟩) .nil)) ?_
  refine Qk rfl rfl rfl (fun _ => (Cg rfl rfl (by omega) (by omega))) ?_
  refine Qk rfl rfl rfl (fun _ => (BX rfl rfl)) ?_
  refine VC.nil (Qc ?_)
  refine Qh (L' := [(74, _), (0, _), (1, _), (7, _), (9, _)]) (ZH rfl rfl rfl rfl rfl) ?_
  refine Qx rfl (fun h11 => ?_) (fun h11 => ?_)
  ·refine Qd (Qa (Qe rfl rfl (Qf (Qc (Q0 (Qs ?_))))))
   refine QV (.inr rfl) rfl rfl ?_
   exact ⟨_, rfl, .inl ⟨rfl, QP (hS10.pick [1, 2, 3, 4, 5, 0, 6, 7, 8] rfl)⟩⟩
  refine Qy (Qc (Qd (Qd ?_)))
  have hS12 := hS10.pick [1, 2, 3, 4, 5, 0, 6, 7, 8] rfl
  refine Qa (Qb rfl rfl (Qj rfl rfl ?_))
  refine Qg rfl ZO rfl ?_
  refine Qu rfl Y0 (by exact hS12.cell 0 rfl rfl) rfl ?_
  refine Qb rfl rfl ?_
  refine KX 0 k Tryz.underlying47 YM rfl (bndN _) (KW k _ rfl rfl) (by omega) (by omega) rfl ?_
  refine XU (m := k) Tryz.underlying47 rfl rfl ?_
  refine Qb rfl rfl (Qf (Qc ?_))
  refine Qh (L' := [(82, _), (81, _), (80, _), (0, _), (1, _), (7, _), (9, _)]) (WK rfl rfl rfl rfl rfl rfl rfl) ?_
  refine Q1 ?_
  refine Xw (fun K0 E0 W0 => ∃ (S1 : SS) (i : Nat), K0 = k - i ∧ E0 = [(0, ptrV p 0), (1, intV id), (7, strV f), (9, intV (k : Int)), (80, YK 1 (.slice ac S.cache.length cc) 0 k), (81, intV (k : Int)), (82, intV (i : Int))] ∧ Sat W0 [QO p [.map (some ba), .map (some bi), .slice ac S.cache.length cc, ptrV fp 0, ptrV sp 0, ptrV kp 0, intV S.slots, intV S.budget, intV S.next, .slice at2 S.taken.length ct], QH Xd ba (aG S1.all), QH Xd bi (gI S.inn), rowT inC (.slice ac S.cache.length cc) S.cache, Vy fp S.fr, VY sp S1.sl, B0 kp S.ck, rowT inC (.slice at2 S.taken.length ct) S.taken, F] ∧ (ShI E N S1) ∧ (PkS E S S1) ∧ (S1.cache = S.cache.drop i) ∧ (i ≤ k) ∧ (ZS S1.sl + (k - i) ≤ S1.sl.length)) (L0 := [(0, _), (1, _), (7, _), (9, _), (80, _), (81, _), (82, _)]) (k - 0) (WK rfl rfl rfl rfl rfl rfl rfl) ⟨S, 0, rfl, (by unfold YK; rfl), hS12, hI, PkS.refl E S, rfl, by omega, by omega⟩ ?_
  rintro _ _ w13 ⟨S1, i, rfl, rfl, hS13, hI1, hP1, hC0, hi, hU⟩
  refine Qd (Qa ?_)
  refine Xt rfl rfl rfl ?_
  refine Qf (Qc (Qd ?_))
  refine Qx rfl (fun h14 => ?_) (fun h14 => ?_)
  ·obtain ⟨j, hj⟩ : ∃ j, S.cache[i]? = some j := ⟨_, List.getElem?_eq_getElem (by omega)⟩
   have hC1 : S1.cache = j :: S.cache.drop (i + 1) := by rw [hC0, List.drop_eq_getElem_cons (by omega)]; congr 1; exact (List.getElem?_eq_some_iff.1 hj).2
   have hC2 : S.cache.drop (i + 1) = S.cache.drop (i + 1) := rfl
   obtain ⟨hjE, y, hy, hyp⟩ := hI1.cch (j := j) (by rw [hC1]; simp)
   obtain ⟨_, hpky⟩ := hI1.pck hjE hy hyp
   obtain ⟨fy, hfy⟩ := Option.ne_none_iff_exists'.1 hpky
   have hfme : UQ y = fy := by unfold UQ fm; rw [if_pos hyp, hfy]; rfl
   have hy64 : y.pg.length = 64 := (hI1.ent hy).2.2.2.2.1
   have hype : y.pg ≠ [] := fun q => by rw [q] at hy64; simp at hy64
   have hvw : Ent (rowT inC (.slice ac S.cache.length cc) S.cache) (RdL inC (YK 1 (.slice ac S.cache.length cc) 0 k) ((S.cache.take k).drop 0)) := Mv (by omega) (by omega) (by omega) hccl
   refine Qy (Qc (Qd (Q1 (Qd (Qa ?_)))))
   have hvr := Ent.sat hvw hS13 3 rfl
   obtain ⟨va, vc, hvv, _⟩ := hvr.shape
   rw [hvv] at hvr
   obtain ⟨vb, vo, rfl, hvc⟩ := hvr.get (i := i) (a := j) (by rw [List.drop_zero, List.getElem?_take, if_pos (by omega)]; exact hj)
   refine Z1 i (congrArg some hvv) rfl rfl (by rw [List.drop_zero, List.length_take]; omega) KK rfl ?_
   refine Qu rfl QW (hvc 0 _ rfl) rfl ?_
   refine Qe rfl rfl (Qf (Qc ?_))
   refine Qh (L' := [(12, _), (0, _), (1, _), (7, _), (9, _), (80, _), (81, _), (82, _)]) (WT rfl rfl rfl rfl rfl rfl rfl rfl) ?_
   refine Qd (Qa (Qb rfl rfl (Qj rfl rfl ?_)))
   refine Qg rfl X8 rfl ?_
   refine Qu rfl XS (by exact hS13.cell 0 rfl rfl) rfl ?_
   refine Qb rfl rfl ?_
   refine Ze (k := j) 1 hS13 keysInt Tryz.underlying108 rfl rfl rfl X5 (u := (.agg #[intV y.refs, intV y.place, intV y.at_, strV (UQ y)])) (W3 hy) rfl ?_
   refine Xl hS13 X5 rfl rfl ?_
   intro b15 w15 hS15
   clear hS13
   (refine Xa hS15 rfl rfl WV rfl (by rfl) (i := 0) rfl (by decide) ?_)
   intro w16 hS17; dsimp only [List.set] at hS17
   clear hS15
   refine Qf (Qc ?_)
   refine Qh (L' := [(13, _), (12, _), (0, _), (1, _), (7, _), (9, _), (80, _), (81, _), (82, _)]) (G6 rfl rfl rfl rfl rfl rfl rfl rfl rfl) ?_
   refine Qd (Qa ?_)
   refine Qg rfl Gd rfl ?_
   refine Qu rfl Yz (by exact hS17.cell 0 rfl rfl) rfl ?_
   have hC18 := hS17.split [] [false, false, false, false, false, false, false, false, false, false] rfl; dsimp only [QC, Qz, Q9, Q8, Q7] at hC18
   refine Qo T7 rfl (Kh hC18 hy64 (by rw [hfme]; exact hfy)) rfl ?_
   rintro e w18 ⟨_, rfl, rfl, hS18⟩; refine ⟨_, rfl, ?_⟩
   replace hS18 := hS18.join rfl; dsimp only [QU, QT, Q8, Q7] at hS18; clear hC18
   clear hS17
   refine Qb rfl rfl (Qw rfl rfl rfl (Qw rfl rfl rfl (Qe rfl rfl (Qe rfl rfl (Qf (Qc ?_))))))
   refine Qh (L' := [(14, _), (13, _), (12, _), (0, _), (1, _), (7, _), (9, _), (80, _), (81, _), (82, _)]) (Yg rfl rfl rfl rfl rfl rfl rfl rfl rfl rfl) ?_
   refine Qd (Qa (Qb rfl rfl (Qj rfl rfl ?_)))
   refine Qg rfl JA rfl ?_
   refine Qu rfl HP (by exact hS18.cell 1 rfl rfl) rfl ?_
   refine Qb rfl rfl ?_
   have hC19 := hS18.split [6] [false, false, false, false, false, false, true, false, false, false] rfl; dsimp only [QC, Qz, Q9, Q8, Q7] at hC19
   refine Qo Cr rfl (DA hC19 y.pg hy64) rfl ?_
   rintro e w19 ⟨_, rfl, (⟨hfull, rfl, hS19⟩ | ⟨ks, hks, rfl, hS19⟩)⟩
   ·exact absurd hfull (by omega)
   refine ⟨_, rfl, ?_⟩
   replace hS19 := hS19.join rfl; dsimp only [QU, QT, Q8, Q7] at hS19; clear hC19
   clear hS18
   refine Qb rfl rfl (Qw rfl rfl rfl (Qw rfl rfl rfl (Qe rfl rfl (Qe rfl rfl (Qf (Qc ?_))))))
   refine Qh (L' := [(16, _), (13, _), (12, _), (0, _), (1, _), (7, _), (9, _), (80, _), (81, _), (82, _)]) (Yg rfl rfl rfl rfl rfl rfl rfl rfl rfl rfl) ?_
   have hS20 := hS19.drew
   refine QK [0, 1, 2, 3, 4, 5, 6, 7, 8, 9] [9] ZT (by kernel_rfl) ?_
   refine Qk rfl rfl rfl (fun _ => (Qr rfl)) ?_
   refine Qk rfl rfl rfl (fun _ => (Qq rfl)) ?_
   refine Qk rfl rfl rfl (fun _ => (Qi rfl X8)) ?_
   refine QF rfl rfl rfl (Qm rfl XS (by exact hS20.cell 2 rfl rfl)) ?_
   refine Qk rfl rfl rfl (fun _ => (Qr rfl)) ?_
   refine Qk rfl rfl rfl (fun _ => (Qi rfl W7)) ?_
   refine QF rfl rfl rfl (Qm rfl QW (by exact hS20.cell 1 rfl rfl)) ?_
   refine Qk rfl rfl rfl (fun _ => (Qr rfl)) ?_
   refine Qk rfl rfl rfl (fun _ => (Ws rfl Wj YB X5 rfl)) ?_
   refine Xn rfl rfl rfl rfl rfl rfl ?_
   refine X1 (k := j) (v := TM ⟨y.refs, 3, (ks : Nat), y.pg⟩) 3 hS20 keysInt Tryz.underlying108 rfl rfl rfl rfl ?_
   intro w21 hS21a; dsimp only [List.set] at hS21a; have hS21 := hS21a; rw [U8] at hS21
   clear hS20
   refine Zi (.skip (by kernel_rfl) (.skip (by kernel_rfl) .nil)) ?_
   refine VC.nil (Qp (Qc ?_))
   refine Qh (L' := [(0, _), (1, _), (7, _), (9, _), (80, _), (81, _), (82, _)]) (WK rfl rfl rfl rfl rfl rfl rfl) ?_
   refine Qa ?_
   refine QN rfl rfl (by omega) (by omega) rfl ?_
   refine Qb rfl rfl (Qf ?_)
   obtain ⟨hI2, hP2⟩ := Nk hI1 hP1 hC1 hy hks
   exact QG (L1 := [(0, _), (1, _), (7, _), (9, _), (80, _), (81, _), (82, intV ((i + 1 : Nat) : Int))]) (WK rfl rfl rfl rfl rfl rfl rfl) (k1 := k - (i + 1)) (by omega) ⟨{ S1 with all := up S1.all j (some ⟨y.refs, 3, (ks : Nat), y.pg⟩), sl := S1.sl.set ks y.pg, cache := S.cache.drop (i + 1) }, i + 1, rfl, rfl, hS21.pick [2, 3, 4, 5, 6, 0, 7, 8, 9] rfl, hI2, hP2, rfl, by omega, by dsimp only; rw [List.length_set, Kf hks hype]; omega⟩
  refine QZ (Qv (Qv (Q4 (Qc (Qd ?_)))))
  have hx1 : S1.all id = some x := hP1.one id x hx (.inl hpl)
  refine Qa (Qb rfl rfl (Qb rfl rfl (Qj rfl rfl ?_)))
  refine Qg rfl ZO rfl ?_
  refine Qu rfl Y0 (by exact hS13.cell 0 rfl rfl) rfl ?_
  refine Qb rfl rfl ?_
  refine KX k S.cache.length Tryz.underlying47 YM rfl (KW k _ rfl rfl) (bndN _) (by omega) (by omega) rfl ?_
  have hv2 : Ent (rowT inC (.slice ac S.cache.length cc) S.cache) (RdL inC (YK 1 (.slice ac S.cache.length cc) k S.cache.length) (S.cache.drop k)) := fun hq => by have q := Mv (C := inC) (A := k) (B := S.cache.length) (by omega) (by omega) (by omega) hccl hq; rwa [List.take_of_length_le (by omega)] at q
  have hC22 := hS13.split [] [false, false, false, false, false, false, false, false, false] rfl; dsimp only [QC, Qz, Q9, Q8, Q7] at hC22
  refine Qo Df rfl (Ur hC22 (Ent.starL hv2 3 rfl) (by rw [List.length_drop]; omega)) rfl ?_
  rintro e w22 ⟨_, rfl, hS22⟩; refine ⟨_, rfl, ?_⟩
  replace hS22 := hS22.join rfl; dsimp only [QU, QT, Q8, Q7] at hS22; clear hC22
  clear hS13
  obtain ⟨na, nc, hnv, _⟩ := hS22.own_shape 0 rfl
  obtain rfl := hnv
  refine Qb rfl rfl ?_
  refine ZK inC [id] hS22 rfl Tryz.underlying47 KF rfl rfl rfl rfl (by rfl) rfl ?_
  intro b23 w23 hS23
  clear hS22
  refine WY inC 1 hS23 rfl rfl rfl (hS23.rd 0 rfl (by simp)) Tryz.underlying47 Tryz.underlying47 (by intro k hk; cases hk) Bq rfl (by simp only [List.length_cons, List.length_nil, List.length_drop]; omega) rfl (by simp only [List.length_cons, List.length_nil, List.length_drop]; omega) ?_
  intro v24 w24 hS24; dsimp only [List.set] at hS24
  clear hS23
  have h1v24 : v24.oneCell' = true := hS24.own_one 1 rfl
  refine Qj rfl rfl ?_
  refine Qg rfl ZO rfl ?_
  first | (refine Xb hS24 rfl rfl K9 (by assumption) (i := 2) rfl (by exact Nat.le_of_ble_eq_true rfl) ?_)
  intro w25 hS26; dsimp only [List.set] at hS26
  clear hS24
  refine Qf (Qc ?_)
  refine Qh (L' := [(0, _), (1, _), (7, _)]) (Y2 rfl rfl rfl) ?_
  refine Qd ?_
  have hS27 := hS26.drew
  refine QK [0, 1, 2, 3, 4, 5, 6, 7, 8, 9, 10, 11, 12, 13, 14] [14] ZT (by kernel_rfl) ?_
  refine Qk rfl rfl rfl (fun _ => (Qr rfl)) ?_
  refine Qk rfl rfl rfl (fun _ => (Qq rfl)) ?_
  refine Qk rfl rfl rfl (fun _ => (Qi rfl X8)) ?_
  refine QF rfl rfl rfl (Qm rfl XS (by exact hS27.cell 2 rfl rfl)) ?_
  refine Qk rfl rfl rfl (fun _ => (Qr rfl)) ?_
  refine Qk rfl rfl rfl (fun _ => (Qr rfl)) ?_
  refine Qk rfl rfl rfl (fun _ => (Qq rfl)) ?_
  refine Qk rfl rfl rfl (fun _ => (Qi rfl X8)) ?_
  refine QF rfl rfl rfl (Qm rfl XS (by exact hS27.cell 2 rfl rfl)) ?_
  refine Qk rfl rfl rfl (fun _ => (Qr rfl)) ?_
  refine QF rfl rfl rfl (Xz (k := id) 3 hS27 keysInt Tryz.underlying108 rfl rfl rfl X5 (u := (.agg #[intV x.refs, intV x.place, intV x.at_, strV (UQ x)])) (W3 hx1)) ?_
  refine Qk rfl rfl rfl (fun _ => (VE Vw rfl rfl)) ?_
  refine Qk rfl rfl rfl (fun _ => (Qr rfl)) ?_
  refine Qk rfl rfl rfl (fun _ => (Ws rfl BM YB X5 rfl)) ?_
  refine Xn rfl rfl rfl rfl rfl rfl ?_
  have hsv28 : Value.agg #[intV x.refs, intV 2, intV 0, strV f] = TM ⟨x.refs, 2, 0, x.pg⟩ := by unfold TM UQ fm; simp [hpm]
  refine X1 (k := id) (v := Value.agg #[intV x.refs, intV 2, intV 0, strV f]) 3 hS27 keysInt Tryz.underlying108 rfl rfl rfl rfl ?_
  intro w28 hS28a; dsimp only [List.set] at hS28a; have hS28 := hS28a; rw [hsv28, U8] at hS28
  clear hS27
  refine Zi (.skip (by kernel_rfl) (.skip (by kernel_rfl) (.skip (by kernel_rfl) .nil))) ?_
  refine VC.nil (Qc ?_)
  refine Qh (L' := []) .nil ?_
  refine Qd (Qa (Qe rfl rfl (Qf (Qc (Q0 ?_)))))
  refine QV (.inr rfl) rfl rfl ?_
  have hc1 : S1.cache = S.cache.drop k := by rw [hC0, show i = k by omega]
  have hsm : Wc S1.all S1.cache = Wc S.all (S.cache.drop k) := by rw [hc1]; exact Ba fun j _ => by have := hP1.go.same j; cases hq : S1.all j <;> cases hq2 : S.all j <;> simp_all
  have hSe : ({ S1 with all := up S1.all id (some ⟨x.refs, 2, 0, x.pg⟩), cache := S1.cache ++ [id] } : SS) = ⟨up S1.all id (some ⟨x.refs, 2, 0, x.pg⟩), S.inn, S1.cache ++ [id], S.fr, S1.sl, S.ck, S.slots, S.budget, S.next, S.taken⟩ := by rw [← hP1.inn, ← hP1.fr, ← hP1.ck, ← hP1.tak, ← hP1.go.bud, ← hP1.go.slo, ← hP1.go.nxt]
  exact ⟨_, rfl, .inr ⟨f, S1, rfl, rfl, hI1, hP1, by rw [hsm, hP1.go.bud]; omega, by rw [hSe, hc1]; exact QP (hS28.pick [2, 3, 4, 1, 6, 7, 8, 9, 10] rfl)⟩⟩
end Go.Proofs.YtkcjfoaejijdoaaGreatDoor
