/- leaves: in plain data; there, Begin, sees, ref, unref, hold, set -/
import Derived.Test.YtkcjfoaejijdoaaGreatDoorSh13
namespace Go.Proofs.YtkcjfoaejijdoaaGreatDoor
open Go.RowKit M
set_option linter.unusedVariables false
abbrev KD := Bs × Int
structure LfD where
  ad : Nat
  base : Int
  own : Int
  rd : BitVec 64
  wr : BitVec 64
structure TrD where
  ad : Nat
  ml : Nat
  md : Nat
  parent : Int
  lv : KD → Option LfD
  dr : Bs → Bool
structure LvD where
  sp : Nat
  mp : Nat
  mt : Nat
  ms : Nat
  pres : KD → Int
  tr : Int → Option TrD
  cur : Int
  sh : Int → Bool
def lfV (x : LfD) : List Value := [intV x.base, intV x.own, XG x.rd, XG x.wr]
def Ka (x : LfD) : Th := QO x.ad (lfV x)
def Jc {κ : Type} (f : κ → Bool) : κ → Option Value := fun s => if f s = true then some (.bool true) else none
open Classical in
noncomputable def JF {κ : Type} (f : κ → Bool) (k : κ) : κ → Bool := fun j => if j = k then true else f j
theorem Ds {κ : Type} (f : κ → Bool) (k : κ) : (Jc f k).getD (.bool false) = .bool (f k) := by
  unfold Jc; split
  · rename_i h; rw [h]; rfl
  · rename_i h; simp at h; rw [h]; rfl
theorem Dr {κ : Type} (f : κ → Bool) (k : κ) : upd (Jc f) k (some (.bool true)) = Jc (JF f k) := by
  funext j
  by_cases h : j = k
  · subst h; rw [ZD]; unfold Jc JF; simp
  · rw [W5 h]; unfold Jc JF; simp [h]
theorem boG_nil {κ : Type} : Jc (fun _ : κ => false) = fun _ => none := by funext k; simp [Jc]
def Zo (p : KD → Int) : KD → Option Value := fun k => if p k = 0 then none else some (intV (p k))
theorem Ko (p : KD → Int) (k : KD) : (Zo p k).getD (intV 0) = intV (p k) := by
  unfold Zo; split
  · rename_i h; rw [h]; rfl
  · rfl
theorem Nd : Zo (fun _ => 0) = fun _ => none := by funext k; simp [Zo]
open Classical in
noncomputable def XZ (p : KD → Int) (k : KD) (s : Int) : KD → Int := fun j => if j = k then s else p j
theorem Nc {p : KD → Int} {k : KD} {s : Int} (h : s ≠ 0) : upd (Zo p) k (some (intV s)) = Zo (XZ p k s) := by
  funext j
  by_cases e : j = k
  · subst e; rw [ZD]; unfold Zo XZ; simp [h]
  · rw [W5 e]; unfold Zo XZ; simp [e]
theorem Nf {p : KD → Int} {k : KD} {v : Option Value} : upd (upd (Zo p) k v) k none = Zo (XZ p k 0) := by
  funext j
  by_cases e : j = k
  · subst e; rw [ZD]; unfold Zo XZ; simp
  · rw [W5 e, W5 e]; unfold Zo XZ; simp [e]
/-- the pointer to what a key has -/
def ptO {α : Type} (ad : α → Nat) (o : Option α) : Value := match o with | none => .pointer none | some x => ptrV (ad x) 0
theorem Ug {κ α : Type} {ad : α → Nat} {f : κ → Option α} (k : κ) : (XV ad f k).getD (.pointer none) = ptO ad (f k) := by
  unfold XV ptO; cases f k <;> rfl
def Zh {κ α : Type} (th : α → Th) (f : κ → Option α) : Th := MC fun k => (f k).map th
theorem MD {κ α : Type} {th : α → Th} {f : κ → Option α} {k : κ} {x : α} : Xj (fun k => (f k).map th) k (some (th x)) = fun j => ((Xj f k (some x)) j).map th := by
  funext j
  by_cases h : j = k
  · subst h; rw [Q3, Q3]; rfl
  · rw [QI h, QI h]
theorem SX {κ α : Type} {th : α → Th} {f : κ → Option α} {k : κ} : Xj (fun k => (f k).map th) k none = fun j => ((Xj f k none) j).map th := by
  funext j
  by_cases h : j = k
  · subst h; rw [Q3, Q3]; rfl
  · rw [QI h, QI h]
section
variable {w : World} {As : List Th}
theorem B3 {κ α : Type} {th : α → Th} {f : κ → Option α} {k : κ} {x : α} (h : Sat w (Zh th f :: As)) (hk : f k = some x) : Sat w (th x :: Zh th (Xj f k none) :: As) := by
  have h1 := SW (k := k) (A := th x) h (by show (f k).map th = _; rw [hk]; rfl)
  rw [SX] at h1
  exact h1
theorem K4 {κ α : Type} {th : α → Th} {f : κ → Option α} {k : κ} {x : α} (h : Sat w (th x :: Zh th (Xj f k none) :: As)) : Sat w (Zh th (Xj f k (some x)) :: As) := by
  have h1 := C5 (h := fun j => ((Xj f k none) j).map th) (k := k) h (by show ((Xj f k none) k).map th = none; rw [Q3]; rfl)
  rw [MD, Hh] at h1
  exact h1
theorem B4 {κ α : Type} {th : α → Th} {f : κ → Option α} {k : κ} {x : α} (h : Sat w (th x :: Zh th (Xj f k none) :: As)) (hk : f k = some x) : Sat w (Zh th f :: As) := by
  have h1 := K4 h
  rwa [Yk hk] at h1
theorem MF {κ α : Type} {th : α → Th} {f : κ → Option α} {k : κ} {x : α} (h : Sat w (th x :: Zh th f :: As)) (hk : f k = none) : Sat w (Zh th (Xj f k (some x)) :: As) := by
  have h1 := C5 (h := fun j => (f j).map th) (k := k) h (by show (f k).map th = none; rw [hk]; rfl)
  rw [MD] at h1
  exact h1
theorem ME {κ α : Type} (th : α → Th) (h : Sat w As) : Sat w (Zh th (fun _ : κ => none) :: As) := NP h
end
def trV (t : TrD) : List Value := [intV t.parent, .map (some t.ml), .map (some t.md)]
def UW (t : TrD) : Th := starL [QO t.ad (trV t), QH Xu t.ml (XV LfD.ad t.lv), Zh Ka t.lv, QH WM t.md (Jc t.dr)]
def lvV (L : LvD) : List Value := [ptrV L.sp 0, .map (some L.mp), .map (some L.mt), intV L.cur, .map (some L.ms)]
def ZV (b : Nat) (L : LvD) : Th := starL [QO b (lvV L), QH Xu L.mp (Zo L.pres), QH Xd L.mt (XV TrD.ad L.tr), Zh UW L.tr, QH Xd L.ms (Jc L.sh)]
section
variable {w : World} {As : List Th}
theorem XQ {b : Nat} {L : LvD} (h : Sat w (ZV b L :: As)) : Sat w (QO b [ptrV L.sp 0, .map (some L.mp), .map (some L.mt), intV L.cur, .map (some L.ms)] :: QH Xu L.mp (Zo L.pres) :: QH Xd L.mt (XV TrD.ad L.tr) :: Zh UW L.tr :: QH Xd L.ms (Jc L.sh) :: As) := h.flat
theorem QY {b : Nat} {L : LvD} (h : Sat w (QO b [ptrV L.sp 0, .map (some L.mp), .map (some L.mt), intV L.cur, .map (some L.ms)] :: QH Xu L.mp (Zo L.pres) :: QH Xd L.mt (XV TrD.ad L.tr) :: Zh UW L.tr :: QH Xd L.ms (Jc L.sh) :: As)) : Sat w (ZV b L :: As) := Sat.fold (As := [QO b (lvV L), QH Xu L.mp (Zo L.pres), QH Xd L.mt (XV TrD.ad L.tr), Zh UW L.tr, QH Xd L.ms (Jc L.sh)]) h
theorem Z5 {T : Int → Option TrD} {i : Int} {t : TrD} (h : Sat w (Zh UW T :: As)) (hk : T i = some t) : Sat w (QO t.ad [intV t.parent, .map (some t.ml), .map (some t.md)] :: QH Xu t.ml (XV LfD.ad t.lv) :: Zh Ka t.lv :: QH WM t.md (Jc t.dr) :: Zh UW (Xj T i none) :: As) := (B3 h hk).flat
theorem RA {t : TrD} (h : Sat w (QO t.ad [intV t.parent, .map (some t.ml), .map (some t.md)] :: QH Xu t.ml (XV LfD.ad t.lv) :: Zh Ka t.lv :: QH WM t.md (Jc t.dr) :: As)) : Sat w (UW t :: As) := Sat.fold (As := [QO t.ad (trV t), QH Xu t.ml (XV LfD.ad t.lv), Zh Ka t.lv, QH WM t.md (Jc t.dr)]) h
theorem Z6 {T : Int → Option TrD} {i : Int} {t : TrD} (hk : T i = some t) (h : Sat w (QO t.ad [intV t.parent, .map (some t.ml), .map (some t.md)] :: QH Xu t.ml (XV LfD.ad t.lv) :: Zh Ka t.lv :: QH WM t.md (Jc t.dr) :: Zh UW (Xj T i none) :: As)) : Sat w (Zh UW T :: As) := B4 (RA h) hk
theorem Ve {T : Int → Option TrD} {i : Int} {t : TrD} (h : Sat w (QO t.ad [intV t.parent, .map (some t.ml), .map (some t.md)] :: QH Xu t.ml (XV LfD.ad t.lv) :: Zh Ka t.lv :: QH WM t.md (Jc t.dr) :: Zh UW (Xj T i none) :: As)) : Sat w (Zh UW (Xj T i (some t)) :: As) := K4 (RA h)
theorem Yu {f : KD → Option LfD} {k : KD} {x : LfD} (h : Sat w (Zh Ka f :: As)) (hk : f k = some x) : Sat w (QO x.ad [intV x.base, intV x.own, XG x.rd, XG x.wr] :: Zh Ka (Xj f k none) :: As) := B3 h hk
theorem Z7 {f : KD → Option LfD} {k : KD} {x : LfD} (hk : f k = some x) (h : Sat w (QO x.ad [intV x.base, intV x.own, XG x.rd, XG x.wr] :: Zh Ka (Xj f k none) :: As)) : Sat w (Zh Ka f :: As) := B4 (th := Ka) h hk
theorem Sa {f : KD → Option LfD} {k : KD} {x : LfD} (h : Sat w (QO x.ad [intV x.base, intV x.own, XG x.rd, XG x.wr] :: Zh Ka (Xj f k none) :: As)) : Sat w (Zh Ka (Xj f k (some x)) :: As) := K4 (th := Ka) h
theorem TX {f : KD → Option LfD} {k : KD} {x : LfD} (hk : f k = none) (h : Sat w (QO x.ad [intV x.base, intV x.own, XG x.rd, XG x.wr] :: Zh Ka f :: As)) : Sat w (Zh Ka (Xj f k (some x)) :: As) := MF (th := Ka) h hk
end
/-- the sheet that is seen -/
def WO (L : LvD) : Nat → Int → KD → Int
  | 0, _, _ => 0
  | n + 1, id, k => if id = 0 then L.pres k else match L.tr id with | none => 0 | some t => match t.lv k with | some x => x.own | none => if t.dr k.1 = true then 0 else WO L n t.parent k
/-- the chain of parents ends -/
def JI (T : Int → Option TrD) : Nat → Int → Prop
  | 0, id => id = 0
  | n + 1, id => id = 0 ∨ match T id with | none => True | some t => JI T n t.parent
def Z9 : Nat := 100000
def Xo (L : LvD) (id : Int) (k : KD) : Int := WO L (Z9 + 1) id k
def ZY (L : LvD) (id : Int) : Bool := decide (id = 0) || (L.tr id).isSome
noncomputable def refW (V : VS) (s : Int) : VS := if s = 0 then V else YO V s
noncomputable def Jx (f : Int → Bool) (s : Int) : Int → Bool := if s = 0 then f else JF f s
noncomputable def Jt (V : VS) (f : Int → Bool) (s : Int) : Int → Bool := if 0 < Za (Zg V s) s then JF f s else f
theorem keysKey : KeyOk Tryz.prog 76 Xu := Sb Tryz.underlying76 (by kernel_rfl) Tryz.underlying9 Tryz.underlying3 rfl rfl rfl rfl (by decide) (by decide)
set_option maxRecDepth 100000 in
theorem Ym {w : World} {b : Nat} {L : LvD} {F : Th} (hS : Sat w [ZV b L, F]) (id : Int) :
    Calls Tryz.prog 43 #[ptrV b 0, intV id] w (Ret fun v w' => v = .bool (ZY L id) ∧ Sat w' [ZV b L, F]) := by
 replace hS := XQ hS
 refine Qt Tryz.func43 rfl Tryz.ntmps43 rfl ?_
 refine Qd (Qa (Qe rfl rfl (Qf (Qc (Qd (Qa (Qb rfl rfl ?_)))))))
 refine X2 rfl rfl rfl ?_
 refine Qb rfl rfl ?_
 refine Xk 7 rfl (fun h1 => ?_) (fun h1 => ?_)
 ·refine Ql rfl rfl (decide_eq_true h1) rfl ?_
  refine Ql rfl rfl (decide_eq_true h1) rfl ?_
  refine Ql rfl rfl (decide_eq_true h1) rfl ?_
  refine Ql rfl rfl (decide_eq_true h1) rfl ?_
  refine Ql rfl rfl (decide_eq_true h1) rfl ?_
  refine Ql rfl rfl (decide_eq_true h1) rfl ?_
  refine Ql rfl rfl (decide_eq_true h1) rfl ?_
  refine Xg rfl (decide_eq_true h1) rfl rfl ?_
  refine Qe rfl rfl (Qf (Qc ?_))
  refine Qh (L' := [(4, _)]) (Hd rfl) ?_
  refine Q0 ?_
  refine QV (.inr rfl) rfl rfl ?_
  exact ⟨_, rfl, by simp [ZY, *], QY (hS.pick [0, 1, 2, 3, 4, 5] rfl)⟩
 refine Qn rfl rfl (decide_eq_false h1) ?_
 refine Qb rfl rfl ?_
 refine Qn rfl rfl (decide_eq_false h1) ?_
 refine Qj rfl rfl ?_
 refine Qn rfl rfl (decide_eq_false h1) ?_
 refine Qg rfl Wz rfl ?_
 refine Qn rfl rfl (decide_eq_false h1) ?_
 refine Qu rfl YD (by exact hS.cell 0 rfl rfl) rfl ?_
 refine Qn rfl rfl (decide_eq_false h1) ?_
 refine Qb rfl rfl ?_
 refine Qn rfl rfl (decide_eq_false h1) ?_
 refine Ze (k := id) 2 hS keysInt Tryz.underlying82 rfl rfl rfl H1 (u := (ptO TrD.ad (L.tr id))) (Ug _) rfl ?_
 refine Qn rfl rfl (decide_eq_false h1) ?_
 rcases hq_T : L.tr id with _ | t
 ·refine Jd Tryz.underlying94 rfl rfl rfl ?_
  refine QX rfl (decide_eq_false h1) rfl rfl ?_
  refine Qe rfl rfl (Qf (Qc ?_))
  refine Qh (L' := [(4, _)]) (Hd rfl) ?_
  refine Q0 ?_
  refine QV (.inr rfl) rfl rfl ?_
  exact ⟨_, rfl, by simp [ZY, *], QY (hS.pick [0, 1, 2, 3, 4, 5] rfl)⟩
 refine YJ Tryz.underlying94 rfl rfl rfl ?_
 refine QX rfl (decide_eq_false h1) rfl rfl ?_
 refine Qe rfl rfl (Qf (Qc ?_))
 refine Qh (L' := [(4, _)]) (Hd rfl) ?_
 refine Q0 ?_
 refine QV (.inr rfl) rfl rfl ?_
 exact ⟨_, rfl, by simp [ZY, *], QY (hS.pick [0, 1, 2, 3, 4, 5] rfl)⟩
def WJ (L : LvD) (id parent : Int) : Int := if id < 1 then 1 else if (L.tr id).isSome = true then 5 else if ZY L parent = false then 4 else 0
noncomputable def MG (L : LvD) (id parent : Int) (a ml md : Nat) : LvD := if WJ L id parent = 0 then { L with tr := Xj L.tr id (some ⟨a, ml, md, parent, fun _ => none, fun _ => false⟩) } else L
set_option maxRecDepth 100000 in
theorem SY {w : World} {b : Nat} {L : LvD} {F : Th} (hS : Sat w [ZV b L, F]) (id parent : Int) :
    Calls Tryz.prog 11 #[ptrV b 0, intV id, intV parent] w (Ret fun v w' => v = intV (WJ L id parent) ∧ ∃ a ml md, Sat w' [ZV b (MG L id parent a ml md), F]) := by
 replace hS := XQ hS
 refine Qt Tryz.func11 rfl Tryz.ntmps11 rfl ?_
 refine Qd (Qa (Qe rfl rfl (Qf (Qc (Qd (Q1 (Qd (Qa (Qb rfl rfl ?_)))))))))
 refine Xt rfl rfl rfl ?_
 refine Qe rfl rfl (Qf (Qc ?_))
 refine Qx rfl (fun h1 => ?_) (fun h1 => ?_)
 ·refine Qd (Qa (Qe rfl rfl (Qf (Qc (Q0 (QE (Qs ?_)))))))
  refine QV (.inr rfl) rfl rfl ?_
  have hE : WJ L id parent = 1 := by unfold WJ; rw [if_pos (by assumption)]
  exact ⟨_, rfl, by rw [hE], 0, 0, 0, by unfold MG; rw [if_neg (by rw [hE]; decide)]; exact QY (hS.pick [0, 1, 2, 3, 4, 5] rfl)⟩
 refine Qd (Qa (Qb rfl rfl (Qj rfl rfl ?_)))
 refine Qg rfl Wz rfl ?_
 refine Qu rfl YD (by exact hS.cell 0 rfl rfl) rfl ?_
 refine Qb rfl rfl ?_
 refine Ze (k := id) 2 hS keysInt Tryz.underlying82 rfl rfl rfl H1 (u := (ptO TrD.ad (L.tr id))) (Ug _) rfl ?_
 rcases hq_T : L.tr id with _ | t
 ·refine Jd Tryz.underlying94 rfl rfl rfl ?_
  refine Qe rfl rfl (Qf (Qc ?_))
  refine Qh (L' := [(10, _), (6, _), (0, _), (1, _), (2, _)]) (ZH rfl rfl rfl rfl rfl) ?_
  refine Xm rfl ?_
  refine Qd ?_
  have hS2 := QY (L := L) (hS.pick [0, 1, 2, 3, 4, 5] rfl)
  refine Qa (Qb rfl rfl (Qb rfl rfl ?_))
  have hC3 := hS2.split [0] [true, false] rfl; dsimp only [QC, Qz, Q9, Q8, Q7] at hC3
  refine Qo UU rfl (Ym hC3 parent) rfl ?_
  rintro e w3 ⟨_, rfl, rfl, hS3⟩; refine ⟨_, rfl, ?_⟩
  replace hS3 := hS3.join rfl; dsimp only [QU, QT, Q8, Q7] at hS3; clear hC3
  clear hS2
  refine QS rfl rfl ?_
  refine Qe rfl rfl (Qf (Qc ?_))
  refine QR rfl (fun h4 => ?_) (fun h4 => ?_)
  ·have hth : ZY L parent = false := by simpa using h4
   refine Qd (Qa (Qe rfl rfl (Qf (Qc (Q0 (QE (Qs ?_)))))))
   refine QV (.inr rfl) rfl rfl ?_
   have hE : WJ L id parent = 4 := by unfold WJ; rw [if_neg (by assumption), if_neg (by rw [hq_T]; decide), if_pos hth]
   exact ⟨_, rfl, by rw [hE], 0, 0, 0, by unfold MG; rw [if_neg (by rw [hE]; decide)]; exact hS3.pick [0, 1] rfl⟩
  have hth : ZY L parent = true := by simpa using h4
  refine Qy (Qp (Qc (Qd ?_)))
  have hS5 := XQ (hS3.pick [0, 1] rfl)
  refine Qa (Qb rfl rfl (Qj rfl rfl ?_))
  refine Qg rfl Wz rfl ?_
  refine Qu rfl YD (by exact hS5.cell 0 rfl rfl) rfl ?_
  refine Qb rfl rfl (Qb rfl rfl ?_)
  refine ZC Xu hS5 rfl ?_
  intro nl w6 hS6
  clear hS5
  refine ZC WM hS6 rfl ?_
  intro nd w7 hS7
  clear hS6
  refine Zy rfl DW asz_93 zr_93 rfl rfl ?_
  refine Zf hS7 rfl rfl rfl ?_
  intro ta w8 hS8
  clear hS7
  refine X1 (k := id) (v := ptrV ta 0) 5 hS8 keysInt Tryz.underlying82 rfl rfl rfl rfl ?_
  intro w9 hS9; dsimp only [List.set] at hS9
  clear hS8
  refine Qf (Qc ?_)
  refine Qh (L' := [(6, _)]) (Hd rfl) ?_
  refine Qd (Qa (Qe rfl rfl (Qf (Qc (Q0 ?_)))))
  refine QV (.inr rfl) rfl rfl ?_
  have hE : WJ L id parent = 0 := by unfold WJ; rw [if_neg (by assumption), if_neg (by rw [hq_T]; decide), if_neg (by rw [hth]; decide)]
  have hA := ME (κ := KD) Ka (hS9.pick [0, 2, 1, 6, 3, 4, 5, 7, 8] rfl)
  have hB := MF (RA (t := (⟨ta, nl, nd, parent, fun _ => none, fun _ => false⟩ : TrD)) (hA.reorder [1, 2, 0, 3, 4, 5, 6, 7, 8, 9] rfl)) hq_T
  have hC := hB.reorder [1, 2, 3, 0, 4, 5] rfl
  rw [DU (x := (⟨ta, nl, nd, parent, fun _ => none, fun _ => false⟩ : TrD))] at hC
  exact ⟨_, rfl, by rw [hE], ta, nl, nd, by unfold MG; rw [if_pos hE]; exact QY (L := { L with tr := Xj L.tr id (some (⟨ta, nl, nd, parent, fun _ => none, fun _ => false⟩ : TrD)) }) hC⟩
 refine YJ Tryz.underlying94 rfl rfl rfl ?_
 refine Qe rfl rfl (Qf (Qc ?_))
 refine Qh (L' := [(10, _), (6, _), (0, _), (1, _), (2, _)]) (ZH rfl rfl rfl rfl rfl) ?_
 refine XP rfl ?_
 refine Qd (Qa (Qe rfl rfl (Qf (Qc (Q0 (QE (Qs ?_)))))))
 refine QV (.inr rfl) rfl rfl ?_
 have hE : WJ L id parent = 5 := by unfold WJ; rw [if_neg (by assumption), if_pos (by rw [hq_T]; rfl)]
 exact ⟨_, rfl, by rw [hE], 0, 0, 0, by unfold MG; rw [if_neg (by rw [hE]; decide)]; exact QY (hS.pick [0, 1, 2, 3, 4, 5] rfl)⟩
theorem Jw {L : LvD} {n : Nat} {id : Int} {k : KD} (h : id = 0) : WO L (n + 1) id k = L.pres k := by unfold WO; rw [if_pos h]
theorem Bd {L : LvD} {n : Nat} {id : Int} {k : KD} (h : id ≠ 0) (ht : L.tr id = none) : WO L (n + 1) id k = 0 := by unfold WO; rw [if_neg h, ht]
theorem YN {L : LvD} {n : Nat} {id : Int} {k : KD} {t : TrD} {x : LfD} (h : id ≠ 0) (ht : L.tr id = some t) (hx : t.lv k = some x) : WO L (n + 1) id k = x.own := by unfold WO; rw [if_neg h, ht]; dsimp only; rw [hx]
theorem Bf {L : LvD} {n : Nat} {id : Int} {k : KD} {t : TrD} (h : id ≠ 0) (ht : L.tr id = some t) (hx : t.lv k = none) (hd : t.dr k.1 = true) : WO L (n + 1) id k = 0 := by unfold WO; rw [if_neg h, ht]; dsimp only; rw [hx]; dsimp only; rw [if_pos hd]
theorem TN {L : LvD} {n : Nat} {id : Int} {k : KD} {t : TrD} (h : id ≠ 0) (ht : L.tr id = some t) (hx : t.lv k = none) (hd : t.dr k.1 = false) : WO L (n + 1) id k = WO L n t.parent k := by rw [WO, if_neg h, ht]; dsimp only; rw [hx]; dsimp only; rw [if_neg (by rw [hd]; decide)]
theorem Cj {T : Int → Option TrD} {n : Nat} {id : Int} {t : TrD} (h : JI T n id) (h0 : id ≠ 0) (ht : T id = some t) : ∃ m, n = m + 1 ∧ JI T m t.parent := by
  cases n with
  | zero => exact absurd h h0
  | succ n =>
    rcases h with h | h
    · exact absurd h h0
    · rw [ht] at h; exact ⟨n, rfl, h⟩
set_option maxRecDepth 100000 in
set_option maxHeartbeats 800000000 in
theorem Hk {w : World} {b : Nat} {L : LvD} {F : Th} (hS : Sat w [ZV b L, F]) (hE : ∀ i, JI L.tr Z9 i) (id : Int) (k : KD) :
    Calls Tryz.prog 48 #[ptrV b 0, intV id, Xu k] w (Ret fun v w' => v = intV (Xo L id k) ∧ Sat w' [ZV b L, F]) := by
 replace hS := XQ hS
 refine Qt Tryz.func48 rfl Tryz.ntmps48 rfl ?_
 refine Qd (Qa ?_)
 refine Zf hS rfl rfl rfl ?_
 intro kb w1 hS1
 change Sat w1 [QO kb [strV k.1, intV k.2], _, _, _, _, _, _] at hS1
 refine Qe rfl rfl (Qf (Qc (Qd (Q1 ?_))))
 refine Xw (fun K0 E0 W0 => ∃ (m : Nat) (i : Int), K0 = m + 1 ∧ E0 = [(0, ptrV b 0), (1, intV i), (5, ptrV kb 0)] ∧ Sat W0 [QO kb [strV k.1, intV k.2], QO b [ptrV L.sp 0, .map (some L.mp), .map (some L.mt), intV L.cur, .map (some L.ms)], QH Xu L.mp (Zo L.pres), QH Xd L.mt (XV TrD.ad L.tr), Zh UW L.tr, QH Xd L.ms (Jc L.sh), F] ∧ (Xo L id k = WO L (m + 1) i k) ∧ (JI L.tr m i) ∧ (m ≤ Z9)) (L0 := [(0, _), (1, _), (5, _)]) (Z9 + 1) (Y2 rfl rfl rfl) ⟨Z9, id, rfl, rfl, hS1, rfl, hE id, Nat.le_refl _⟩ ?_
 rintro _ _ w2 ⟨m, i, rfl, rfl, hS2, hse, hen, hm⟩
 refine Qd (Qd (Qa (Qb rfl rfl ?_)))
 refine Xh rfl rfl rfl ?_
 refine Qf (Qc ?_)
 refine Qx rfl (fun h3 => ?_) (fun h3 => ?_)
 ·have hid0 : i ≠ 0 := h3
  refine Qy (Qc (Q1 (Qd (Qa (Qb rfl rfl (Qj rfl rfl ?_))))))
  refine Qg rfl Wz rfl ?_
  refine Qu rfl YD (by exact hS2.cell 1 rfl rfl) rfl ?_
  refine Qb rfl rfl ?_
  refine Ze (k := i) 3 hS2 keysInt Tryz.underlying82 rfl rfl rfl H1 (u := (ptO TrD.ad (L.tr i))) (Ug _) rfl ?_
  refine Qe rfl rfl (Qf (Qc ?_))
  refine Qh (L' := [(7, _), (0, _), (1, _), (5, _)]) (Jr rfl rfl rfl rfl) ?_
  refine Qd (Qd (Qa (Qb rfl rfl ?_)))
  rcases hq_T : L.tr i with _ | t
  ·refine Je Tryz.underlying94 rfl rfl rfl ?_
   refine Qf (Qc ?_)
   refine XP rfl ?_
   refine Qd (Qa (Qe rfl rfl (Qf (Qc (Q0 (Qs (QE (Qs (QE (Qs ?_))))))))))
   refine QV (.inr rfl) rfl rfl ?_
   exact ⟨_, rfl, by rw [hse, Bd hid0 hq_T], QY (hS2.pick [1, 2, 3, 4, 5, 6] rfl)⟩
  refine ZX Tryz.underlying94 rfl rfl rfl ?_
  have hS4 := Z5 (hS2.pick [4, 0, 1, 2, 3, 5, 6] rfl) hq_T
  refine Qf (Qc ?_)
  refine Xm rfl ?_
  refine Qy (Qc (Qd (Qd ?_)))
  have hS5 := hS4.drew
  refine QK [0, 1, 2, 3, 4, 5, 6] [] ZT (by kernel_rfl) ?_
  refine Qk rfl rfl rfl (fun _ => (Qr rfl)) ?_
  refine Qk rfl rfl rfl (fun _ => (Qq rfl)) ?_
  refine Qk rfl rfl rfl (fun _ => (Qi rfl ZN)) ?_
  refine QF rfl rfl rfl (Qm rfl Jq (by exact hS5.cell 0 rfl rfl)) ?_
  refine QF rfl rfl rfl (X9 rfl XB Xc (by exact hS5.blk 5 rfl) (by exact Nat.le_of_ble_eq_true rfl) rfl) ?_
  refine QF rfl rfl rfl (Xz (k := k) 1 hS5 keysKey Tryz.underlying90 rfl rfl rfl Hz (u := (ptO LfD.ad (t.lv k))) (Ug _)) ?_
  refine Qk rfl rfl rfl (fun _ => (Q6 rfl)) ?_
  refine VC.nil (Qc ?_)
  refine Qh (L' := [(8, _), (7, _), (0, _), (1, _), (5, _)]) (ZH rfl rfl rfl rfl rfl) ?_
  refine Qd (Qa (Qb rfl rfl ?_))
  rcases hq_X : t.lv k with _ | x
  ·refine Jd Tryz.underlying89 rfl rfl rfl ?_
   refine Qf (Qc ?_)
   refine Xm rfl ?_
   refine Qy (Qc (Qd (Qd ?_)))
   have hS7 := hS5.drew
   refine QK [0, 1, 2, 3, 4, 5, 6] [] ZT (by kernel_rfl) ?_
   refine Qk rfl rfl rfl (fun _ => (Qr rfl)) ?_
   refine Qk rfl rfl rfl (fun _ => (Qq rfl)) ?_
   refine Qk rfl rfl rfl (fun _ => (Qi rfl Vz)) ?_
   refine QF rfl rfl rfl (Qm rfl B7 (by exact hS7.cell 0 rfl rfl)) ?_
   refine Qk rfl rfl rfl (fun _ => (Qi rfl JQ)) ?_
   refine QF rfl rfl rfl (Qm rfl Yz (by exact hS7.cell 5 rfl rfl)) ?_
   refine QF rfl rfl rfl (Xz (k := k.1) 3 hS7 keysStr Tryz.underlying91 rfl rfl rfl zr_4 (u := .bool (t.dr k.1)) (Ds _ _)) ?_
   refine VC.nil (Qc ?_)
   refine Qh (L' := [(37, _), (7, _), (0, _), (1, _), (5, _)]) (ZH rfl rfl rfl rfl rfl) ?_
   refine QR rfl (fun h8 => ?_) (fun h8 => ?_)
   ·have hdr : t.dr k.1 = true := h8
    refine Qd (Qa (Qe rfl rfl (Qf (Qc (Q0 (Qs (QE (Qs (QE (Qs ?_))))))))))
    refine QV (.inr rfl) rfl rfl ?_
    have hS9 := Z6 hq_T (hS7.pick [0, 1, 2, 3, 4, 5, 6, 7, 8, 9, 10] rfl)
    exact ⟨_, rfl, by rw [hse, Bf hid0 hq_T hq_X hdr], QY (hS9.pick [2, 3, 4, 0, 5, 6] rfl)⟩
   have hdr : t.dr k.1 = false := h8
   refine Qy (Qc (Qa (Qb rfl rfl (Qj rfl rfl ?_))))
   refine Qg rfl J3 rfl ?_
   refine Qu rfl QW (by exact hS7.cell 0 rfl rfl) rfl ?_
   refine Qe rfl rfl (Qf (Qp ?_))
   have hS10 := Z6 hq_T (hS7.pick [0, 1, 2, 3, 4, 5, 6, 7, 8, 9, 10] rfl)
   obtain ⟨m2, hm2, hen2⟩ := Cj hen hid0 hq_T
   exact QG (L1 := [(0, _), (1, intV t.parent), (5, _)]) (Y2 rfl rfl rfl) (k1 := m2 + 1) (by omega) ⟨m2, t.parent, rfl, rfl, hS10.pick [1, 2, 3, 4, 0, 5, 6] rfl, by rw [hse, hm2, TN hid0 hq_T hq_X hdr], hen2, by omega⟩
  refine YJ Tryz.underlying89 rfl rfl rfl ?_
  have hS6 := Yu (hS5.pick [2, 0, 1, 3, 4, 5, 6, 7, 8, 9, 10] rfl) hq_X
  refine Qf (Qc ?_)
  refine XP rfl ?_
  refine Qd (Qa (Qb rfl rfl (Qj rfl rfl ?_)))
  refine Qg rfl WE rfl ?_
  refine Qu rfl QW (by exact hS6.cell 0 rfl rfl) rfl ?_
  refine Qe rfl rfl (Qf (Qc ?_))
  refine Qh (L' := [(6, _), (7, _), (0, _), (1, _), (5, _)]) (ZH rfl rfl rfl rfl rfl) ?_
  refine Q0 (Qs (QE (Qs (QE (Qs ?_)))))
  refine QV (.inr rfl) rfl rfl ?_
  have hS11 := Z7 hq_X (hS6.pick [0, 1, 2, 3, 4, 5, 6, 7, 8, 9, 10, 11] rfl)
  have hS12 := Z6 hq_T (hS11.pick [1, 2, 0, 3, 4, 5, 6, 7, 8, 9, 10] rfl)
  exact ⟨_, rfl, by rw [hse, YN hid0 hq_T hq_X], QY (hS12.pick [2, 3, 4, 0, 5, 6] rfl)⟩
 have hid0 : i = 0 := Decidable.not_not.1 h3
 refine QZ (Qv (Qv (Q4 (Qc (Qd ?_)))))
 have hS13 := hS2.drew
 refine QK [0, 1, 2, 3, 4, 5, 6] [] ZT (by kernel_rfl) ?_
 refine Qk rfl rfl rfl (fun _ => (Qr rfl)) ?_
 refine Qk rfl rfl rfl (fun _ => (Qq rfl)) ?_
 refine Qk rfl rfl rfl (fun _ => (Qi rfl Uo)) ?_
 refine QF rfl rfl rfl (Qm rfl Gy (by exact hS13.cell 1 rfl rfl)) ?_
 refine QF rfl rfl rfl (X9 rfl XB Xc (by exact hS13.blk 0 rfl) (by exact Nat.le_of_ble_eq_true rfl) rfl) ?_
 refine QF rfl rfl rfl (Xz (k := k) 2 hS13 keysKey Tryz.underlying81 rfl rfl rfl Y1 (u := intV (L.pres k)) (Ko _ _)) ?_
 refine Qk rfl rfl rfl (fun _ => (Q6 rfl)) ?_
 refine VC.nil (Qc ?_)
 refine Qh (L' := [(6, _)]) (Hd rfl) ?_
 refine Q0 ?_
 refine QV (.inr rfl) rfl rfl ?_
 exact ⟨_, rfl, by rw [hse, Jw hid0], QY (hS13.pick [1, 2, 3, 4, 5, 6] rfl)⟩
set_option maxRecDepth 100000 in
theorem DR {w : World} {b sp mp mt ms n Fr : Nat} {cu : Int} {f : Int → Bool} {V : VS} {F : Th} (hS : Sat w [QO b [ptrV sp 0, .map (some mp), .map (some mt), intV cu, .map (some ms)], QH Xd ms (Jc f), Zv sp n Fr V, F]) (hn : n ≤ 800000000) (s : Int) :
    Calls Tryz.prog 53 #[ptrV b 0, intV s] w (Ret fun v w' => v = .tuple #[] ∧ Sat w' [QO b [ptrV sp 0, .map (some mp), .map (some mt), intV cu, .map (some ms)], QH Xd ms (Jc (Jx f s)), Zv sp (n + 1) Fr (refW V s), F]) := by
 refine Qt Tryz.func53 rfl Tryz.ntmps53 rfl ?_
 refine Qd (Qa (Qb rfl rfl ?_))
 refine Xh rfl rfl rfl ?_
 refine Qf (Qc ?_)
 refine Qx rfl (fun h1 => ?_) (fun h1 => ?_)
 ·refine Qd (Qa (Qb rfl rfl (Qj rfl rfl ?_)))
  refine Qg rfl XK rfl ?_
  refine Qu rfl Xe (by exact hS.cell 0 rfl rfl) rfl ?_
  refine Qb rfl rfl ?_
  have hC2 := hS.split [2] [false, false, true, false] rfl; dsimp only [QC, Qz, Q9, Q8, Q7] at hC2
  refine Qo Rv rfl (TL hC2 (by omega) s) rfl ?_
  rintro e w2 ⟨_, rfl, e0, rfl, hS2⟩; refine ⟨_, rfl, ?_⟩
  replace hS2 := hS2.join rfl; dsimp only [QU, QT, Q8, Q7] at hS2; clear hC2
  refine Qf (Qc (Qa (Qb rfl rfl (Qj rfl rfl ?_))))
  refine Qg rfl Cf rfl ?_
  refine Qu rfl ag_83 (by exact hS2.cell 1 rfl rfl) rfl ?_
  refine Qb rfl rfl ?_
  refine X1 (k := s) (v := .bool true) 2 hS2 keysInt Tryz.underlying83 rfl rfl rfl rfl ?_
  intro w3 hS3; dsimp only [List.set] at hS3; rw [Dr] at hS3
  clear hS2
  refine Qf ?_
  refine W4 (.inl rfl) rfl ?_
  exact ⟨_, rfl, rfl, by unfold Jx refW; rw [if_neg (by assumption), if_neg (by assumption)]; exact hS3.pick [1, 2, 0, 3] rfl⟩
 refine Qy ?_
 refine W4 (.inl rfl) rfl ?_
 exact ⟨_, rfl, rfl, by unfold Jx refW; rw [if_pos (Decidable.not_not.1 (by assumption)), if_pos (Decidable.not_not.1 (by assumption))]; exact ((Xx (m := n + 1) (by omega) (hS.pick [2, 0, 1, 3] rfl)).reorder [1, 2, 0, 3] rfl)⟩
set_option maxRecDepth 100000 in
theorem Hi {w : World} {b sp mp mt ms n Fr : Nat} {cu : Int} {f : Int → Bool} {V : VS} {F : Th} (hS : Sat w [QO b [ptrV sp 0, .map (some mp), .map (some mt), intV cu, .map (some ms)], QH Xd ms (Jc f), Zv sp n Fr V, F]) (hn : n ≤ 800000000) (s : Int) :
    Calls Tryz.prog 106 #[ptrV b 0, intV s] w (Ret fun v w' => v = .tuple #[] ∧ Sat w' [QO b [ptrV sp 0, .map (some mp), .map (some mt), intV cu, .map (some ms)], QH Xd ms (Jc (Jt V f s)), Zv sp (n + 1) Fr (Zg V s), F]) := by
 refine Qt Tryz.func106 rfl Tryz.ntmps106 rfl ?_
 refine Qd (Qa (Qb rfl rfl (Qj rfl rfl ?_)))
 refine Qg rfl XK rfl ?_
 refine Qu rfl Xe (by exact hS.cell 0 rfl rfl) rfl ?_
 refine Qb rfl rfl ?_
 have hC1 := hS.split [2] [false, false, true, false] rfl; dsimp only [QC, Qz, Q9, Q8, Q7] at hC1
 refine Qo Ru rfl (Rd hC1 (by omega) s) rfl ?_
 rintro e w1 ⟨_, rfl, e0, rfl, hS1⟩; refine ⟨_, rfl, ?_⟩
 replace hS1 := hS1.join rfl; dsimp only [QU, QT, Q8, Q7] at hS1; clear hC1
 refine Qf (Qc (Qd (Qa (Qb rfl rfl (Qj rfl rfl ?_)))))
 refine Qg rfl XK rfl ?_
 refine Qu rfl Xe (by exact hS1.cell 1 rfl rfl) rfl ?_
 refine Qb rfl rfl ?_
 have hC2 := hS1.split [0] [true, false, false, false] rfl; dsimp only [QC, Qz, Q9, Q8, Q7] at hC2
 refine Qo Di rfl (BG hC2 s) rfl ?_
 rintro e w2 ⟨_, rfl, rfl, hS2⟩; refine ⟨_, rfl, ?_⟩
 replace hS2 := hS2.join rfl; dsimp only [QU, QT, Q8, Q7] at hS2; clear hC2
 clear hS1
 refine UA rfl rfl rfl ?_
 refine Qf (Qc ?_)
 refine Qh (L' := [(16, _), (0, _), (1, _)]) (Y2 rfl rfl rfl) ?_
 refine Qx rfl (fun h3 => ?_) (fun h3 => ?_)
 ·refine Qa (Qb rfl rfl (Qj rfl rfl ?_))
  refine Qg rfl Cf rfl ?_
  refine Qu rfl ag_83 (by exact hS2.cell 1 rfl rfl) rfl ?_
  refine Qb rfl rfl ?_
  refine X1 (k := s) (v := .bool true) 2 hS2 keysInt Tryz.underlying83 rfl rfl rfl rfl ?_
  intro w4 hS4; dsimp only [List.set] at hS4; rw [Dr] at hS4
  clear hS2
  refine Qf ?_
  refine W4 (.inl rfl) rfl ?_
  exact ⟨_, rfl, rfl, by unfold Jt; rw [if_pos (by omega)]; exact hS4.pick [1, 2, 0, 3] rfl⟩
 refine Qy ?_
 refine W4 (.inl rfl) rfl ?_
 exact ⟨_, rfl, rfl, by unfold Jt; rw [if_neg (by omega)]; exact hS2.pick [1, 2, 0, 3] rfl⟩
set_option maxRecDepth 100000 in
theorem hold_p {w : World} {b sp mp mt ms n Fr : Nat} {a : Nat} {v0 v2 v3 : Value} {cu old : Int} {f : Int → Bool} {V : VS} {F : Th} (hS : Sat w [QO b [ptrV sp 0, .map (some mp), .map (some mt), intV cu, .map (some ms)], QH Xd ms (Jc f), Zv sp n Fr V, QO a [v0, intV old, v2, v3], F]) (hn : n ≤ 700000000) (s : Int) :
    Calls Tryz.prog 73 #[ptrV b 0, ptrV a 1, intV s] w (Ret fun v w' => v = .tuple #[] ∧ Sat w' [QO b [ptrV sp 0, .map (some mp), .map (some mt), intV cu, .map (some ms)], QH Xd ms (Jc (Jt (refW V s) (Jx f s) old)), Zv sp (n + 2) Fr (Zg (refW V s) old), QO a [v0, intV s, v2, v3], F]) := by
 refine Qt Tryz.func73 rfl Tryz.ntmps73 rfl ?_
 refine Qd (Qa (Qb rfl rfl (Qb rfl rfl ?_)))
 have hC1 := hS.split [0, 1, 2] [true, true, true, false, false] rfl; dsimp only [QC, Qz, Q9, Q8, Q7] at hC1
 refine Qo Gs rfl (DR hC1 (by omega) s) rfl ?_
 rintro e w1 ⟨_, rfl, rfl, hS1⟩; refine ⟨_, rfl, ?_⟩
 replace hS1 := hS1.join rfl; dsimp only [QU, QT, Q8, Q7] at hS1; clear hC1
 refine Qf (Qc (Qd (Qa (Qb rfl rfl (Qb rfl rfl (Qj rfl rfl ?_))))))
 refine Qu rfl QW (by exact hS1.cell 3 rfl rfl) rfl ?_
 have hC2 := hS1.split [0, 1, 2] [true, true, true, false, false] rfl; dsimp only [QC, Qz, Q9, Q8, Q7] at hC2
 refine Qo Hu rfl (Hi hC2 (by omega) old) rfl ?_
 rintro e w2 ⟨_, rfl, rfl, hS2⟩; refine ⟨_, rfl, ?_⟩
 replace hS2 := hS2.join rfl; dsimp only [QU, QT, Q8, Q7] at hS2; clear hC2
 clear hS1
 refine Qf (Qc ?_)
 refine Qh (L' := [(1, _), (2, _)]) (H0 rfl rfl) ?_
 refine Qa (Qb rfl rfl (Qb rfl rfl (Qj rfl rfl ?_)))
 (refine Xb hS2 rfl rfl YM (by rfl) (i := 3) rfl (by exact Nat.le_of_ble_eq_true rfl) ?_)
 intro w3 hS4; dsimp only [List.set] at hS4
 clear hS2
 refine Qf ?_
 refine W4 (.inl rfl) rfl ?_
 exact ⟨_, rfl, rfl, hS4.pick [0, 1, 2, 3, 4] rfl⟩
set_option maxRecDepth 100000 in
theorem Pw {w : World} {b sp mp mt ms n Fr : Nat} {cu : Int} {pr : KD → Int} {f : Int → Bool} {V : VS} {F : Th} (hS : Sat w [QO b [ptrV sp 0, .map (some mp), .map (some mt), intV cu, .map (some ms)], QH Xu mp (Zo pr), QH Xd ms (Jc f), Zv sp n Fr V, F]) (hn : n ≤ 700000000) (k : KD) (s : Int) :
    Calls Tryz.prog 72 #[ptrV b 0, Xu k, intV s] w (Ret fun v w' => v = .tuple #[] ∧ Sat w' [QO b [ptrV sp 0, .map (some mp), .map (some mt), intV cu, .map (some ms)], QH Xu mp (Zo (XZ pr k s)), QH Xd ms (Jc (Jt V f (pr k))), Zv sp (n + 1) Fr (Zg V (pr k)), F]) := by
 refine Qt Tryz.func72 rfl Tryz.ntmps72 rfl ?_
 refine Qd (Qa ?_)
 refine Zf hS rfl rfl rfl ?_
 intro kb w1 hS1
 refine Qf (Qc (Qd ?_))
 have hS2 := hS1.drew
 refine QK [0, 1, 2, 3, 4, 5, 6, 7] [7] ZT (by kernel_rfl) ?_
 refine Qk rfl rfl rfl (fun _ => (Qr rfl)) ?_
 refine Qk rfl rfl rfl (fun _ => (Qr rfl)) ?_
 refine Qk rfl rfl rfl (fun _ => (Qq rfl)) ?_
 refine Qk rfl rfl rfl (fun _ => (Qi rfl Uo)) ?_
 refine QF rfl rfl rfl (Qm rfl Gy (by exact hS2.cell 1 rfl rfl)) ?_
 refine QF rfl rfl rfl (X9 rfl XB Xc (by exact hS2.blk 0 rfl) (by exact Nat.le_of_ble_eq_true rfl) rfl) ?_
 refine QF rfl rfl rfl (Xz (k := k) 2 hS2 keysKey Tryz.underlying81 rfl rfl rfl Y1 (u := intV (pr k)) (Ko _ _)) ?_
 refine Xn rfl rfl rfl rfl rfl rfl ?_
 have hC3 := hS2.split [1, 3, 4] [false, true, false, true, true, false] rfl; dsimp only [QC, Qz, Q9, Q8, Q7] at hC3
 refine Qo Hu rfl (Hi hC3 (by omega) (pr k)) rfl ?_
 rintro e w3 ⟨_, rfl, rfl, hS3⟩; refine ⟨_, rfl, ?_⟩
 replace hS3 := hS3.join rfl; dsimp only [QU, QT, Q8, Q7] at hS3; clear hC3
 clear hS2
 refine XJ (.skip (by kernel_rfl) (.skip (by kernel_rfl) (.skip (by kernel_rfl) .nil))) ?_
 refine VC.nil (Qc ?_)
 refine Qh (L' := [(4, _), (0, _), (2, _)]) (Y2 rfl rfl rfl) ?_
 refine Qd ?_
 have hS4 := hS3.drew
 refine QK [0, 1, 2, 3, 4, 5, 6] [6] ZT (by kernel_rfl) ?_
 refine Qk rfl rfl rfl (fun _ => (Qr rfl)) ?_
 refine Qk rfl rfl rfl (fun _ => (Qq rfl)) ?_
 refine Qk rfl rfl rfl (fun _ => (Qi rfl Uo)) ?_
 refine QF rfl rfl rfl (Qm rfl Gy (by exact hS4.cell 0 rfl rfl)) ?_
 refine QF rfl rfl rfl (X9 rfl XB Xc (by exact hS4.blk 3 rfl) (by exact Nat.le_of_ble_eq_true rfl) rfl) ?_
 refine Qk rfl rfl rfl (fun _ => (Qr rfl)) ?_
 refine Xn rfl rfl rfl rfl rfl rfl ?_
 refine X1 (k := k) (v := intV s) 4 hS4 keysKey Tryz.underlying81 rfl rfl rfl rfl ?_
 intro w5 hS5; dsimp only [List.set] at hS5
 clear hS4
 refine Zi (.skip (by kernel_rfl) (.skip (by kernel_rfl) .nil)) ?_
 refine VC.nil (Qc (Qd (Qa (Qb rfl rfl ?_))))
 refine X2 rfl rfl rfl ?_
 refine Qf (Qc ?_)
 refine Qh (L' := [(21, _), (4, _), (0, _)]) (Y2 rfl rfl rfl) ?_
 refine Qx rfl (fun h6 => ?_) (fun h6 => ?_)
 ·have hS7 := hS5.drew
  refine QK [0, 1, 2, 3, 4, 5] [5] ZT (by kernel_rfl) ?_
  refine Qk rfl rfl rfl (fun _ => (Qr rfl)) ?_
  refine Qk rfl rfl rfl (fun _ => (Qq rfl)) ?_
  refine Qk rfl rfl rfl (fun _ => (Qi rfl Uo)) ?_
  refine QF rfl rfl rfl (Qm rfl Gy (by exact hS7.cell 0 rfl rfl)) ?_
  refine QF rfl rfl rfl (X9 rfl XB Xc (by exact hS7.blk 3 rfl) (by exact Nat.le_of_ble_eq_true rfl) rfl) ?_
  refine Xn rfl rfl rfl rfl rfl rfl ?_
  refine JX (k := k) 4 hS7 keysKey Tryz.underlying81 rfl rfl rfl rfl ?_
  intro w8 hS8; dsimp only [List.set] at hS8
  clear hS7
  refine Zi (.skip (by kernel_rfl) (.skip (by kernel_rfl) .nil)) ?_
  refine VC.nil ?_
  refine W4 (.inl rfl) rfl ?_
  have hz := hS8.pick [0, 4, 1, 2, 5] rfl
  rw [Nf] at hz
  exact ⟨_, rfl, rfl, by rw [show s = 0 from (by assumption)]; exact hz⟩
 refine Qy ?_
 refine W4 (.inl rfl) rfl ?_
 have hz := hS5.pick [0, 4, 1, 2, 5] rfl
 rw [Nc (by assumption)] at hz
 exact ⟨_, rfl, rfl, hz⟩
end Go.Proofs.YtkcjfoaejijdoaaGreatDoor
