/- leaves: in plain data; there, Begin, sees, ref, unref, hold, set -/
import Derived.Test.YtkcjfoaejijdoaaGreatDoorSh13
namespace Go.Proofs.YtkcjfoaejijdoaaGreatDoor
open Go.RowKit M
set_option linter.unusedVariables false
abbrev KD := Bs × Int
structure LfD where
  ad : Nat
  base : Int
  own : Int
  rd : BitVec 64
  wr : BitVec 64
structure TrD where
  ad : Nat
  ml : Nat
  md : Nat
  parent : Int
  lv : KD → Option LfD
  dr : Bs → Bool
structure LvD where
  sp : Nat
  mp : Nat
  mt : Nat
  ms : Nat
  pres : KD → Int
  tr : Int → Option TrD
  cur : Int
  sh : Int → Bool
def lfV (x : LfD) : List Value := [intV x.base, intV x.own, XF x.rd, XF x.wr]
def VZ (x : LfD) : Th := QN x.ad (lfV x)
def Jb {κ : Type} (f : κ → Bool) : κ → Option Value := fun s => if f s = true then some (.bool true) else none
open Classical in
noncomputable def JE {κ : Type} (f : κ → Bool) (k : κ) : κ → Bool := fun j => if j = k then true else f j
theorem Dr {κ : Type} (f : κ → Bool) (k : κ) : (Jb f k).getD (.bool false) = .bool (f k) := by
  unfold Jb; split
  · rename_i h; rw [h]; rfl
  · rename_i h; simp at h; rw [h]; rfl
theorem Dq {κ : Type} (f : κ → Bool) (k : κ) : upd (Jb f) k (some (.bool true)) = Jb (JE f k) := by
  funext j
  by_cases h : j = k
  · subst h; rw [ZC]; unfold Jb JE; simp
  · rw [W4 h]; unfold Jb JE; simp [h]
theorem boG_nil {κ : Type} : Jb (fun _ : κ => false) = fun _ => none := by funext k; simp [Jb]
def Zn (p : KD → Int) : KD → Option Value := fun k => if p k = 0 then none else some (intV (p k))
theorem Kn (p : KD → Int) (k : KD) : (Zn p k).getD (intV 0) = intV (p k) := by
  unfold Zn; split
  · rename_i h; rw [h]; rfl
  · rfl
theorem Nc : Zn (fun _ => 0) = fun _ => none := by funext k; simp [Zn]
open Classical in
noncomputable def XY (p : KD → Int) (k : KD) (s : Int) : KD → Int := fun j => if j = k then s else p j
theorem Nb {p : KD → Int} {k : KD} {s : Int} (h : s ≠ 0) : upd (Zn p) k (some (intV s)) = Zn (XY p k s) := by
  funext j
  by_cases e : j = k
  · subst e; rw [ZC]; unfold Zn XY; simp [h]
  · rw [W4 e]; unfold Zn XY; simp [e]
theorem Nd {p : KD → Int} {k : KD} {v : Option Value} : upd (upd (Zn p) k v) k none = Zn (XY p k 0) := by
  funext j
  by_cases e : j = k
  · subst e; rw [ZC]; unfold Zn XY; simp
  · rw [W4 e, W4 e]; unfold Zn XY; simp [e]
/-- the pointer to what a key has -/
def ptO {α : Type} (ad : α → Nat) (o : Option α) : Value := match o with | none => .pointer none | some x => ptrV (ad x) 0
theorem Uf {κ α : Type} {ad : α → Nat} {f : κ → Option α} (k : κ) : (XU ad f k).getD (.pointer none) = ptO ad (f k) := by
  unfold XU ptO; cases f k <;> rfl
def Zg {κ α : Type} (th : α → Th) (f : κ → Option α) : Th := MB fun k => (f k).map th
theorem MC {κ α : Type} {th : α → Th} {f : κ → Option α} {k : κ} {x : α} : Xi (fun k => (f k).map th) k (some (th x)) = fun j => ((Xi f k (some x)) j).map th := by
  funext j
  by_cases h : j = k
  · subst h; rw [Q3, Q3]; rfl
  · rw [QH h, QH h]
theorem SW {κ α : Type} {th : α → Th} {f : κ → Option α} {k : κ} : Xi (fun k => (f k).map th) k none = fun j => ((Xi f k none) j).map th := by
  funext j
  by_cases h : j = k
  · subst h; rw [Q3, Q3]; rfl
  · rw [QH h, QH h]
section
variable {w : World} {As : List Th}
theorem B2 {κ α : Type} {th : α → Th} {f : κ → Option α} {k : κ} {x : α} (h : Sat w (Zg th f :: As)) (hk : f k = some x) : Sat w (th x :: Zg th (Xi f k none) :: As) := by
  have h1 := SV (k := k) (A := th x) h (by show (f k).map th = _; rw [hk]; rfl)
  rw [SW] at h1
  exact h1
theorem K3 {κ α : Type} {th : α → Th} {f : κ → Option α} {k : κ} {x : α} (h : Sat w (th x :: Zg th (Xi f k none) :: As)) : Sat w (Zg th (Xi f k (some x)) :: As) := by
  have h1 := C4 (h := fun j => ((Xi f k none) j).map th) (k := k) h (by show ((Xi f k none) k).map th = none; rw [Q3]; rfl)
  rw [MC, Hg] at h1
  exact h1
theorem B3 {κ α : Type} {th : α → Th} {f : κ → Option α} {k : κ} {x : α} (h : Sat w (th x :: Zg th (Xi f k none) :: As)) (hk : f k = some x) : Sat w (Zg th f :: As) := by
  have h1 := K3 h
  rwa [Yj hk] at h1
theorem ME {κ α : Type} {th : α → Th} {f : κ → Option α} {k : κ} {x : α} (h : Sat w (th x :: Zg th f :: As)) (hk : f k = none) : Sat w (Zg th (Xi f k (some x)) :: As) := by
  have h1 := C4 (h := fun j => (f j).map th) (k := k) h (by show (f k).map th = none; rw [hk]; rfl)
  rw [MC] at h1
  exact h1
theorem MD {κ α : Type} (th : α → Th) (h : Sat w As) : Sat w (Zg th (fun _ : κ => none) :: As) := NO h
end
def trV (t : TrD) : List Value := [intV t.parent, .map (some t.ml), .map (some t.md)]
def UV (t : TrD) : Th := starL [QN t.ad (trV t), QG Xt t.ml (XU LfD.ad t.lv), Zg VZ t.lv, QG WL t.md (Jb t.dr)]
def lvV (L : LvD) : List Value := [ptrV L.sp 0, .map (some L.mp), .map (some L.mt), intV L.cur, .map (some L.ms)]
def ZU (b : Nat) (L : LvD) : Th := starL [QN b (lvV L), QG Xt L.mp (Zn L.pres), QG Xc L.mt (XU TrD.ad L.tr), Zg UV L.tr, QG Xc L.ms (Jb L.sh)]
section
variable {w : World} {As : List Th}
theorem XP {b : Nat} {L : LvD} (h : Sat w (ZU b L :: As)) : Sat w (QN b [ptrV L.sp 0, .map (some L.mp), .map (some L.mt), intV L.cur, .map (some L.ms)] :: QG Xt L.mp (Zn L.pres) :: QG Xc L.mt (XU TrD.ad L.tr) :: Zg UV L.tr :: QG Xc L.ms (Jb L.sh) :: As) := h.flat
theorem QX {b : Nat} {L : LvD} (h : Sat w (QN b [ptrV L.sp 0, .map (some L.mp), .map (some L.mt), intV L.cur, .map (some L.ms)] :: QG Xt L.mp (Zn L.pres) :: QG Xc L.mt (XU TrD.ad L.tr) :: Zg UV L.tr :: QG Xc L.ms (Jb L.sh) :: As)) : Sat w (ZU b L :: As) := Sat.fold (As := [QN b (lvV L), QG Xt L.mp (Zn L.pres), QG Xc L.mt (XU TrD.ad L.tr), Zg UV L.tr, QG Xc L.ms (Jb L.sh)]) h
theorem Z4 {T : Int → Option TrD} {i : Int} {t : TrD} (h : Sat w (Zg UV T :: As)) (hk : T i = some t) : Sat w (QN t.ad [intV t.parent, .map (some t.ml), .map (some t.md)] :: QG Xt t.ml (XU LfD.ad t.lv) :: Zg VZ t.lv :: QG WL t.md (Jb t.dr) :: Zg UV (Xi T i none) :: As) := (B2 h hk).flat
theorem R9 {t : TrD} (h : Sat w (QN t.ad [intV t.parent, .map (some t.ml), .map (some t.md)] :: QG Xt t.ml (XU LfD.ad t.lv) :: Zg VZ t.lv :: QG WL t.md (Jb t.dr) :: As)) : Sat w (UV t :: As) := Sat.fold (As := [QN t.ad (trV t), QG Xt t.ml (XU LfD.ad t.lv), Zg VZ t.lv, QG WL t.md (Jb t.dr)]) h
theorem Z5 {T : Int → Option TrD} {i : Int} {t : TrD} (hk : T i = some t) (h : Sat w (QN t.ad [intV t.parent, .map (some t.ml), .map (some t.md)] :: QG Xt t.ml (XU LfD.ad t.lv) :: Zg VZ t.lv :: QG WL t.md (Jb t.dr) :: Zg UV (Xi T i none) :: As)) : Sat w (Zg UV T :: As) := B3 (R9 h) hk
theorem Vd {T : Int → Option TrD} {i : Int} {t : TrD} (h : Sat w (QN t.ad [intV t.parent, .map (some t.ml), .map (some t.md)] :: QG Xt t.ml (XU LfD.ad t.lv) :: Zg VZ t.lv :: QG WL t.md (Jb t.dr) :: Zg UV (Xi T i none) :: As)) : Sat w (Zg UV (Xi T i (some t)) :: As) := K3 (R9 h)
theorem Yt {f : KD → Option LfD} {k : KD} {x : LfD} (h : Sat w (Zg VZ f :: As)) (hk : f k = some x) : Sat w (QN x.ad [intV x.base, intV x.own, XF x.rd, XF x.wr] :: Zg VZ (Xi f k none) :: As) := B2 h hk
theorem Z6 {f : KD → Option LfD} {k : KD} {x : LfD} (hk : f k = some x) (h : Sat w (QN x.ad [intV x.base, intV x.own, XF x.rd, XF x.wr] :: Zg VZ (Xi f k none) :: As)) : Sat w (Zg VZ f :: As) := B3 (th := VZ) h hk
theorem PZ {f : KD → Option LfD} {k : KD} {x : LfD} (h : Sat w (QN x.ad [intV x.base, intV x.own, XF x.rd, XF x.wr] :: Zg VZ (Xi f k none) :: As)) : Sat w (Zg VZ (Xi f k (some x)) :: As) := K3 (th := VZ) h
theorem TW {f : KD → Option LfD} {k : KD} {x : LfD} (hk : f k = none) (h : Sat w (QN x.ad [intV x.base, intV x.own, XF x.rd, XF x.wr] :: Zg VZ f :: As)) : Sat w (Zg VZ (Xi f k (some x)) :: As) := ME (th := VZ) h hk
end
/-- the sheet that is seen -/
def WN (L : LvD) : Nat → Int → KD → Int
  | 0, _, _ => 0
  | n + 1, id, k => if id = 0 then L.pres k else match L.tr id with | none => 0 | some t => match t.lv k with | some x => x.own | none => if t.dr k.1 = true then 0 else WN L n t.parent k
/-- the chain of parents ends -/
def JH (T : Int → Option TrD) : Nat → Int → Prop
  | 0, id => id = 0
  | n + 1, id => id = 0 ∨ match T id with | none => True | some t => JH T n t.parent
def Z8 : Nat := 100000
def Xn (L : LvD) (id : Int) (k : KD) : Int := WN L (Z8 + 1) id k
def ZX (L : LvD) (id : Int) : Bool := decide (id = 0) || (L.tr id).isSome
noncomputable def refW (V : VS) (s : Int) : VS := if s = 0 then V else YN V s
noncomputable def Jw (f : Int → Bool) (s : Int) : Int → Bool := if s = 0 then f else JE f s
noncomputable def Js (V : VS) (f : Int → Bool) (s : Int) : Int → Bool := if 0 < XZ (Zf V s) s then JE f s else f
theorem keysKey : KeyOk Tryz.prog 76 Xt := Sa Tryz.underlying76 (by kernel_rfl) Tryz.underlying9 Tryz.underlying3 rfl rfl rfl rfl (by decide) (by decide)
set_option maxRecDepth 100000 in
theorem Yl {w : World} {b : Nat} {L : LvD} {F : Th} (hS : Sat w [ZU b L, F]) (id : Int) :
    Calls Tryz.prog 43 #[ptrV b 0, intV id] w (Ret fun v w' => v = .bool (ZX L id) ∧ Sat w' [ZU b L, F]) := by
 replace hS := XP hS
 refine Qt Tryz.func43 rfl Tryz.ntmps43 rfl ?_
 refine Qd (Qa (Qe rfl rfl (Qf (Qc (Qd (Qa (Qb rfl rfl ?_)))))))
 refine X1 rfl rfl rfl ?_
 refine Qb rfl rfl ?_
 refine Xj 7 rfl (fun h1 => ?_) (fun h1 => ?_)
 ·refine Ql rfl rfl (decide_eq_true h1) rfl ?_
  refine Ql rfl rfl (decide_eq_true h1) rfl ?_
  refine Ql rfl rfl (decide_eq_true h1) rfl ?_
  refine Ql rfl rfl (decide_eq_true h1) rfl ?_
  refine Ql rfl rfl (decide_eq_true h1) rfl ?_
  refine Ql rfl rfl (decide_eq_true h1) rfl ?_
  refine Ql rfl rfl (decide_eq_true h1) rfl ?_
  refine Xf rfl (decide_eq_true h1) rfl rfl ?_
  refine Qe rfl rfl (Qf (Qc ?_))
  refine Qh (L' := [(4, _)]) (Hc rfl) ?_
  refine Q0 ?_
  refine QU (.inr rfl) rfl rfl ?_
  exact ⟨_, rfl, by simp [ZX, *], QX (hS.pick [0, 1, 2, 3, 4, 5] rfl)⟩
 refine Qn rfl rfl (decide_eq_false h1) ?_
 refine Qb rfl rfl ?_
 refine Qn rfl rfl (decide_eq_false h1) ?_
 refine Qj rfl rfl ?_
 refine Qn rfl rfl (decide_eq_false h1) ?_
 refine Qg rfl Wy rfl ?_
 refine Qn rfl rfl (decide_eq_false h1) ?_
 refine Qu rfl YC (by exact hS.cell 0 rfl rfl) rfl ?_
 refine Qn rfl rfl (decide_eq_false h1) ?_
 refine Qb rfl rfl ?_
 refine Qn rfl rfl (decide_eq_false h1) ?_
 refine Zd (k := id) 2 hS keysInt Tryz.underlying82 rfl rfl rfl H0 (u := (ptO TrD.ad (L.tr id))) (Uf _) rfl ?_
 refine Qn rfl rfl (decide_eq_false h1) ?_
 rcases hq_T : L.tr id with _ | t
 ·refine Jc Tryz.underlying94 rfl rfl rfl ?_
  refine QW rfl (decide_eq_false h1) rfl rfl ?_
  refine Qe rfl rfl (Qf (Qc ?_))
  refine Qh (L' := [(4, _)]) (Hc rfl) ?_
  refine Q0 ?_
  refine QU (.inr rfl) rfl rfl ?_
  exact ⟨_, rfl, by simp [ZX, *], QX (hS.pick [0, 1, 2, 3, 4, 5] rfl)⟩
 refine YI Tryz.underlying94 rfl rfl rfl ?_
 refine QW rfl (decide_eq_false h1) rfl rfl ?_
 refine Qe rfl rfl (Qf (Qc ?_))
 refine Qh (L' := [(4, _)]) (Hc rfl) ?_
 refine Q0 ?_
 refine QU (.inr rfl) rfl rfl ?_
 exact ⟨_, rfl, by simp [ZX, *], QX (hS.pick [0, 1, 2, 3, 4, 5] rfl)⟩
def WI (L : LvD) (id parent : Int) : Int := if id < 1 then 1 else if (L.tr id).isSome = true then 5 else if ZX L parent = false then 4 else 0
noncomputable def MF (L : LvD) (id parent : Int) (a ml md : Nat) : LvD := if WI L id parent = 0 then { L with tr := Xi L.tr id (some ⟨a, ml, md, parent, fun _ => none, fun _ => false⟩) } else L
set_option maxRecDepth 100000 in
theorem SX {w : World} {b : Nat} {L : LvD} {F : Th} (hS : Sat w [ZU b L, F]) (id parent : Int) :
    Calls Tryz.prog 11 #[ptrV b 0, intV id, intV parent] w (Ret fun v w' => v = intV (WI L id parent) ∧ ∃ a ml md, Sat w' [ZU b (MF L id parent a ml md), F]) := by
 replace hS := XP hS
 refine Qt Tryz.func11 rfl Tryz.ntmps11 rfl ?_
 refine Qd (Qa (Qe rfl rfl (Qf (Qc (Qd (Q1 (Qd (Qa (Qb rfl rfl ?_)))))))))
 refine Xr rfl rfl rfl ?_
 refine Qe rfl rfl (Qf (Qc ?_))
 refine Qx rfl (fun h1 => ?_) (fun h1 => ?_)
 ·refine Qd (Qa (Qe rfl rfl (Qf (Qc (Q0 (QC (Qs ?_)))))))
  refine QU (.inr rfl) rfl rfl ?_
  have hE : WI L id parent = 1 := by unfold WI; rw [if_pos (by assumption)]
  exact ⟨_, rfl, by rw [hE], 0, 0, 0, by unfold MF; rw [if_neg (by rw [hE]; decide)]; exact QX (hS.pick [0, 1, 2, 3, 4, 5] rfl)⟩
 refine Qd (Qa (Qb rfl rfl (Qj rfl rfl ?_)))
 refine Qg rfl Wy rfl ?_
 refine Qu rfl YC (by exact hS.cell 0 rfl rfl) rfl ?_
 refine Qb rfl rfl ?_
 refine Zd (k := id) 2 hS keysInt Tryz.underlying82 rfl rfl rfl H0 (u := (ptO TrD.ad (L.tr id))) (Uf _) rfl ?_
 rcases hq_T : L.tr id with _ | t
 ·refine Jc Tryz.underlying94 rfl rfl rfl ?_
  refine Qe rfl rfl (Qf (Qc ?_))
  refine Qh (L' := [(10, _), (6, _), (0, _), (1, _), (2, _)]) (ZG rfl rfl rfl rfl rfl) ?_
  refine Xl rfl ?_
  refine Qd ?_
  have hS2 := QX (L := L) (hS.pick [0, 1, 2, 3, 4, 5] rfl)
  refine Qa (Qb rfl rfl (Qb rfl rfl ?_))
  have hC3 := hS2.split [0] [true, false] rfl; dsimp only [Q9, Qz, Q8, cap, Q7] at hC3
  refine Qo UT rfl (Yl hC3 parent) rfl ?_
  rintro e w3 ⟨_, rfl, rfl, hS3⟩; refine ⟨_, rfl, ?_⟩
  replace hS3 := hS3.join rfl; dsimp only [QT, QS, cap, Q7] at hS3; clear hC3
  clear hS2
  refine QR rfl rfl ?_
  refine Qe rfl rfl (Qf (Qc ?_))
  refine QQ rfl (fun h4 => ?_) (fun h4 => ?_)
  ·have hth : ZX L parent = false := by simpa using h4
   refine Qd (Qa (Qe rfl rfl (Qf (Qc (Q0 (QC (Qs ?_)))))))
   refine QU (.inr rfl) rfl rfl ?_
   have hE : WI L id parent = 4 := by unfold WI; rw [if_neg (by assumption), if_neg (by rw [hq_T]; decide), if_pos hth]
   exact ⟨_, rfl, by rw [hE], 0, 0, 0, by unfold MF; rw [if_neg (by rw [hE]; decide)]; exact hS3.pick [0, 1] rfl⟩
  have hth : ZX L parent = true := by simpa using h4
  refine Qy (Qp (Qc (Qd ?_)))
  have hS5 := XP (hS3.pick [0, 1] rfl)
  refine Qa (Qb rfl rfl (Qj rfl rfl ?_))
  refine Qg rfl Wy rfl ?_
  refine Qu rfl YC (by exact hS5.cell 0 rfl rfl) rfl ?_
  refine Qb rfl rfl (Qb rfl rfl ?_)
  refine ZB Xt hS5 rfl ?_
  intro nl w6 hS6
  clear hS5
  refine ZB WL hS6 rfl ?_
  intro nd w7 hS7
  clear hS6
  refine Zx rfl DV asz_93 zr_93 rfl rfl ?_
  refine Ze hS7 rfl rfl rfl ?_
  intro ta w8 hS8
  clear hS7
  refine X0 (k := id) (v := ptrV ta 0) 5 hS8 keysInt Tryz.underlying82 rfl rfl rfl rfl ?_
  intro w9 hS9; dsimp only [List.set] at hS9
  clear hS8
  refine Qf (Qc ?_)
  refine Qh (L' := [(6, _)]) (Hc rfl) ?_
  refine Qd (Qa (Qe rfl rfl (Qf (Qc (Q0 ?_)))))
  refine QU (.inr rfl) rfl rfl ?_
  have hE : WI L id parent = 0 := by unfold WI; rw [if_neg (by assumption), if_neg (by rw [hq_T]; decide), if_neg (by rw [hth]; decide)]
  have hA := MD (κ := KD) VZ (hS9.pick [0, 2, 1, 6, 3, 4, 5, 7, 8] rfl)
  have hB := ME (R9 (t := (⟨ta, nl, nd, parent, fun _ => none, fun _ => false⟩ : TrD)) (hA.reorder [1, 2, 0, 3, 4, 5, 6, 7, 8, 9] rfl)) hq_T
  have hC := hB.reorder [1, 2, 3, 0, 4, 5] rfl
  rw [DT (x := (⟨ta, nl, nd, parent, fun _ => none, fun _ => false⟩ : TrD))] at hC
  exact ⟨_, rfl, by rw [hE], ta, nl, nd, by unfold MF; rw [if_pos hE]; exact QX (L := { L with tr := Xi L.tr id (some (⟨ta, nl, nd, parent, fun _ => none, fun _ => false⟩ : TrD)) }) hC⟩
 refine YI Tryz.underlying94 rfl rfl rfl ?_
 refine Qe rfl rfl (Qf (Qc ?_))
 refine Qh (L' := [(10, _), (6, _), (0, _), (1, _), (2, _)]) (ZG rfl rfl rfl rfl rfl) ?_
 refine XO rfl ?_
 refine Qd (Qa (Qe rfl rfl (Qf (Qc (Q0 (QC (Qs ?_)))))))
 refine QU (.inr rfl) rfl rfl ?_
 have hE : WI L id parent = 5 := by unfold WI; rw [if_neg (by assumption), if_pos (by rw [hq_T]; rfl)]
 exact ⟨_, rfl, by rw [hE], 0, 0, 0, by unfold MF; rw [if_neg (by rw [hE]; decide)]; exact QX (hS.pick [0, 1, 2, 3, 4, 5] rfl)⟩
theorem Jv {L : LvD} {n : Nat} {id : Int} {k : KD} (h : id = 0) : WN L (n + 1) id k = L.pres k := by unfold WN; rw [if_pos h]
theorem Bc {L : LvD} {n : Nat} {id : Int} {k : KD} (h : id ≠ 0) (ht : L.tr id = none) : WN L (n + 1) id k = 0 := by unfold WN; rw [if_neg h, ht]
theorem YM {L : LvD} {n : Nat} {id : Int} {k : KD} {t : TrD} {x : LfD} (h : id ≠ 0) (ht : L.tr id = some t) (hx : t.lv k = some x) : WN L (n + 1) id k = x.own := by unfold WN; rw [if_neg h, ht]; dsimp only; rw [hx]
theorem Be {L : LvD} {n : Nat} {id : Int} {k : KD} {t : TrD} (h : id ≠ 0) (ht : L.tr id = some t) (hx : t.lv k = none) (hd : t.dr k.1 = true) : WN L (n + 1) id k = 0 := by unfold WN; rw [if_neg h, ht]; dsimp only; rw [hx]; dsimp only; rw [if_pos hd]
theorem TM {L : LvD} {n : Nat} {id : Int} {k : KD} {t : TrD} (h : id ≠ 0) (ht : L.tr id = some t) (hx : t.lv k = none) (hd : t.dr k.1 = false) : WN L (n + 1) id k = WN L n t.parent k := by rw [WN, if_neg h, ht]; dsimp only; rw [hx]; dsimp only; rw [if_neg (by rw [hd]; decide)]
theorem Ci {T : Int → Option TrD} {n : Nat} {id : Int} {t : TrD} (h : JH T n id) (h0 : id ≠ 0) (ht : T id = some t) : ∃ m, n = m + 1 ∧ JH T m t.parent := by
  cases n with
  | zero => exact absurd h h0
  | succ n =>
    rcases h with h | h
    · exact absurd h h0
    · rw [ht] at h; exact ⟨n, rfl, h⟩
set_option maxRecDepth 100000 in
set_option maxHeartbeats 800000000 in
theorem Hj {w : World} {b : Nat} {L : LvD} {F : Th} (hS : Sat w [ZU b L, F]) (hE : ∀ i, JH L.tr Z8 i) (id : Int) (k : KD) :
    Calls Tryz.prog 48 #[ptrV b 0, intV id, Xt k] w (Ret fun v w' => v = intV (Xn L id k) ∧ Sat w' [ZU b L, F]) := by
 replace hS := XP hS
 refine Qt Tryz.func48 rfl Tryz.ntmps48 rfl ?_
 refine Qd (Qa ?_)
 refine Ze hS rfl rfl rfl ?_
 intro kb w1 hS1
 change Sat w1 [QN kb [strV k.1, intV k.2], _, _, _, _, _, _] at hS1
 refine Qe rfl rfl (Qf (Qc (Qd (Q1 ?_))))
 refine Xv (fun K0 E0 W0 => ∃ (m : Nat) (i : Int), K0 = m + 1 ∧ E0 = [(0, ptrV b 0), (1, intV i), (5, ptrV kb 0)] ∧ Sat W0 [QN kb [strV k.1, intV k.2], QN b [ptrV L.sp 0, .map (some L.mp), .map (some L.mt), intV L.cur, .map (some L.ms)], QG Xt L.mp (Zn L.pres), QG Xc L.mt (XU TrD.ad L.tr), Zg UV L.tr, QG Xc L.ms (Jb L.sh), F] ∧ (Xn L id k = WN L (m + 1) i k) ∧ (JH L.tr m i) ∧ (m ≤ Z8)) (L0 := [(0, _), (1, _), (5, _)]) (Z8 + 1) (Y1 rfl rfl rfl) ⟨Z8, id, rfl, rfl, hS1, rfl, hE id, Nat.le_refl _⟩ ?_
 rintro _ _ w2 ⟨m, i, rfl, rfl, hS2, hse, hen, hm⟩
 refine Qd (Qd (Qa (Qb rfl rfl ?_)))
 refine Xg rfl rfl rfl ?_
 refine Qf (Qc ?_)
 refine Qx rfl (fun h3 => ?_) (fun h3 => ?_)
 ·have hid0 : i ≠ 0 := h3
  refine Qy (Qc (Q1 (Qd (Qa (Qb rfl rfl (Qj rfl rfl ?_))))))
  refine Qg rfl Wy rfl ?_
  refine Qu rfl YC (by exact hS2.cell 1 rfl rfl) rfl ?_
  refine Qb rfl rfl ?_
  refine Zd (k := i) 3 hS2 keysInt Tryz.underlying82 rfl rfl rfl H0 (u := (ptO TrD.ad (L.tr i))) (Uf _) rfl ?_
  refine Qe rfl rfl (Qf (Qc ?_))
  refine Qh (L' := [(7, _), (0, _), (1, _), (5, _)]) (Jq rfl rfl rfl rfl) ?_
  refine Qd (Qd (Qa (Qb rfl rfl ?_)))
  rcases hq_T : L.tr i with _ | t
  ·refine Jd Tryz.underlying94 rfl rfl rfl ?_
   refine Qf (Qc ?_)
   refine XO rfl ?_
   refine Qd (Qa (Qe rfl rfl (Qf (Qc (Q0 (Qs (QC (Qs (QC (Qs ?_))))))))))
   refine QU (.inr rfl) rfl rfl ?_
   exact ⟨_, rfl, by rw [hse, Bc hid0 hq_T], QX (hS2.pick [1, 2, 3, 4, 5, 6] rfl)⟩
  refine ZW Tryz.underlying94 rfl rfl rfl ?_
  have hS4 := Z4 (hS2.pick [4, 0, 1, 2, 3, 5, 6] rfl) hq_T
  refine Qf (Qc ?_)
  refine Xl rfl ?_
  refine Qy (Qc (Qd (Qd ?_)))
  have hS5 := hS4.drew
  refine QJ [0, 1, 2, 3, 4, 5, 6] [] ZS (by kernel_rfl) ?_
  refine Qk rfl rfl rfl (fun _ => (Qr rfl)) ?_
  refine Qk rfl rfl rfl (fun _ => (Qq rfl)) ?_
  refine Qk rfl rfl rfl (fun _ => (Qi rfl ZM)) ?_
  refine QE rfl rfl rfl (Qm rfl Jo (by exact hS5.cell 0 rfl rfl)) ?_
  refine QE rfl rfl rfl (X8 rfl XA Xb (by exact hS5.blk 5 rfl) (by exact Nat.le_of_ble_eq_true rfl) rfl) ?_
  refine QE rfl rfl rfl (Xy (k := k) 1 hS5 keysKey Tryz.underlying90 rfl rfl rfl Hy (u := (ptO LfD.ad (t.lv k))) (Uf _)) ?_
  refine Qk rfl rfl rfl (fun _ => (Q6 rfl)) ?_
  refine VC.nil (Qc ?_)
  refine Qh (L' := [(8, _), (7, _), (0, _), (1, _), (5, _)]) (ZG rfl rfl rfl rfl rfl) ?_
  refine Qd (Qa (Qb rfl rfl ?_))
  rcases hq_X : t.lv k with _ | x
  ·refine Jc Tryz.underlying89 rfl rfl rfl ?_
   refine Qf (Qc ?_)
   refine Xl rfl ?_
   refine Qy (Qc (Qd (Qd ?_)))
   have hS7 := hS5.drew
   refine QJ [0, 1, 2, 3, 4, 5, 6] [] ZS (by kernel_rfl) ?_
   refine Qk rfl rfl rfl (fun _ => (Qr rfl)) ?_
   refine Qk rfl rfl rfl (fun _ => (Qq rfl)) ?_
   refine Qk rfl rfl rfl (fun _ => (Qi rfl Vy)) ?_
   refine QE rfl rfl rfl (Qm rfl B6 (by exact hS7.cell 0 rfl rfl)) ?_
   refine Qk rfl rfl rfl (fun _ => (Qi rfl JP)) ?_
   refine QE rfl rfl rfl (Qm rfl Yy (by exact hS7.cell 5 rfl rfl)) ?_
   refine QE rfl rfl rfl (Xy (k := k.1) 3 hS7 keysStr Tryz.underlying91 rfl rfl rfl zr_4 (u := .bool (t.dr k.1)) (Dr _ _)) ?_
   refine VC.nil (Qc ?_)
   refine Qh (L' := [(37, _), (7, _), (0, _), (1, _), (5, _)]) (ZG rfl rfl rfl rfl rfl) ?_
   refine QQ rfl (fun h8 => ?_) (fun h8 => ?_)
   ·have hdr : t.dr k.1 = true := h8
    refine Qd (Qa (Qe rfl rfl (Qf (Qc (Q0 (Qs (QC (Qs (QC (Qs ?_))))))))))
    refine QU (.inr rfl) rfl rfl ?_
    have hS9 := Z5 hq_T (hS7.pick [0, 1, 2, 3, 4, 5, 6, 7, 8, 9, 10] rfl)
    exact ⟨_, rfl, by rw [hse, Be hid0 hq_T hq_X hdr], QX (hS9.pick [2, 3, 4, 0, 5, 6] rfl)⟩
   have hdr : t.dr k.1 = false := h8
   refine Qy (Qc (Qa (Qb rfl rfl (Qj rfl rfl ?_))))
   refine Qg rfl J2 rfl ?_
   refine Qu rfl QV (by exact hS7.cell 0 rfl rfl) rfl ?_
   refine Qe rfl rfl (Qf (Qp ?_))
   have hS10 := Z5 hq_T (hS7.pick [0, 1, 2, 3, 4, 5, 6, 7, 8, 9, 10] rfl)
   obtain ⟨m2, hm2, hen2⟩ := Ci hen hid0 hq_T
   exact QF (L1 := [(0, _), (1, intV t.parent), (5, _)]) (Y1 rfl rfl rfl) (k1 := m2 + 1) (by omega) ⟨m2, t.parent, rfl, rfl, hS10.pick [1, 2, 3, 4, 0, 5, 6] rfl, by rw [hse, hm2, TM hid0 hq_T hq_X hdr], hen2, by omega⟩
  refine YI Tryz.underlying89 rfl rfl rfl ?_
  have hS6 := Yt (hS5.pick [2, 0, 1, 3, 4, 5, 6, 7, 8, 9, 10] rfl) hq_X
  refine Qf (Qc ?_)
  refine XO rfl ?_
  refine Qd (Qa (Qb rfl rfl (Qj rfl rfl ?_)))
  refine Qg rfl WD rfl ?_
  refine Qu rfl QV (by exact hS6.cell 0 rfl rfl) rfl ?_
  refine Qe rfl rfl (Qf (Qc ?_))
  refine Qh (L' := [(6, _), (7, _), (0, _), (1, _), (5, _)]) (ZG rfl rfl rfl rfl rfl) ?_
  refine Q0 (Qs (QC (Qs (QC (Qs ?_)))))
  refine QU (.inr rfl) rfl rfl ?_
  have hS11 := Z6 hq_X (hS6.pick [0, 1, 2, 3, 4, 5, 6, 7, 8, 9, 10, 11] rfl)
  have hS12 := Z5 hq_T (hS11.pick [1, 2, 0, 3, 4, 5, 6, 7, 8, 9, 10] rfl)
  exact ⟨_, rfl, by rw [hse, YM hid0 hq_T hq_X], QX (hS12.pick [2, 3, 4, 0, 5, 6] rfl)⟩
 have hid0 : i = 0 := Decidable.not_not.1 h3
 refine QY (Qv (Qv (Q4 (Qc (Qd ?_)))))
 have hS13 := hS2.drew
 refine QJ [0, 1, 2, 3, 4, 5, 6] [] ZS (by kernel_rfl) ?_
 refine Qk rfl rfl rfl (fun _ => (Qr rfl)) ?_
 refine Qk rfl rfl rfl (fun _ => (Qq rfl)) ?_
 refine Qk rfl rfl rfl (fun _ => (Qi rfl Un)) ?_
 refine QE rfl rfl rfl (Qm rfl Gx (by exact hS13.cell 1 rfl rfl)) ?_
 refine QE rfl rfl rfl (X8 rfl XA Xb (by exact hS13.blk 0 rfl) (by exact Nat.le_of_ble_eq_true rfl) rfl) ?_
 refine QE rfl rfl rfl (Xy (k := k) 2 hS13 keysKey Tryz.underlying81 rfl rfl rfl Y0 (u := intV (L.pres k)) (Kn _ _)) ?_
 refine Qk rfl rfl rfl (fun _ => (Q6 rfl)) ?_
 refine VC.nil (Qc ?_)
 refine Qh (L' := [(6, _)]) (Hc rfl) ?_
 refine Q0 ?_
 refine QU (.inr rfl) rfl rfl ?_
 exact ⟨_, rfl, by rw [hse, Jv hid0], QX (hS13.pick [1, 2, 3, 4, 5, 6] rfl)⟩
set_option maxRecDepth 100000 in
theorem DQ {w : World} {b sp mp mt ms n Fr : Nat} {cu : Int} {f : Int → Bool} {V : VS} {F : Th} (hS : Sat w [QN b [ptrV sp 0, .map (some mp), .map (some mt), intV cu, .map (some ms)], QG Xc ms (Jb f), Zu sp n Fr V, F]) (hn : n ≤ 800000000) (s : Int) :
    Calls Tryz.prog 53 #[ptrV b 0, intV s] w (Ret fun v w' => v = .tuple #[] ∧ Sat w' [QN b [ptrV sp 0, .map (some mp), .map (some mt), intV cu, .map (some ms)], QG Xc ms (Jb (Jw f s)), Zu sp (n + 1) Fr (refW V s), F]) := by
 refine Qt Tryz.func53 rfl Tryz.ntmps53 rfl ?_
 refine Qd (Qa (Qb rfl rfl ?_))
 refine Xg rfl rfl rfl ?_
 refine Qf (Qc ?_)
 refine Qx rfl (fun h1 => ?_) (fun h1 => ?_)
 ·refine Qd (Qa (Qb rfl rfl (Qj rfl rfl ?_)))
  refine Qg rfl XJ rfl ?_
  refine Qu rfl Xd (by exact hS.cell 0 rfl rfl) rfl ?_
  refine Qb rfl rfl ?_
  have hC2 := hS.split [2] [false, false, true, false] rfl; dsimp only [Q9, Qz, Q8, cap, Q7] at hC2
  refine Qo Ru rfl (TK hC2 (by omega) s) rfl ?_
  rintro e w2 ⟨_, rfl, e0, rfl, hS2⟩; refine ⟨_, rfl, ?_⟩
  replace hS2 := hS2.join rfl; dsimp only [QT, QS, cap, Q7] at hS2; clear hC2
  refine Qf (Qc (Qa (Qb rfl rfl (Qj rfl rfl ?_))))
  refine Qg rfl Ce rfl ?_
  refine Qu rfl ag_83 (by exact hS2.cell 1 rfl rfl) rfl ?_
  refine Qb rfl rfl ?_
  refine X0 (k := s) (v := .bool true) 2 hS2 keysInt Tryz.underlying83 rfl rfl rfl rfl ?_
  intro w3 hS3; dsimp only [List.set] at hS3; rw [Dq] at hS3
  clear hS2
  refine Qf ?_
  refine W3 (.inl rfl) rfl ?_
  exact ⟨_, rfl, rfl, by unfold Jw refW; rw [if_neg (by assumption), if_neg (by assumption)]; exact hS3.pick [1, 2, 0, 3] rfl⟩
 refine Qy ?_
 refine W3 (.inl rfl) rfl ?_
 exact ⟨_, rfl, rfl, by unfold Jw refW; rw [if_pos (Decidable.not_not.1 (by assumption)), if_pos (Decidable.not_not.1 (by assumption))]; exact ((Xw (m := n + 1) (by omega) (hS.pick [2, 0, 1, 3] rfl)).reorder [1, 2, 0, 3] rfl)⟩
set_option maxRecDepth 100000 in
theorem Hh {w : World} {b sp mp mt ms n Fr : Nat} {cu : Int} {f : Int → Bool} {V : VS} {F : Th} (hS : Sat w [QN b [ptrV sp 0, .map (some mp), .map (some mt), intV cu, .map (some ms)], QG Xc ms (Jb f), Zu sp n Fr V, F]) (hn : n ≤ 800000000) (s : Int) :
    Calls Tryz.prog 106 #[ptrV b 0, intV s] w (Ret fun v w' => v = .tuple #[] ∧ Sat w' [QN b [ptrV sp 0, .map (some mp), .map (some mt), intV cu, .map (some ms)], QG Xc ms (Jb (Js V f s)), Zu sp (n + 1) Fr (Zf V s), F]) := by
 refine Qt Tryz.func106 rfl Tryz.ntmps106 rfl ?_
 refine Qd (Qa (Qb rfl rfl (Qj rfl rfl ?_)))
 refine Qg rfl XJ rfl ?_
 refine Qu rfl Xd (by exact hS.cell 0 rfl rfl) rfl ?_
 refine Qb rfl rfl ?_
 have hC1 := hS.split [2] [false, false, true, false] rfl; dsimp only [Q9, Qz, Q8, cap, Q7] at hC1
 refine Qo Rt rfl (Rb hC1 (by omega) s) rfl ?_
 rintro e w1 ⟨_, rfl, e0, rfl, hS1⟩; refine ⟨_, rfl, ?_⟩
 replace hS1 := hS1.join rfl; dsimp only [QT, QS, cap, Q7] at hS1; clear hC1
 refine Qf (Qc (Qd (Qa (Qb rfl rfl (Qj rfl rfl ?_)))))
 refine Qg rfl XJ rfl ?_
 refine Qu rfl Xd (by exact hS1.cell 1 rfl rfl) rfl ?_
 refine Qb rfl rfl ?_
 have hC2 := hS1.split [0] [true, false, false, false] rfl; dsimp only [Q9, Qz, Q8, cap, Q7] at hC2
 refine Qo Dh rfl (BF hC2 s) rfl ?_
 rintro e w2 ⟨_, rfl, rfl, hS2⟩; refine ⟨_, rfl, ?_⟩
 replace hS2 := hS2.join rfl; dsimp only [QT, QS, cap, Q7] at hS2; clear hC2
 clear hS1
 refine U9 rfl rfl rfl ?_
 refine Qf (Qc ?_)
 refine Qh (L' := [(16, _), (0, _), (1, _)]) (Y1 rfl rfl rfl) ?_
 refine Qx rfl (fun h3 => ?_) (fun h3 => ?_)
 ·refine Qa (Qb rfl rfl (Qj rfl rfl ?_))
  refine Qg rfl Ce rfl ?_
  refine Qu rfl ag_83 (by exact hS2.cell 1 rfl rfl) rfl ?_
  refine Qb rfl rfl ?_
  refine X0 (k := s) (v := .bool true) 2 hS2 keysInt Tryz.underlying83 rfl rfl rfl rfl ?_
  intro w4 hS4; dsimp only [List.set] at hS4; rw [Dq] at hS4
  clear hS2
  refine Qf ?_
  refine W3 (.inl rfl) rfl ?_
  exact ⟨_, rfl, rfl, by unfold Js; rw [if_pos (by omega)]; exact hS4.pick [1, 2, 0, 3] rfl⟩
 refine Qy ?_
 refine W3 (.inl rfl) rfl ?_
 exact ⟨_, rfl, rfl, by unfold Js; rw [if_neg (by omega)]; exact hS2.pick [1, 2, 0, 3] rfl⟩
set_option maxRecDepth 100000 in
theorem hold_p {w : World} {b sp mp mt ms n Fr : Nat} {a : Nat} {v0 v2 v3 : Value} {cu old : Int} {f : Int → Bool} {V : VS} {F : Th} (hS : Sat w [QN b [ptrV sp 0, .map (some mp), .map (some mt), intV cu, .map (some ms)], QG Xc ms (Jb f), Zu sp n Fr V, QN a [v0, intV old, v2, v3], F]) (hn : n ≤ 700000000) (s : Int) :
    Calls Tryz.prog 73 #[ptrV b 0, ptrV a 1, intV s] w (Ret fun v w' => v = .tuple #[] ∧ Sat w' [QN b [ptrV sp 0, .map (some mp), .map (some mt), intV cu, .map (some ms)], QG Xc ms (Jb (Js (refW V s) (Jw f s) old)), Zu sp (n + 2) Fr (Zf (refW V s) old), QN a [v0, intV s, v2, v3], F]) := by
 refine Qt Tryz.func73 rfl Tryz.ntmps73 rfl ?_
 refine Qd (Qa (Qb rfl rfl (Qb rfl rfl ?_)))
 have hC1 := hS.split [0, 1, 2] [true, true, true, false, false] rfl; dsimp only [Q9, Qz, Q8, cap, Q7] at hC1
 refine Qo Gr rfl (DQ hC1 (by omega) s) rfl ?_
 rintro e w1 ⟨_, rfl, rfl, hS1⟩; refine ⟨_, rfl, ?_⟩
 replace hS1 := hS1.join rfl; dsimp only [QT, QS, cap, Q7] at hS1; clear hC1
 refine Qf (Qc (Qd (Qa (Qb rfl rfl (Qb rfl rfl (Qj rfl rfl ?_))))))
 refine Qu rfl QV (by exact hS1.cell 3 rfl rfl) rfl ?_
 have hC2 := hS1.split [0, 1, 2] [true, true, true, false, false] rfl; dsimp only [Q9, Qz, Q8, cap, Q7] at hC2
 refine Qo Ht rfl (Hh hC2 (by omega) old) rfl ?_
 rintro e w2 ⟨_, rfl, rfl, hS2⟩; refine ⟨_, rfl, ?_⟩
 replace hS2 := hS2.join rfl; dsimp only [QT, QS, cap, Q7] at hS2; clear hC2
 clear hS1
 refine Qf (Qc ?_)
 refine Qh (L' := [(1, _), (2, _)]) (Hz rfl rfl) ?_
 refine Qa (Qb rfl rfl (Qb rfl rfl (Qj rfl rfl ?_)))
 (refine Xa hS2 rfl rfl YL (by rfl) (i := 3) rfl (by exact Nat.le_of_ble_eq_true rfl) ?_)
 intro w3 hS4; dsimp only [List.set] at hS4
 clear hS2
 refine Qf ?_
 refine W3 (.inl rfl) rfl ?_
 exact ⟨_, rfl, rfl, hS4.pick [0, 1, 2, 3, 4] rfl⟩
set_option maxRecDepth 100000 in
theorem Pv {w : World} {b sp mp mt ms n Fr : Nat} {cu : Int} {pr : KD → Int} {f : Int → Bool} {V : VS} {F : Th} (hS : Sat w [QN b [ptrV sp 0, .map (some mp), .map (some mt), intV cu, .map (some ms)], QG Xt mp (Zn pr), QG Xc ms (Jb f), Zu sp n Fr V, F]) (hn : n ≤ 700000000) (k : KD) (s : Int) :
    Calls Tryz.prog 72 #[ptrV b 0, Xt k, intV s] w (Ret fun v w' => v = .tuple #[] ∧ Sat w' [QN b [ptrV sp 0, .map (some mp), .map (some mt), intV cu, .map (some ms)], QG Xt mp (Zn (XY pr k s)), QG Xc ms (Jb (Js V f (pr k))), Zu sp (n + 1) Fr (Zf V (pr k)), F]) := by
 refine Qt Tryz.func72 rfl Tryz.ntmps72 rfl ?_
 refine Qd (Qa ?_)
 refine Ze hS rfl rfl rfl ?_
 intro kb w1 hS1
 refine Qf (Qc (Qd ?_))
 have hS2 := hS1.drew
 refine QJ [0, 1, 2, 3, 4, 5, 6, 7] [7] ZS (by kernel_rfl) ?_
 refine Qk rfl rfl rfl (fun _ => (Qr rfl)) ?_
 refine Qk rfl rfl rfl (fun _ => (Qr rfl)) ?_
 refine Qk rfl rfl rfl (fun _ => (Qq rfl)) ?_
 refine Qk rfl rfl rfl (fun _ => (Qi rfl Un)) ?_
 refine QE rfl rfl rfl (Qm rfl Gx (by exact hS2.cell 1 rfl rfl)) ?_
 refine QE rfl rfl rfl (X8 rfl XA Xb (by exact hS2.blk 0 rfl) (by exact Nat.le_of_ble_eq_true rfl) rfl) ?_
 refine QE rfl rfl rfl (Xy (k := k) 2 hS2 keysKey Tryz.underlying81 rfl rfl rfl Y0 (u := intV (pr k)) (Kn _ _)) ?_
 refine Xm rfl rfl rfl rfl rfl rfl ?_
 have hC3 := hS2.split [1, 3, 4] [false, true, false, true, true, false] rfl; dsimp only [Q9, Qz, Q8, cap, Q7] at hC3
 refine Qo Ht rfl (Hh hC3 (by omega) (pr k)) rfl ?_
 rintro e w3 ⟨_, rfl, rfl, hS3⟩; refine ⟨_, rfl, ?_⟩
 replace hS3 := hS3.join rfl; dsimp only [QT, QS, cap, Q7] at hS3; clear hC3
 clear hS2
 refine XI (.skip (by kernel_rfl) (.skip (by kernel_rfl) (.skip (by kernel_rfl) .nil))) ?_
 refine VC.nil (Qc ?_)
 refine Qh (L' := [(4, _), (0, _), (2, _)]) (Y1 rfl rfl rfl) ?_
 refine Qd ?_
 have hS4 := hS3.drew
 refine QJ [0, 1, 2, 3, 4, 5, 6] [6] ZS (by kernel_rfl) ?_
 refine Qk rfl rfl rfl (fun _ => (Qr rfl)) ?_
 refine Qk rfl rfl rfl (fun _ => (Qq rfl)) ?_
 refine Qk rfl rfl rfl (fun _ => (Qi rfl Un)) ?_
 refine QE rfl rfl rfl (Qm rfl Gx (by exact hS4.cell 0 rfl rfl)) ?_
 refine QE rfl rfl rfl (X8 rfl XA Xb (by exact hS4.blk 3 rfl) (by exact Nat.le_of_ble_eq_true rfl) rfl) ?_
 refine Qk rfl rfl rfl (fun _ => (Qr rfl)) ?_
 refine Xm rfl rfl rfl rfl rfl rfl ?_
 refine X0 (k := k) (v := intV s) 4 hS4 keysKey Tryz.underlying81 rfl rfl rfl rfl ?_
 intro w5 hS5; dsimp only [List.set] at hS5
 clear hS4
 refine Zh (.skip (by kernel_rfl) (.skip (by kernel_rfl) .nil)) ?_
 refine VC.nil (Qc (Qd (Qa (Qb rfl rfl ?_))))
 refine X1 rfl rfl rfl ?_
 refine Qf (Qc ?_)
 refine Qh (L' := [(21, _), (4, _), (0, _)]) (Y1 rfl rfl rfl) ?_
 refine Qx rfl (fun h6 => ?_) (fun h6 => ?_)
 ·have hS7 := hS5.drew
  refine QJ [0, 1, 2, 3, 4, 5] [5] ZS (by kernel_rfl) ?_
  refine Qk rfl rfl rfl (fun _ => (Qr rfl)) ?_
  refine Qk rfl rfl rfl (fun _ => (Qq rfl)) ?_
  refine Qk rfl rfl rfl (fun _ => (Qi rfl Un)) ?_
  refine QE rfl rfl rfl (Qm rfl Gx (by exact hS7.cell 0 rfl rfl)) ?_
  refine QE rfl rfl rfl (X8 rfl XA Xb (by exact hS7.blk 3 rfl) (by exact Nat.le_of_ble_eq_true rfl) rfl) ?_
  refine Xm rfl rfl rfl rfl rfl rfl ?_
  refine JW (k := k) 4 hS7 keysKey Tryz.underlying81 rfl rfl rfl rfl ?_
  intro w8 hS8; dsimp only [List.set] at hS8
  clear hS7
  refine Zh (.skip (by kernel_rfl) (.skip (by kernel_rfl) .nil)) ?_
  refine VC.nil ?_
  refine W3 (.inl rfl) rfl ?_
  have hz := hS8.pick [0, 4, 1, 2, 5] rfl
  rw [Nd] at hz
  exact ⟨_, rfl, rfl, by rw [show s = 0 from (by assumption)]; exact hz⟩
 refine Qy ?_
 refine W3 (.inl rfl) rfl ?_
 have hz := hS5.pick [0, 4, 1, 2, 5] rfl
 rw [Nb (by assumption)] at hz
 exact ⟨_, rfl, rfl, hz⟩
end Go.Proofs.YtkcjfoaejijdoaaGreatDoor
