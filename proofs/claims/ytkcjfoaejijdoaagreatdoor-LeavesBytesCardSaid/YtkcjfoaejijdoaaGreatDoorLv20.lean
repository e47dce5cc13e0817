/- leaves: a commit, by contents -/
import Derived.Test.YtkcjfoaejijdoaaGreatDoorLv18
import Derived.Test.YtkcjfoaejijdoaaGreatDoorLvm
import Derived.Test.YtkcjfoaejijdoaaGreatDoorLv19
namespace Go.Proofs.YtkcjfoaejijdoaaGreatDoor
open Go.RowKit M
set_option linter.unusedVariables false
/-! a commit, by contents -/
def orR (y : LfA) (r : BitVec 64) : LfA := { y with rd := y.rd ||| (r &&& ~~~y.wr) }
noncomputable def rdS (p : Int) (t : TrA) (A : LvA) (k : KD) : LvA := match t.lv k with | none => A | some x => if x.rd = 0#64 then A else Zt A p k (orR (Zb A p k) x.rd)
noncomputable def W8 (p : Int) (A : LvA) (ob : Bs) : LvA := if p = 0 then dropP A ob else HL A p ob
def gvX (y : LfA) (c : Bs) (wr : BitVec 64) : LfA := { y with own := c, wr := y.wr ||| wr }
/-- what a leaf makes of the page that its parent sees -/
def KU (A0 : LvA) (p : Int) (k : KD) (x : LfA) : Bs := U6 (Wx A0 p k) x.own x.wr
noncomputable def Ri (A0 : LvA) (p : Int) (t : TrA) (A : LvA) (k : KD) : LvA := match t.lv k with | none => A | some x => if x.wr = 0#64 then A else if p = 0 then { A with pres := HW A.pres k (KU A0 p k x) } else Zt A p k (gvX (Zb A p k) (KU A0 p k x) x.wr)
noncomputable def SC (A : LvA) (id : Int) (t : TrA) (l : List KD) (obs : List Bs) : LvA :=
  M2 (l.foldl (Ri A t.parent t) (obs.foldl (W8 t.parent) (if t.parent = 0 then A else l.foldl (rdS t.parent t) A))) id
/-- leaves of dropped objects are written as a whole -/
def DrA (A : LvA) : Prop := ∀ i t k x, A.tr i = some t → t.dr k.1 = true → t.lv k = some x → x.wr = BitVec.allOnes 64
theorem Y9 {α β : Type} {f : α → β → α} {a : α} {l : List β} {i : Nat} {k : β} (h : l[i]? = some k) : (l.take (i + 1)).foldl f a = f ((l.take i).foldl f a) k := by
  rw [List.take_add_one, h, List.foldl_append]; rfl
theorem Ma {now own : Bs} {wr : BitVec 64} (ho : own.length = 64) (hn : now.length = 64) (h : ∀ j, j < 64 → wr.getLsbD j = false → now[j]? = own[j]?) : U6 now own wr = own := by
  apply List.ext_getElem?
  intro j
  by_cases hj : j < 64
  · unfold U6
    rw [List.getElem?_map, List.getElem?_range hj]
    simp only [Option.map_some]
    split
    · rw [getD_some (by omega)]
    · rename_i q
      rw [← h j hj (by simpa using q), getD_some (by omega)]
  · rw [List.getElem?_eq_none (by simp [U6]; omega), List.getElem?_eq_none (by omega)]
theorem mgB_all {now own : Bs} (ho : own.length = 64) (hn : now.length = 64) : U6 now own (BitVec.allOnes 64) = own :=
  Ma ho hn fun j hj h => by rw [BitVec.getLsbD_allOnes] at h; simp [hj] at h
theorem mgB_bit {now own : Bs} {wr : BitVec 64} {j : Nat} (hj : j < 64) (hn : now.length = 64) (h : wr.getLsbD j = false) : (U6 now own wr)[j]? = now[j]? := by
  unfold U6
  rw [List.getElem?_map, List.getElem?_range hj]
  simp only [Option.map_some]
  rw [if_neg (by rw [h]; decide), getD_some (by omega)]
/-- what is seen of a page hangs on that page alone -/
theorem HB {A A' : LvA} {k : KD} (hp : A'.pres k = A.pres k) (ht : ∀ i, (A'.tr i).map (fun t => (t.parent, t.lv k, t.dr k.1)) = (A.tr i).map (fun t => (t.parent, t.lv k, t.dr k.1))) : ∀ n i, Jg A' n i k = Jg A n i k
  | 0, _ => rfl
  | n + 1, i => by
    unfold Jg
    have h := ht i
    split
    · exact hp
    · cases q : A.tr i with
      | none =>
        cases q' : A'.tr i with
        | none => rfl
        | some t' => rw [q, q'] at h; simp at h
      | some t =>
        cases q' : A'.tr i with
        | none => rw [q, q'] at h; simp at h
        | some t' =>
          rw [q, q'] at h
          simp only [Option.map_some, Option.some.injEq, Prod.mk.injEq] at h
          obtain ⟨h1, h2, h3⟩ := h
          dsimp only
          rw [h1, h2, h3]
          cases t.lv k with
          | some x => rfl
          | none =>
            dsimp only
            split
            · rfl
            · exact HB hp ht n _
theorem TI {A : LvA} {p : Int} {k : KD} {t : TrA} (h0 : p ≠ 0) (ht : A.tr p = some t) : (Zb A p k).own = Wx A p k := by
  unfold Zb
  rw [ht]; dsimp only
  cases hx : t.lv k with
  | none => rfl
  | some x => unfold Wx; rw [Jg, if_neg h0, ht]; dsimp only; rw [hx]
theorem Y7 {A : LvA} {p i : Int} {k : KD} {y : LfA} (h : i ≠ p) : (Zt A p k y).tr i = A.tr i := by
  unfold Zt
  cases A.tr p with
  | none => rfl
  | some t => dsimp only; rw [QI h]
theorem Uf {A : LvA} {p : Int} {k : KD} {y : LfA} : (Zt A p k y).pres = A.pres := by
  unfold Zt
  cases A.tr p <;> rfl
theorem DI {A : LvA} {p : Int} {k j : KD} {y : LfA} {t : TrA} (h0 : p ≠ 0) (ht : A.tr p = some t) : Wx (Zt A p k y) p j = if j = k then y.own else Wx A p j := by
  split
  · rename_i e
    subst e
    unfold Wx
    rw [Jg, if_neg h0, ZI ht]
    dsimp only
    rw [Q3]
    dsimp only
    rw [Q3]
  · rename_i e
    refine HB (by rw [Uf]) (fun i => ?_) _ _
    by_cases e2 : i = p
    · subst e2
      rw [ZI ht, ht]
      dsimp only
      rw [Q3]
      simp only [Option.map_some]
      rw [QI e]
    · rw [Y7 e2]
theorem Gk {A : LvA} {p : Int} {ob : Bs} {t : TrA} (ht : A.tr p = some t) : HL A p ob = { A with tr := Xj A.tr p (some { t with lv := Z8 (fun j => j.1 = ob) t.lv, dr := JF t.dr ob }) } := by unfold HL; rw [ht]
theorem Tl {A : LvA} {p : Int} {j : KD} {ob : Bs} (h : j.1 ≠ ob) : Wx (HL A p ob) p j = Wx A p j := by
  cases ht : A.tr p with
  | none => unfold HL; rw [ht]
  | some t =>
    rw [Gk ht]
    unfold Wx
    refine HB (A := A) (A' := { A with tr := Xj A.tr p (some { t with lv := Z8 (fun j => j.1 = ob) t.lv, dr := JF t.dr ob }) }) rfl (fun i => ?_) _ _
    by_cases e2 : i = p
    · subst e2
      dsimp only
      rw [Q3, ht]
      simp only [Option.map_some]
      have e1 : Z8 (fun j => j.1 = ob) t.lv j = t.lv j := by unfold Z8; rw [if_neg h]
      have e3 : JF t.dr ob j.1 = t.dr j.1 := by unfold JF; rw [if_neg h]
      rw [e1, e3]
    · dsimp only; rw [QI e2]
theorem Mx {A : LvA} {p i : Int} {ob : Bs} (h : i ≠ p) : (HL A p ob).tr i = A.tr i := by
  unfold HL
  cases A.tr p with
  | none => rfl
  | some t => dsimp only; rw [QI h]
/-- while a trial's doings go to its parent p: what p sees of the pages that are still to come is as it was, or does not matter -/
structure SeI (A0 A : LvA) (id p : Int) (t : TrA) (obs : List Bs) (gv : List KD) : Prop where
  tr : A.tr id = some t
  par : p ≠ 0 → ∃ tp, A.tr p = some tp
  sees : p ≠ 0 → ∀ k, k ∉ gv → k.1 ∉ obs → Wx A p k = Wx A0 p k
  oth : ∀ i, i ≠ p → A.tr i = A0.tr i
theorem SeI.start {A0 : LvA} {id p : Int} {t : TrA} (ht : A0.tr id = some t) (hp : p ≠ 0 → ∃ tp, A0.tr p = some tp) : SeI A0 A0 id p t [] [] := ⟨ht, hp, fun _ _ _ _ => rfl, fun _ _ => rfl⟩
theorem SeI.read {A0 A : LvA} {id p : Int} {t : TrA} (h : SeI A0 A id p t [] []) (hne : id ≠ p) (h0 : p ≠ 0) (k : KD) : SeI A0 (rdS p t A k) id p t [] [] := by
  unfold rdS
  cases hx : t.lv k with
  | none => exact h
  | some x =>
    dsimp only
    split
    · exact h
    · obtain ⟨tp, htp⟩ := h.par h0
      refine ⟨by rw [Y7 hne]; exact h.tr, fun _ => ⟨_, by rw [ZI htp]; exact Q3⟩, fun _ j hj hb => ?_, fun i hi => by rw [Y7 hi]; exact h.oth i hi⟩
      rw [DI h0 htp]
      split
      · rename_i e
        subst e
        rw [show (orR (Zb A p j) x.rd).own = (Zb A p j).own from rfl, TI h0 htp]
        exact h.sees h0 j hj hb
      · exact h.sees h0 j hj hb
theorem SeI.drop {A0 A : LvA} {id p : Int} {t : TrA} {obs : List Bs} {ob : Bs} (h : SeI A0 A id p t obs []) (hne : id ≠ p) : SeI A0 (W8 p A ob) id p t (obs ++ [ob]) [] := by
  unfold W8
  by_cases h0 : p = 0
  · rw [if_pos h0]
    exact ⟨h.tr, fun q => absurd h0 q, fun q => absurd h0 q, h.oth⟩
  · rw [if_neg h0]
    obtain ⟨tp, htp⟩ := h.par h0
    refine ⟨by rw [Mx hne]; exact h.tr, fun _ => ⟨_, by rw [Gk htp]; exact Q3⟩, fun _ j hj hb => ?_, fun i hi => by rw [Mx hi]; exact h.oth i hi⟩
    rw [Tl (fun e => hb (by simp [e]))]
    exact h.sees h0 j hj fun q => hb (by simp [q])
theorem SeI.give {A0 A : LvA} {id p : Int} {t : TrA} {obs : List Bs} {gv : List KD} (h : SeI A0 A id p t obs gv) (hne : id ≠ p) (k : KD) : SeI A0 (Ri A0 p t A k) id p t obs (gv ++ [k]) := by
  have up : SeI A0 A id p t obs (gv ++ [k]) := ⟨h.tr, h.par, fun h0 j hj hb => h.sees h0 j (fun q => hj (by simp [q])) hb, h.oth⟩
  unfold Ri
  cases hx : t.lv k with
  | none => exact up
  | some x =>
    dsimp only
    split
    · exact up
    · split
      · rename_i h0
        exact ⟨h.tr, fun q => absurd h0 q, fun q => absurd h0 q, h.oth⟩
      · rename_i h0
        obtain ⟨tp, htp⟩ := h.par h0
        refine ⟨by rw [Y7 hne]; exact h.tr, fun _ => ⟨_, by rw [ZI htp]; exact Q3⟩, fun _ j hj hb => ?_, fun i hi => by rw [Y7 hi]; exact h.oth i hi⟩
        rw [DI h0 htp, if_neg (fun e => hj (by simp [e]))]
        exact h.sees h0 j (fun q => hj (by simp [q])) hb
/-- the leaf that is given agrees with its base where it is not written -/
theorem SeI.ag {A0 A : LvA} {id p : Int} {t : TrA} {obs : List Bs} {gv : List KD} {k : KD} {x : LfA} (h : SeI A0 A id p t obs gv) (h0 : p ≠ 0) (hg : AgL A) (hk : k ∉ gv) (hl : (Wx A0 p k).length = 64) (hd : k.1 ∈ obs → x.wr = BitVec.allOnes 64) : NR (gvX (Zb A p k) (KU A0 p k x) x.wr) := fun j hj hw => by
  have hw' : (Zb A p k).wr.getLsbD j = false ∧ x.wr.getLsbD j = false := by
    have : ((Zb A p k).wr ||| x.wr).getLsbD j = false := hw
    rw [BitVec.getLsbD_or, Bool.or_eq_false_iff] at this
    exact this
  obtain ⟨tp, htp⟩ := h.par h0
  have hb : k.1 ∉ obs := fun q => by
    have h2 := hw'.2
    rw [hd q, BitVec.getLsbD_allOnes] at h2
    simp [hj] at h2
  show (Zb A p k).base[j]? = (KU A0 p k x)[j]?
  rw [hg.tou j hj hw'.1, TI h0 htp, h.sees h0 k hk hb]
  exact (mgB_bit hj hl hw'.2).symm
end Go.Proofs.YtkcjfoaejijdoaaGreatDoor
/- leaves: names in order -/
namespace Go.Proofs.YtkcjfoaejijdoaaGreatDoor
open Go.RowKit M
set_option linter.unusedVariables false
def ItS (g : Bs → Option Value) (gf : Nat) (caps : List Value) (It : Th) : Prop := ∀ (l : Nat) (J : List Bs → Th) (X : Th) (w : World), Sat w [J [], It, X] → VX Tryz.prog l WM (okC g) J → Calls Tryz.prog gf (.func (.yield l) #[] #[] :: caps).toArray w (Ret fun _ w' => ∃ ks, AllC g ks ∧ Sat w' [J ks, It, X])
def JS (l D b : Nat) (rec : Loop) (ks : List Bs) : Th := Tt fun v : Value => starL [Jl l rec, Wu D, QO b [v], rowT stC v ks]
set_option maxRecDepth 100000 in
theorem appS {w : World} {g : Bs → Option Value} {It F : Th} {gf : Nat} {caps : List Value} (hS : Sat w [It, F]) (hcal : QM Tryz.prog gf = true) (hIt : ItS g gf caps It) (hlen : ∀ ks, Came g ks → ks.length ≤ 1000000000) :
    Calls Tryz.prog 166 [.slice none 0 0, .func (.func gf) #[] caps.toArray].toArray w (Ret fun v w' => ∃ ks, AllC g ks ∧ Sat w' [rowT stC v ks, It, F]) := by
 refine Hs Tryz.func166 rfl Tryz.ntmps166 rfl ?_
 refine Qd (Qa ?_)
 refine Zf hS rfl rfl rfl ?_
 intro b1 w1 hS1
 refine Qe rfl rfl (Qf (Qc (Qd (Qd (Qa (Qb rfl rfl (Qf (Qc (Q1 ?_)))))))))
 refine He (caps := caps) rfl hcal ?_
 intro rec hr1 hr2 hr3 hr4 hr5 htn htf
 have hE := ((hS1.enter_loop rec).row_nil stC)
 have hE2 := (hE.split [1, 2, 3, 0] [true, true, true, true, false, false] rfl); dsimp only [QC, Qz, Q9, Q8, Q7] at hE2
 have hJ0 := Sat.ex_intro (f := fun v : Value => starL [Jl _ _, Wu _, QO _ [v], rowT stC v []]) _ (Sat.fold (As := [Jl _ _, Wu _, QO _ [_], rowT stC _ []]) hE2)
 refine (hIt _ (JS _ _ _ _) _ _ (hJ0.join rfl) ?_).mono ?_
 ·intro ks k R w2 hok hw2
  obtain ⟨v, hw3⟩ := hw2.ex
  have hw4 := hw3.flat; dsimp only [Q8, Q7] at hw4
  have hl1 := hlen _ hok
  simp only [List.length_append, List.length_cons, List.length_nil] at hl1
  refine Dz (hw4.loop 0 rfl) hr1 hr2 hr3 hr4 hr5 htn htf rfl (by intro o ho c; simp at ho; subst ho; simp) (by intro o ho c; simp at ho; rcases ho with rfl | rfl | rfl | rfl | rfl <;> simp) ?_
  intro QA hA
  refine Qe rfl rfl (Qf ?_)
  refine hA _ _ (hw4.loop 0 rfl) ?_
  intro QB hB
  have h1v : v.oneCell' = true := hw4.own_one 3 rfl
  have hw5 := hw4.loop_put 0 rfl (rec' := { rec with state := .busy }); dsimp only [List.set] at hw5
  refine Qu rfl VU (hw5.cell 2 rfl rfl) rfl ?_
  refine Qb rfl rfl ?_
  refine ZK stC [k] hw5 rfl Tryz.underlying61 ifz_9 rfl rfl rfl rfl (by rfl) rfl ?_
  intro b3 w3 hw6
  refine WY stC 4 hw6 rfl rfl rfl (hw6.rd 0 rfl (by simp)) Tryz.underlying61 Tryz.underlying61 (by intro k hk; cases hk) ifo_9 rfl (by simp; omega) rfl (by simp; omega) ?_
  intro v4 w4 hw7; dsimp only [List.set] at hw7
  have h1v4 : v4.oneCell' = true := hw7.own_one 4 rfl
  refine Xb hw7 rfl rfl sz_61 h1v4 (i := 3) rfl (by simp) ?_
  intro w5 hw8; dsimp only [List.set] at hw8
  refine Qf ?_
  refine hB _ _ (hw8.loop 1 rfl) ?_
  have hw9 := hw8.loop_put 1 rfl (rec' := rec); dsimp only [List.set] at hw9
  exact (Sat.ex_intro (f := fun v : Value => starL [Jl _ _, Wu _, QO _ [v], rowT stC v (ks ++ [k])]) v4 (Sat.fold (As := [Jl _ _, Wu _, QO _ [_], rowT stC _ _]) (hw9.pick [1, 2, 3, 4, 5] rfl)))
 ·rintro e w3 ⟨v0, rfl, ks, hall, hw3⟩
  obtain ⟨v, hw4⟩ := hw3.ex
  have hw5 := hw4.flat; dsimp only [Q8, Q7] at hw5
  refine ⟨⟨v0, rfl⟩, rec, hw5.loop 0 rfl, by rw [hr1]; simp, hr2, ?_⟩
  intro a ha1 ha2
  have hw6 := hw5.loop_put 0 rfl (rec' := { rec with state := .exhausted }); dsimp only [List.set] at hw6
  obtain ⟨hD, hw7⟩ := hw6.defer_put (o := .deferred none) 1 rfl
  dsimp only [List.eraseIdx] at hw7
  refine D7 (n := 13) (by rw [ha1]; exact htn) (by rw [ha1]; exact htf) ha2 rfl VU (hw6.cell 2 rfl rfl) hD rfl rfl rfl ?_
  exact ⟨_, rfl, ks, hall, hw7.pick [2, 3, 4] rfl⟩
def keysTS (c b : Nat) (g : Bs → Option Value) : Th := starL [QO c [.map (some b)], QH WM b g]
theorem itS (c b : Nat) (g : Bs → Option Value) : ItS g 118 [ptrV c 0] (keysTS c b g) := fun l J X w hS hY => by
  have h1 := (hS.perm (List.Perm.swap _ _ _)).flat; dsimp only [Q8, Q7] at h1
  refine (kd_it (h1.reorder [2, 0, 1, 3] rfl) hY).mono fun e w' h => h.mono fun v w' ⟨ks, h2, h3⟩ => ⟨ks, h2, ?_⟩
  exact (Sat.fold (As := [QO c [.map (some b)], QH WM b g]) (h3.reorder [1, 2, 0, 3] rfl)).perm (List.Perm.swap _ _ _)
theorem sortS0 {w : World} {v : Value} {l : List Bs} {As : List Th} (hS : Sat w (rowT stC v l :: As)) (hl : l.length < 4611686018427387904) : Calls Tryz.prog 117 #[v] w (Ret fun u w' => u = .tuple #[] ∧ Sat w' (rowT stC v (ZM l) :: As)) :=
  T6 Tryz.slices_Sort_string Tryz.slices_Sort_string_none hS hl
theorem colS {w : World} {g : Bs → Option Value} {It F : Th} {gf : Nat} {caps : List Value} (hS : Sat w [It, F]) (hcal : QM Tryz.prog gf = true) (hIt : ItS g gf caps It) (hlen : ∀ ks, Came g ks → ks.length ≤ 1000000000) :
    Calls Tryz.prog 116 #[.func (.func gf) #[] caps.toArray] w (Ret fun v w' => ∃ ks, AllC g ks ∧ Sat w' [rowT stC v ks, It, F]) := by
 refine Qt Tryz.func116 rfl Tryz.ntmps116 rfl ?_
 refine Qd (Qa (Qe rfl rfl (Qf (Qc (Qd (Qa (Qb rfl rfl ?_)))))))
 have hC1 := hS.split [0] [true, false] rfl; dsimp only [QC, Qz, Q9, Q8, Q7] at hC1
 refine Qo cal_166 rfl (appS hC1 hcal hIt hlen) rfl ?_
 rintro e w1 ⟨_, rfl, ks, hks, hS1⟩; refine ⟨_, rfl, ?_⟩
 replace hS1 := hS1.join rfl; dsimp only [QU, QT, Q8, Q7] at hS1; clear hC1
 have h1v := hS1.own_one 0 rfl
 refine Qe rfl rfl (Qf (Qc (Q0 ?_)))
 refine QV (.inr rfl) rfl rfl ?_
 exact ⟨_, rfl, ks, hks, hS1⟩
theorem Tb {w : World} {g : Bs → Option Value} {It F : Th} {gf : Nat} {caps : List Value} (hS : Sat w [It, F]) (hcal : QM Tryz.prog gf = true) (hIt : ItS g gf caps It) (hlen : ∀ ks, Came g ks → ks.length ≤ 1000000000) :
    Calls Tryz.prog 51 #[.func (.func gf) #[] caps.toArray] w (Ret fun v w' => ∃ ks, AllC g ks ∧ Sat w' [rowT stC v (ZM ks), It, F]) := by
 refine Qt Tryz.func51 rfl Tryz.ntmps51 rfl ?_
 refine Qd (Qa (Qe rfl rfl (Qf (Qc (Qd (Qa (Qb rfl rfl ?_)))))))
 have hC1 := hS.split [0] [true, false] rfl; dsimp only [QC, Qz, Q9, Q8, Q7] at hC1
 refine Qo cal_116 rfl (colS hC1 hcal hIt hlen) rfl ?_
 rintro e w1 ⟨_, rfl, ks, hks, hS1⟩; refine ⟨_, rfl, ?_⟩
 replace hS1 := hS1.join rfl; dsimp only [QU, QT, Q8, Q7] at hS1; clear hC1
 have h1v := hS1.own_one 0 rfl
 have hln := hlen _ (Came.of_all hks)
 refine Qe rfl rfl (Qf (Qc (Qd (Qa (Qb rfl rfl ?_)))))
 have hC2 := hS1.split [0] [true, false, false] rfl; dsimp only [QC, Qz, Q9, Q8, Q7] at hC2
 refine Qo cal_117 rfl (sortS0 hC2 (by omega)) rfl ?_
 rintro e w2 ⟨_, rfl, rfl, hS2⟩; refine ⟨_, rfl, ?_⟩
 replace hS2 := hS2.join rfl; dsimp only [QU, QT, Q8, Q7] at hS2; clear hC2
 clear hS1
 refine Qf (Qc (Qd (Qa (Qb rfl rfl (Qe rfl rfl (Qf (Qc (Q0 ?_))))))))
 refine QV (.inr rfl) rfl rfl ?_
 exact ⟨_, rfl, ks, hks, hS2⟩
end Go.Proofs.YtkcjfoaejijdoaaGreatDoor
/- leaves: Commit of nobody, of a parent -/
namespace Go.Proofs.YtkcjfoaejijdoaaGreatDoor
open Go.RowKit M
set_option linter.unusedVariables false
section
variable {w : World} {As : List Th}
/-- a cell of a leaf, from all trials -/
theorem TW {T : Int → Option TrD} {i : Int} {t : TrD} {k : KD} {x : LfD} (hS : Sat w As) (j : Nat) (hj : As[j]? = some (Zh UW T)) (ht : T i = some t) (hx : t.lv k = some x) (q : Nat) {v : Value} (hv : (lfV x)[q]? = some v) : w.cell? ⟨x.ad, q, none⟩ = some v := by
  have h1 := Z5 (hS.pull j hj) ht
  have h2 := Yu (h1.perm ((List.Perm.cons _ (List.Perm.swap _ _ _)).trans (List.Perm.swap _ _ _))) hx
  exact h2.cell 0 rfl hv
/-- a cell of a trial, from all leaves -/
theorem Vq {b : Nat} {L : LvD} {i : Int} {t : TrD} (hS : Sat w As) (j : Nat) (hj : As[j]? = some (ZV b L)) (ht : L.tr i = some t) (q : Nat) {v : Value} (hv : (trV t)[q]? = some v) : w.cell? ⟨t.ad, q, none⟩ = some v := by
  have h1 := XQ (hS.pull j hj)
  have h2 := Z5 (h1.pull 3 rfl) ht
  exact h2.cell 0 rfl hv
theorem Mb {b : Nat} {L : LvD} {i : Int} {t : TrD} {k : KD} {x : LfD} (hS : Sat w As) (j : Nat) (hj : As[j]? = some (ZV b L)) (ht : L.tr i = some t) (hx : t.lv k = some x) (q : Nat) {v : Value} (hv : (lfV x)[q]? = some v) : w.cell? ⟨x.ad, q, none⟩ = some v :=
  TW (XQ (hS.pull j hj)) 3 rfl ht hx q hv
end
end Go.Proofs.YtkcjfoaejijdoaaGreatDoor
/- leaves: New, roomy -/
namespace Go.Proofs.YtkcjfoaejijdoaaGreatDoor
open Go.RowKit M
set_option linter.unusedVariables false
noncomputable def JN (sp mp mt ms : Nat) : LvD := ⟨sp, mp, mt, ms, fun _ => 0, fun _ => none, 0, fun _ => false⟩
def PN : LvA := ⟨fun _ => zer, fun _ => none⟩
theorem PM {sp mp mt ms : Nat} : LvI 0 (JN sp mp mt ms) (fun _ => none) ∧ Q5 (JN sp mp mt ms) (fun _ => none) = PN ∧ AliveLe (fun _ => none) 0 ∧ SzLe (JN sp mp mt ms) 0 ∧ DrA PN := by
  have hf : ∀ p, Xf (JN sp mp mt ms) p = 0 := fun p => by cases p <;> rfl
  have e1 : Q5 (JN sp mp mt ms) (fun _ => none) = PN := rfl
  refine ⟨⟨⟨fun s hs => ⟨0, YY (f := fun _ => 0) (fun p => by rw [hf]) (Rr hs), rfl⟩, fun s x h => by cases h⟩, ⟨rfl, fun _ => 0, fun _ => Nat.le_refl _, fun i t h => by cases h⟩, ?_⟩, e1, ⟨[], by simp, fun j h => absurd rfl h⟩, ⟨[], by simp, fun k h => absurd rfl h, fun i t k x h => by cases h⟩, fun i t k x h => by cases h⟩
  intro i t k x h
  cases h
theorem Nl {w : World} {b p mp mt ms : Nat} {As : List Th} (h : Sat w (QO b [ptrV p 0, .map (some mp), .map (some mt), intV 0, .map (some ms)] :: QH Xu mp (fun _ => none) :: QH Xd mt (fun _ => none) :: Zh UW (fun _ : Int => none) :: QH Xd ms (fun _ => none) :: As)) :
    Sat w (QO b [ptrV (JN p mp mt ms).sp 0, .map (some (JN p mp mt ms).mp), .map (some (JN p mp mt ms).mt), intV (JN p mp mt ms).cur, .map (some (JN p mp mt ms).ms)] :: QH Xu (JN p mp mt ms).mp (Zo (JN p mp mt ms).pres) :: QH Xd (JN p mp mt ms).mt (XV TrD.ad (JN p mp mt ms).tr) :: Zh UW (JN p mp mt ms).tr :: QH Xd (JN p mp mt ms).ms (Jc (JN p mp mt ms).sh) :: As) := by
  have e1 : Zo (JN p mp mt ms).pres = fun _ => none := Nd
  have e2 : Jc (JN p mp mt ms).sh = fun _ => none := boG_nil
  rw [e1, e2]
  exact h
set_option maxRecDepth 100000 in
theorem PR {w : World} {p : Nat} {F : Th} (hS : Sat w [F]) :
    Calls Tryz.prog 16 #[ptrV p 0] w (Ret fun v w' => ∃ b mp mt ms, v = ptrV b 0 ∧ Sat w' [ZV b (JN p mp mt ms), F]) := by
 refine Qt Tryz.func16 rfl Tryz.ntmps16 rfl ?_
 refine Qd (Qa (Qe rfl rfl (Qf (Qc (Qd (Qa (Qb rfl rfl ?_)))))))
 refine ZC Xu hS rfl ?_
 intro mp w1 hS1
 refine ZC Xd hS1 rfl ?_
 intro mt w2 hS2
 clear hS1
 refine ZC Xd hS2 rfl ?_
 intro ms w3 hS3
 clear hS2
 refine GQ (vs' := [ptrV p 0, .map (some mp), .map (some mt), intV 0, .map (some ms)]) rfl GC asz_85 zr_85 rfl rfl rfl ?_
 refine Zf hS3 rfl rfl rfl ?_
 intro b w4 hS4
 clear hS3
 refine Qe rfl rfl (Qf (Qc (Q0 ?_)))
 refine QV (.inr rfl) rfl rfl ?_
 have hA := ME (κ := Int) UW (hS4.pick [0, 3, 2, 1, 4] rfl)
 exact ⟨_, rfl, b, mp, mt, ms, rfl, QY (L := JN p mp mt ms) (Nl (hA.reorder [1, 2, 3, 0, 4, 5] rfl))⟩
set_option maxRecDepth 100000 in
theorem DN {w : World} {F : Th} (hS : Sat w [F]) :
    Calls Tryz.prog 9 #[] w (Ret fun v w' => ∃ b p mp mt ms, v = .tuple #[ptrV b 0, ptrV p 0] ∧ Sat w' [ZV b (JN p mp mt ms), Zv p 0 256 (fun _ => none), F]) := by
 refine Qt Tryz.func9 rfl Tryz.ntmps9 rfl ?_
 refine Qd (Qa (Qe rfl rfl (Qe rfl rfl (Qf (Qc (Qd (Qa ?_)))))))
 have hC1 := hS.split [] [false] rfl; dsimp only [QC, Qz, Q9, Q8, Q7] at hC1
 refine Qo cal_15 rfl (stNew hC1 256 4096 4096) rfl ?_
 rintro e w1 ⟨_, rfl, p, rfl, hS1⟩; refine ⟨_, rfl, ?_⟩
 replace hS1 := hS1.join rfl; dsimp only [QU, QT, Q8, Q7] at hS1; clear hC1
 refine Qe rfl rfl (Qf (Qc (Qd (Qd (Qa (Qb rfl rfl ?_))))))
 refine ZX Tryz.underlying25 rfl rfl rfl ?_
 refine Qf (Qc ?_)
 refine Xm rfl ?_
 refine Qy (Qc (Qd (Qa (Qb rfl rfl ?_))))
 have hC2 := hS1.split [] [false, false] rfl; dsimp only [QC, Qz, Q9, Q8, Q7] at hC2
 refine Qo cal_16 rfl (PR hC2) rfl ?_
 rintro e w2 ⟨_, rfl, b, mp, mt, ms, rfl, hS2⟩; refine ⟨_, rfl, ?_⟩
 replace hS2 := hS2.join rfl; dsimp only [QU, QT, Q8, Q7] at hS2; clear hC2
 clear hS1
 refine Qb rfl rfl (Qe rfl rfl (Qe rfl rfl (Qf (Qc (Q0 ?_)))))
 refine Wo (.inr rfl) rfl rfl rfl ?_
 exact ⟨_, rfl, b, p, _, _, _, rfl, hS2.pick [0, 1, 2] rfl⟩
end Go.Proofs.YtkcjfoaejijdoaaGreatDoor
/- leaves: Copy, plain -/
namespace Go.Proofs.YtkcjfoaejijdoaaGreatDoor
open Go.RowKit M
set_option linter.unusedVariables false
/-! copying pages, by contents -/
noncomputable def cpWr (id : Int) (A : LvA) (q : KD × Bs) : LvA := if id = 0 then { A with pres := HW A.pres q.1 q.2 } else Zt A id q.1 (ML (Zb A id q.1) q.2)
/-- what is noted: one reference for each time -/
def NoI (ex : Int → Int) (l : List Int) : Prop := ∀ j, j ≠ 0 → ex j = (l.count j : Int)
theorem NoI.nn {ex : Int → Int} {l : List Int} (h : NoI ex l) : NN ex := fun j hj => by rw [h j hj]; omega
theorem NoI.add {ex : Int → Int} {l : List Int} {s : Int} (h : NoI ex l) : NoI (fun j => ex j + dl s j) (l ++ [s]) := fun j hj => by
  show ex j + dl s j = _
  rw [h j hj, List.count_append]
  by_cases e : j = s
  · subst e; rw [ZE]; simp
  · have e2 : ¬ s = j := fun q => e q.symm
    rw [W2 e]; simp [List.count_cons, e2]
theorem NoI.ge {ex : Int → Int} {l : List Int} {s : Int} (h : NoI ex (s :: l)) (h0 : s ≠ 0) : 1 ≤ ex s := by
  rw [h s h0]; simp; omega
theorem NoI.tail {ex : Int → Int} {l : List Int} {s : Int} (h : NoI ex (s :: l)) : NoI (fun j => ex j - dl s j) l := fun j hj => by
  show ex j - dl s j = _
  rw [h j hj]
  by_cases e : j = s
  · subst e; rw [ZE]; simp
  · have e2 : ¬ s = j := fun q => e q.symm
    rw [W2 e]; simp [List.count_cons, e2]
theorem refV_W {V : VS} {s : Int} (h0 : V 0 = none) : YO V s = refW V s := by
  unfold refW
  split
  · rename_i e
    subst e
    unfold YO; rw [h0]
  · rfl
theorem LvX.held {ex : Int → Int} {m : Nat} {L : LvD} {V : VS} {s : Int} (h : LvX ex m L V) (hs : s ≠ 0 → 1 ≤ ex s) : XH V s := by
  by_cases h0 : s = 0
  · exact .inl h0
  · obtain ⟨n, a, b⟩ := h.ref.1 s h0
    have := hs h0
    exact .inr (h.ref.alive_of (by omega))
/-- one page noted -/
theorem UL {ex : Int → Int} {m : Nat} {L : LvD} {V : VS} {s : Int} {l : List Int} (h : LvX ex m L V) (hn : NoI ex l) (ha : XH V s) :
    StepX ex m L V (fun j => ex j + dl s j) m 0 0 L (YO V s) ∧ NoI (fun j => ex j + dl s j) (l ++ [s]) ∧ Q5 L (YO V s) = Q5 L V := by
  rw [refV_W h.zero]
  obtain ⟨h1, h2⟩ := h.refW ha
  exact ⟨⟨h1, rfl, fun c q => q.refW, fun c q => q, Pgs.ref⟩, hn.add, h2⟩
/-- one page let go -/
theorem BC {ex : Int → Int} {m : Nat} {L : LvD} {V : VS} {s : Int} {l : List Int} (h : LvX ex m L V) (hn : NoI ex (s :: l)) :
    StepX ex m L V (fun j => ex j - dl s j) m 0 0 L (Zg V s) ∧ NoI (fun j => ex j - dl s j) l ∧ Q5 L (Zg V s) = Q5 L V := by
  obtain ⟨h1, h2⟩ := h.unr hn.nn fun h0 => hn.ge h0
  exact ⟨⟨h1, rfl, fun c q => q.unr, fun c q => q, Pgs.unr h.zero⟩, hn.tail, h2⟩
end Go.Proofs.YtkcjfoaejijdoaaGreatDoor
/- leaves: Copy in the present -/
namespace Go.Proofs.YtkcjfoaejijdoaaGreatDoor
open Go.RowKit M
set_option linter.unusedVariables false
def T4 (L : LvD) (ob : Bs) (p : Int) : Int := if 0 ≤ p ∧ p < 256 then L.pres (ob, p) else 0
def KN (L : LvD) (ob : Bs) (p0 : Int) (j : Nat) : List Int := (List.range j).map fun q : Nat => T4 L ob (p0 + (q : Int))
theorem Gp {L : LvD} {ob : Bs} {p0 : Int} {j : Nat} : KN L ob p0 (j + 1) = KN L ob p0 j ++ [T4 L ob (p0 + (j : Int))] := by simp [KN, List.range_succ]
theorem JT {L : LvD} {ob : Bs} {p0 : Int} {j : Nat} : (KN L ob p0 j).length = j := by simp [KN]
theorem Kz {ex : Int → Int} {m : Nat} {L : LvD} {V : VS} (h : LvX ex m L V) (hx : NN ex) (ob : Bs) (p : Int) : XH V (T4 L ob p) := by
  unfold T4
  split
  · exact h.aliveX hx (.inl (ob, p))
  · exact .inl rfl
noncomputable def S9 (p : KD → Int) (to : Bs) (base : Int) (l : List Int) : Nat → (KD → Int)
  | 0 => p
  | q + 1 => XZ (S9 p to base l q) (to, base + (q : Int)) (l.getD q 0)
noncomputable def cpAf (A : LvA) (to : Bs) (base : Int) (f : Nat → Bs) : Nat → LvA
  | 0 => A
  | q + 1 => cpWr 0 (cpAf A to base f q) ((to, base + (q : Int)), f q)
theorem N1 {l : List Int} {q : Nat} {s : Int} (h : l[q]? = some s) : l.drop q = s :: l.drop (q + 1) := by
  obtain ⟨h1, h2⟩ := List.getElem?_eq_some_iff.1 h
  rw [List.drop_eq_getElem_cons h1, h2]
theorem Cd {l : List Int} {q : Nat} {s : Int} (h : l[q]? = some s) : l.getD q 0 = s := by simp [List.getD, h]
set_option maxRecDepth 100000 in
set_option maxHeartbeats 800000000 in
theorem SA {w : World} {m : Nat} {b n Fr : Nat} {L : LvD} {V : VS} {F : Th} (hS : Sat w [ZV b L, Zv L.sp n Fr V, F]) (hn : n + 2000 ≤ 600000000) (hI : LvI m L V) (hm : m < Z9) (ob to : Bs) (first cnt aa : Int) (hf : -2147483648 ≤ first ∧ first ≤ 2147483648) (ha : -2147483648 ≤ aa ∧ aa ≤ 2147483648) (hc : -2147483648 ≤ cnt ∧ cnt ≤ 300) :
    Calls Tryz.prog 41 #[ptrV b 0, intV 0, strV ob, intV first, intV cnt, strV to, intV aa] w (Ret fun v w' => ∃ L' V' q, StepI m L V m 0 256 L' V' ∧ L'.pres = S9 L.pres to (aa + max 0 (-aa)) (KN L ob (first + max 0 (-aa)) q) q ∧ Q5 L' V' = cpAf (Q5 L V) to (aa + max 0 (-aa)) (fun i => XM V ((KN L ob (first + max 0 (-aa)) q).getD i 0)) q ∧ (max 0 (-aa) + (q : Int) = min cnt (256 - aa) ∨ (q = 0 ∧ min cnt (256 - aa) ≤ max 0 (-aa))) ∧ Sat w' [ZV b L', Zv L'.sp (n + 2000) Fr V', F]) := by
 refine Qt Tryz.func41 rfl Tryz.ntmps41 rfl ?_
 refine Qd (Qd (Qa (Qb rfl rfl (Qb rfl rfl ?_))))
 have hC1 := hS.split [0] [true, false, false] rfl; dsimp only [QC, Qz, Q9, Q8, Q7] at hC1
 refine Qo UU rfl (Ym hC1 0) rfl ?_
 rintro e w1 ⟨_, rfl, rfl, hS1⟩; refine ⟨_, rfl, ?_⟩
 replace hS1 := hS1.join rfl; dsimp only [QU, QT, Q8, Q7] at hS1; clear hC1
 refine QS rfl rfl ?_
 refine Qf (Qc ?_)
 refine Qh (L' := [(27, _), (0, _), (1, _), (2, _), (3, _), (4, _), (5, _), (6, _)]) (WT rfl rfl rfl rfl rfl rfl rfl rfl) ?_
 refine QR rfl (fun h2 => ?_) (fun h2 => ?_)
 ·exact absurd h2 (by simp [ZY])
 refine Qy (Qc (Qd (Qa (Qb rfl rfl ?_))))
 refine wl_neg rfl (by omega) (by omega) rfl ?_
 refine JL rfl rfl rfl ?_
 refine Qb rfl rfl (Qb rfl rfl ?_)
 refine UZ rfl rfl (by omega) (by omega) rfl ?_
 refine HS rfl rfl rfl ?_
 refine Qe rfl rfl (Qe rfl rfl (Qf (Qc ?_)))
 refine Qh (L' := [(15, _), (14, _), (0, _), (1, _), (2, _), (3, _), (5, _), (6, _)]) (WT rfl rfl rfl rfl rfl rfl rfl rfl) ?_
 refine Qd (Qa (Qe rfl rfl (Qf (Qc (Qd (Qd (Qa (Qb rfl rfl (Qe rfl rfl (Qf (Qc (Q1 ?_))))))))))))
 have hrn := hS1.row_nil inC
 refine Xw (fun K0 E0 W0 => ∃ (j : Nat) (V1 : VS) (ex : Int → Int) (nv : Value), K0 = ((min cnt (256 - aa)) - (max 0 (-aa))).toNat - j ∧ E0 = [(0, ptrV b 0), (1, intV 0), (2, strV ob), (3, intV first), (5, strV to), (6, intV aa), (14, intV (max 0 (-aa))), (15, intV (min cnt (256 - aa))), (16, nv), (17, intV ((max 0 (-aa)) + (j : Int)))] ∧ Sat W0 [ZV b L, Zv L.sp (n + j) Fr V1, rowT inC nv (KN L ob (first + (max 0 (-aa))) j), F] ∧ (j ≤ 256) ∧ (j = 0 ∨ (max 0 (-aa)) + (j : Int) ≤ (min cnt (256 - aa))) ∧ (LvX ex m L V1) ∧ (NoI ex (KN L ob (first + (max 0 (-aa))) j)) ∧ (Q5 L V1 = Q5 L V) ∧ (∀ c, AliveLe V c → AliveLe V1 c) ∧ (Pgs V V1)) (L0 := [(0, _), (1, _), (2, _), (3, _), (5, _), (6, _), (14, _), (15, _), (16, _), (17, _)]) (((min cnt (256 - aa)) - (max 0 (-aa))).toNat) (Yg rfl rfl rfl rfl rfl rfl rfl rfl rfl rfl) ⟨0, V, fun _ => 0, _, by omega, by simp, hrn.pick [1, 2, 0, 3] rfl, by omega, .inl rfl, hI, fun _ _ => rfl, rfl, fun _ q => q, .refl⟩ ?_
 rintro _ _ w3 ⟨j, V1, ex, nv, rfl, rfl, hS3, hjb, hj, hI1, hno, hab, hal, hpg⟩
 refine Qd (Qd (Qa (Qb rfl rfl (Qb rfl rfl ?_))))
 refine Xt rfl rfl rfl ?_
 refine Qf (Qc ?_)
 refine Qx rfl (fun h4 => ?_) (fun h4 => ?_)
 ·refine Qy (Qc ?_)
  refine Qh (L' := [(0, _), (1, _), (2, _), (3, _), (5, _), (6, _), (14, _), (15, _), (16, _), (17, _)]) (Yg rfl rfl rfl rfl rfl rfl rfl rfl rfl rfl) ?_
  refine Qd (Q1 (Qd (Qa (Qe rfl rfl (Qf (Qc (Qd (Qd (Qa (Qb rfl rfl (Qb rfl rfl ?_)))))))))))
  refine QN rfl rfl (by omega) (by omega) rfl ?_
  refine Qe rfl rfl (Qf (Qc ?_))
  refine Qh (L' := [(19, _), (18, _), (0, _), (1, _), (2, _), (3, _), (5, _), (6, _), (14, _), (15, _), (16, _), (17, _)]) (Kb rfl rfl rfl rfl rfl rfl rfl rfl rfl rfl rfl rfl) ?_
  refine Qd (Qa (Qb rfl rfl ?_))
  refine JE rfl rfl rfl ?_
  refine Qb rfl rfl ?_
  refine Xk 46 rfl (fun h5 => ?_) (fun h5 => ?_)
  ·refine Qn rfl rfl (decide_eq_true h5) ?_
   refine Qb rfl rfl ?_
   refine Qn rfl rfl (decide_eq_true h5) ?_
   refine Xt rfl rfl rfl ?_
   refine Xg rfl (decide_eq_true h5) rfl rfl ?_
   refine Qf (Qc ?_)
   refine Qh (L' := [(49, _), (19, _), (18, _), (0, _), (1, _), (2, _), (3, _), (5, _), (6, _), (14, _), (15, _), (16, _), (17, _)]) (zb13 rfl rfl rfl rfl rfl rfl rfl rfl rfl rfl rfl rfl rfl) ?_
   refine Qx rfl (fun h6 => ?_) (fun h6 => ?_)
   ·refine Qd (Qa (Qb rfl rfl (Qb rfl rfl ?_)))
    refine Zy rfl Ui K5 Wp rfl rfl ?_
    refine Xl hS3 Wp rfl rfl ?_
    intro kb wk7 hk7
    clear hS3
    refine Xa hk7 rfl rfl Xc rfl (by rfl) (i := 0) rfl (by decide) ?_
    intro wk8 hk8; dsimp only [List.set] at hk8
    clear hk7
    replace hk8 := XR (k := (ob, first + ((max 0 (-aa)) + (j : Int)))) hk8
    refine Qf (Qc ?_)
    refine Qh (L' := [(20, _), (18, _), (0, _), (1, _), (2, _), (3, _), (5, _), (6, _), (14, _), (15, _), (16, _), (17, _)]) (Kb rfl rfl rfl rfl rfl rfl rfl rfl rfl rfl rfl rfl) ?_
    refine Qd (Qd (Qa (Qb rfl rfl ?_)))
    refine Xh rfl rfl rfl ?_
    refine Qf (Qc ?_)
    refine Qx rfl (fun h9 => ?_) (fun h9 => ?_)
    ·exact absurd rfl h9
    refine Qy (Qc (Qa (Qb rfl rfl (Qb rfl rfl ?_))))
    refine XX rfl XB Xc (by first | exact hk8.blk 0 rfl) (by exact Nat.le_of_ble_eq_true rfl) rfl rfl ?_
    have hC10 := hk8.split [1] [false, true, false, false, false] rfl; dsimp only [QC, Qz, Q9, Q8, Q7] at hC10
    refine Qo Ht rfl (Hk hC10 (hI.rank.ends hm) 0 (ob, first + ((max 0 (-aa)) + (j : Int)))) rfl ?_
    rintro e w10 ⟨_, rfl, rfl, hS10⟩; refine ⟨_, rfl, ?_⟩
    replace hS10 := hS10.join rfl; dsimp only [QU, QT, Q8, Q7] at hS10; clear hC10
    clear hk8
    rw [show Xo L 0 (ob, first + ((max 0 (-aa)) + (j : Int))) = L.pres (ob, first + ((max 0 (-aa)) + (j : Int))) from Jw rfl]
    refine Qe rfl rfl (Qf (Qc ?_))
    refine Qh (L' := [(18, _), (0, _), (1, _), (2, _), (3, _), (5, _), (6, _), (14, _), (15, _), (16, _), (17, _)]) (MQ rfl rfl rfl rfl rfl rfl rfl rfl rfl rfl rfl) ?_
    refine Qd (Qa (Qb rfl rfl (Qj rfl rfl ?_)))
    refine Qg rfl XK rfl ?_
    refine Qu rfl Xe (YH hS10 0 rfl) rfl ?_
    refine Qb rfl rfl ?_
    have hse : L.pres (ob, first + ((max 0 (-aa)) + (j : Int))) = T4 L ob ((first + (max 0 (-aa))) + (j : Int)) := by unfold T4; rw [if_pos ⟨by omega, by omega⟩, Int.add_assoc]
    rw [hse]
    have hC11 := hS10.split [2] [false, false, true, false, false] rfl; dsimp only [QC, Qz, Q9, Q8, Q7] at hC11
    refine Qo Rv rfl (TL hC11 (by omega) (T4 L ob ((first + (max 0 (-aa))) + (j : Int)))) rfl ?_
    rintro e w11 ⟨_, rfl, e0, rfl, hS11⟩; refine ⟨_, rfl, ?_⟩
    replace hS11 := hS11.join rfl; dsimp only [QU, QT, Q8, Q7] at hS11; clear hC11
    clear hS10
    refine Qf (Qc ?_)
    refine Qh (L' := [(18, _), (0, _), (1, _), (2, _), (3, _), (5, _), (6, _), (14, _), (15, _), (16, _), (17, _)]) (MQ rfl rfl rfl rfl rfl rfl rfl rfl rfl rfl rfl) ?_
    refine Qa (Qb rfl rfl (Qb rfl rfl ?_))
    refine ZK inC [T4 L ob ((first + (max 0 (-aa))) + (j : Int))] hS11 rfl Tryz.underlying47 KF rfl rfl rfl rfl (by rfl) rfl ?_
    intro b12 w12 hS12
    clear hS11
    refine WY inC 4 hS12 rfl rfl rfl (hS12.rd 0 rfl (by simp)) Tryz.underlying47 Tryz.underlying47 (by intro k hk; cases hk) Bq rfl (by simp only [JT, List.length_cons, List.length_nil]; omega) rfl (by simp only [JT, List.length_cons, List.length_nil]; omega) ?_
    intro v13 w13 hS13; dsimp only [List.set] at hS13
    clear hS12
    have h1v13 : v13.oneCell' = true := hS13.own_one 4 rfl
    refine Qe rfl rfl (Qf (Qp (Qc ?_)))
    refine Qh (L' := [(16, _), (0, _), (1, _), (2, _), (3, _), (5, _), (6, _), (14, _), (15, _), (17, _)]) (Yg rfl rfl rfl rfl rfl rfl rfl rfl rfl rfl) ?_
    refine Qa (Qb rfl rfl ?_)
    refine QN rfl rfl (by omega) (by omega) rfl ?_
    refine Qe rfl rfl (Qf ?_)
    obtain ⟨hq1, hq2, hq3⟩ := UL hI1 hno (Kz hI1 hno.nn ob ((first + (max 0 (-aa))) + (j : Int)))
    rw [← Gp] at hq2 hS13
    exact QG (L1 := [(0, _), (1, _), (2, _), (3, _), (5, _), (6, _), (14, _), (15, _), (16, _), (17, intV ((max 0 (-aa)) + (j : Int) + 1))]) (Yg rfl rfl rfl rfl rfl rfl rfl rfl rfl rfl) (k1 := ((min cnt (256 - aa)) - (max 0 (-aa))).toNat - (j + 1)) (by omega) ⟨j + 1, _, _, _, rfl, (by rw [show (max 0 (-aa)) + ((j + 1 : Nat) : Int) = (max 0 (-aa)) + (j : Int) + 1 by omega]), hS13.pick [2, 1, 4, 5] rfl, by omega, by omega, hq1.inv, hq2, hq3.trans hab, fun c q => hq1.al c (hal c q), hpg.trans hq1.pg⟩
   refine Qy (Qc (Qd (Qa (Qb rfl rfl (Qj rfl rfl ?_)))))
   refine Qg rfl XK rfl ?_
   refine Qu rfl Xe (YH hS3 0 rfl) rfl ?_
   refine Qb rfl rfl ?_
   have hse : T4 L ob ((first + (max 0 (-aa))) + (j : Int)) = 0 := by unfold T4; rw [if_neg (by omega)]
   have hC14 := hS3.split [1] [false, true, false, false] rfl; dsimp only [QC, Qz, Q9, Q8, Q7] at hC14
   refine Qo Rv rfl (TL hC14 (by omega) (0)) rfl ?_
   rintro e w14 ⟨_, rfl, e0, rfl, hS14⟩; refine ⟨_, rfl, ?_⟩
   replace hS14 := hS14.join rfl; dsimp only [QU, QT, Q8, Q7] at hS14; clear hC14
   clear hS3
   rw [show YO V1 0 = YO V1 (T4 L ob ((first + (max 0 (-aa))) + (j : Int))) by rw [hse]] at hS14
   refine Qf (Qc ?_)
   refine Qh (L' := [(18, _), (0, _), (1, _), (2, _), (3, _), (5, _), (6, _), (14, _), (15, _), (16, _), (17, _)]) (MQ rfl rfl rfl rfl rfl rfl rfl rfl rfl rfl rfl) ?_
   refine Qa (Qb rfl rfl (Qb rfl rfl ?_))
   refine ZK inC [0] hS14 rfl Tryz.underlying47 KF rfl rfl rfl rfl (by rfl) rfl ?_
   intro b15 w15 hS15
   clear hS14
   refine WY inC 3 hS15 rfl rfl rfl (hS15.rd 0 rfl (by simp)) Tryz.underlying47 Tryz.underlying47 (by intro k hk; cases hk) Bq rfl (by simp only [JT, List.length_cons, List.length_nil]; omega) rfl (by simp only [JT, List.length_cons, List.length_nil]; omega) ?_
   intro v16 w16 hS16; dsimp only [List.set] at hS16
   clear hS15
   have h1v16 : v16.oneCell' = true := hS16.own_one 3 rfl
   refine Qe rfl rfl (Qf (Qp (Qc ?_)))
   refine Qh (L' := [(16, _), (0, _), (1, _), (2, _), (3, _), (5, _), (6, _), (14, _), (15, _), (17, _)]) (Yg rfl rfl rfl rfl rfl rfl rfl rfl rfl rfl) ?_
   refine Qa (Qb rfl rfl ?_)
   refine QN rfl rfl (by omega) (by omega) rfl ?_
   refine Qe rfl rfl (Qf ?_)
   obtain ⟨hq1, hq2, hq3⟩ := UL hI1 hno (Kz hI1 hno.nn ob ((first + (max 0 (-aa))) + (j : Int)))
   rw [show KN L ob (first + (max 0 (-aa))) j ++ [0] = KN L ob (first + (max 0 (-aa))) (j + 1) by rw [Gp, hse]] at hS16
   rw [← Gp] at hq2
   exact QG (L1 := [(0, _), (1, _), (2, _), (3, _), (5, _), (6, _), (14, _), (15, _), (16, _), (17, intV ((max 0 (-aa)) + (j : Int) + 1))]) (Yg rfl rfl rfl rfl rfl rfl rfl rfl rfl rfl) (k1 := ((min cnt (256 - aa)) - (max 0 (-aa))).toNat - (j + 1)) (by omega) ⟨j + 1, _, _, _, rfl, (by rw [show (max 0 (-aa)) + ((j + 1 : Nat) : Int) = (max 0 (-aa)) + (j : Int) + 1 by omega]), hS16.pick [2, 1, 3, 4] rfl, by omega, by omega, hq1.inv, hq2, hq3.trans hab, fun c q => hq1.al c (hal c q), hpg.trans hq1.pg⟩
  refine Ql rfl rfl (decide_eq_false h5) rfl ?_
  refine Ql rfl rfl (decide_eq_false h5) rfl ?_
  refine QX rfl (decide_eq_false h5) rfl rfl ?_
  refine Qf (Qc ?_)
  refine Qh (L' := [(49, _), (19, _), (18, _), (0, _), (1, _), (2, _), (3, _), (5, _), (6, _), (14, _), (15, _), (16, _), (17, _)]) (zb13 rfl rfl rfl rfl rfl rfl rfl rfl rfl rfl rfl rfl rfl) ?_
  refine Xm rfl ?_
  refine Qy (Qc (Qd (Qa (Qb rfl rfl (Qj rfl rfl ?_)))))
  refine Qg rfl XK rfl ?_
  refine Qu rfl Xe (YH hS3 0 rfl) rfl ?_
  refine Qb rfl rfl ?_
  have hse : T4 L ob ((first + (max 0 (-aa))) + (j : Int)) = 0 := by unfold T4; rw [if_neg (by omega)]
  have hC17 := hS3.split [1] [false, true, false, false] rfl; dsimp only [QC, Qz, Q9, Q8, Q7] at hC17
  refine Qo Rv rfl (TL hC17 (by omega) (0)) rfl ?_
  rintro e w17 ⟨_, rfl, e0, rfl, hS17⟩; refine ⟨_, rfl, ?_⟩
  replace hS17 := hS17.join rfl; dsimp only [QU, QT, Q8, Q7] at hS17; clear hC17
  clear hS3
  rw [show YO V1 0 = YO V1 (T4 L ob ((first + (max 0 (-aa))) + (j : Int))) by rw [hse]] at hS17
  refine Qf (Qc ?_)
  refine Qh (L' := [(18, _), (0, _), (1, _), (2, _), (3, _), (5, _), (6, _), (14, _), (15, _), (16, _), (17, _)]) (MQ rfl rfl rfl rfl rfl rfl rfl rfl rfl rfl rfl) ?_
  refine Qa (Qb rfl rfl (Qb rfl rfl ?_))
  refine ZK inC [0] hS17 rfl Tryz.underlying47 KF rfl rfl rfl rfl (by rfl) rfl ?_
  intro b18 w18 hS18
  clear hS17
  refine WY inC 3 hS18 rfl rfl rfl (hS18.rd 0 rfl (by simp)) Tryz.underlying47 Tryz.underlying47 (by intro k hk; cases hk) Bq rfl (by simp only [JT, List.length_cons, List.length_nil]; omega) rfl (by simp only [JT, List.length_cons, List.length_nil]; omega) ?_
  intro v19 w19 hS19; dsimp only [List.set] at hS19
  clear hS18
  have h1v19 : v19.oneCell' = true := hS19.own_one 3 rfl
  refine Qe rfl rfl (Qf (Qp (Qc ?_)))
  refine Qh (L' := [(16, _), (0, _), (1, _), (2, _), (3, _), (5, _), (6, _), (14, _), (15, _), (17, _)]) (Yg rfl rfl rfl rfl rfl rfl rfl rfl rfl rfl) ?_
  refine Qa (Qb rfl rfl ?_)
  refine QN rfl rfl (by omega) (by omega) rfl ?_
  refine Qe rfl rfl (Qf ?_)
  obtain ⟨hq1, hq2, hq3⟩ := UL hI1 hno (Kz hI1 hno.nn ob ((first + (max 0 (-aa))) + (j : Int)))
  rw [show KN L ob (first + (max 0 (-aa))) j ++ [0] = KN L ob (first + (max 0 (-aa))) (j + 1) by rw [Gp, hse]] at hS19
  rw [← Gp] at hq2
  exact QG (L1 := [(0, _), (1, _), (2, _), (3, _), (5, _), (6, _), (14, _), (15, _), (16, _), (17, intV ((max 0 (-aa)) + (j : Int) + 1))]) (Yg rfl rfl rfl rfl rfl rfl rfl rfl rfl rfl) (k1 := ((min cnt (256 - aa)) - (max 0 (-aa))).toNat - (j + 1)) (by omega) ⟨j + 1, _, _, _, rfl, (by rw [show (max 0 (-aa)) + ((j + 1 : Nat) : Int) = (max 0 (-aa)) + (j : Int) + 1 by omega]), hS19.pick [2, 1, 3, 4] rfl, by omega, by omega, hq1.inv, hq2, hq3.trans hab, fun c q => hq1.al c (hal c q), hpg.trans hq1.pg⟩
 refine QZ (Qv (Qv (Q4 (Qc ?_))))
 refine Qh (L' := [(0, _), (1, _), (5, _), (6, _), (14, _), (16, _)]) (Wf rfl rfl rfl rfl rfl rfl) ?_
 refine Qd ?_
 obtain ⟨an, cn, hvn, _⟩ := hS3.own_shape 2 rfl; obtain rfl := hvn
 refine Qa (Qb rfl rfl ?_)
 refine XU Tryz.underlying47 rfl rfl ?_
 refine Qb rfl rfl (Qf (Qc (Q1 ?_)))
 refine Xw (fun K0 E0 W0 => ∃ (q : Nat) (L1 : LvD) (V2 : VS) (ex2 : Int → Int), K0 = j - q ∧ E0 = [(0, ptrV b 0), (1, intV 0), (5, strV to), (6, intV aa), (14, intV (max 0 (-aa))), (85, .slice an (KN L ob (first + (max 0 (-aa))) j).length cn), (86, intV ((KN L ob (first + (max 0 (-aa))) j).length : Int)), (87, intV (q : Int))] ∧ Sat W0 [ZV b L1, Zv L1.sp (n + j + 5 * q) Fr V2, rowT inC (.slice an (KN L ob (first + (max 0 (-aa))) j).length cn) (KN L ob (first + (max 0 (-aa))) j), F] ∧ (q ≤ j) ∧ (LvX ex2 m L1 V2) ∧ (NoI ex2 ((KN L ob (first + (max 0 (-aa))) j).drop q)) ∧ (L1.sp = L.sp) ∧ (L1.pres = S9 L.pres to (aa + (max 0 (-aa))) (KN L ob (first + (max 0 (-aa))) j) q) ∧ (Q5 L1 V2 = cpAf (Q5 L V) to (aa + (max 0 (-aa))) (fun q => XM V ((KN L ob (first + (max 0 (-aa))) j).getD q 0)) q) ∧ (∀ c, AliveLe V c → AliveLe V2 c) ∧ (∀ c, SzLe L c → SzLe L1 (c + q)) ∧ (Pgs V V2)) (L0 := [(0, _), (1, _), (5, _), (6, _), (14, _), (85, _), (86, _), (87, _)]) (j) (WT rfl rfl rfl rfl rfl rfl rfl rfl) ⟨0, L, V1, ex, rfl, rfl, hS3.pick [0, 1, 2, 3] rfl, by omega, hI1, hno, rfl, rfl, hab, hal, fun _ h => h, hpg⟩ ?_
 rintro _ _ w20 ⟨q, L1, V2, ex2, rfl, rfl, hS20, hq, hI2, hno2, hsp, hp2, hab2, hal2, hsz2, hpg2⟩
 refine Qd (Qa ?_)
 refine Xt rfl rfl rfl ?_
 refine Qf (Qc (Qd ?_))
 refine Qx rfl (fun h21 => ?_) (fun h21 => ?_)
 ·obtain ⟨s, hs⟩ : ∃ s, (KN L ob (first + (max 0 (-aa))) j)[q]? = some s := ⟨_, List.getElem?_eq_getElem (by omega)⟩; have hln : (KN L ob (first + (max 0 (-aa))) j).length = j := JT; rw [N1 hs] at hno2; have hsa := hI2.held (s := s) fun h0 => hno2.ge h0
  refine Qy (Qc (Qd (Q1 (Qd (Qa (Qb rfl rfl ?_))))))
  refine Xp inC 2 q hS20 rfl rfl rfl (by rfl) hs KK rfl ?_
  intro bx22 capx22 hvx22
  refine Z4 2 q 0 hS20 rfl hvx22 rfl rfl hs QW rfl rfl ?_
  refine Qe rfl rfl (Qe rfl rfl (Qf (Qc ?_)))
  refine Qh (L' := [(23, _), (22, _), (0, _), (1, _), (5, _), (6, _), (14, _), (85, _), (86, _), (87, _)]) (Yg rfl rfl rfl rfl rfl rfl rfl rfl rfl rfl) ?_
  refine Qd (Qa (Qb rfl rfl (Qb rfl rfl (Qb rfl rfl (Qb rfl rfl (Qb rfl rfl ?_))))))
  refine QN rfl rfl (by omega) (by omega) rfl ?_
  refine Qb rfl rfl ?_
  refine QN rfl rfl (by omega) (by omega) rfl ?_
  refine Zy rfl Ui K5 Wp rfl rfl ?_
  refine Qb rfl rfl ?_
  have hC23 := hS20.split [0, 1] [true, true, false, false] rfl; dsimp only [QC, Qz, Q9, Q8, Q7] at hC23
  refine Qo cal_103 rfl (DQ hC23 (by omega) hI2 hno2.nn hsa (to, (aa + (max 0 (-aa))) + (q : Int))) rfl ?_
  rintro e w23 ⟨_, rfl, L2, V3, hr1, hr2, hr3, hS23⟩; refine ⟨_, rfl, ?_⟩
  replace hS23 := hS23.join rfl; dsimp only [QU, QT, Q8, Q7] at hS23; clear hC23
  clear hS20
  refine Qf (Qc ?_)
  refine Qh (L' := [(23, _), (0, _), (1, _), (5, _), (6, _), (14, _), (85, _), (86, _), (87, _)]) (G6 rfl rfl rfl rfl rfl rfl rfl rfl rfl) ?_
  refine Qa (Qb rfl rfl (Qj rfl rfl ?_))
  refine Qg rfl XK rfl ?_
  refine Qu rfl Xe (YH hS23 0 rfl) rfl ?_
  refine Qb rfl rfl ?_
  have hC24 := hS23.split [1] [false, true, false, false] rfl; dsimp only [QC, Qz, Q9, Q8, Q7] at hC24
  refine Qo Ru rfl (Rd hC24 (by omega) s) rfl ?_
  rintro e w24 ⟨_, rfl, e0, rfl, hS24⟩; refine ⟨_, rfl, ?_⟩
  replace hS24 := hS24.join rfl; dsimp only [QU, QT, Q8, Q7] at hS24; clear hC24
  clear hS23
  refine Qf (Qp (Qc ?_))
  refine Qh (L' := [(0, _), (1, _), (5, _), (6, _), (14, _), (85, _), (86, _), (87, _)]) (WT rfl rfl rfl rfl rfl rfl rfl rfl) ?_
  refine Qa ?_
  refine QN rfl rfl (by omega) (by omega) rfl ?_
  refine Qb rfl rfl (Qf ?_)
  obtain ⟨hu1, hu2, hu3⟩ := BC hr1.inv hno2
  exact QG (L1 := [(0, _), (1, _), (5, _), (6, _), (14, _), (85, _), (86, _), (87, intV ((q + 1 : Nat) : Int))]) (WT rfl rfl rfl rfl rfl rfl rfl rfl) (k1 := j - (q + 1)) (by omega) ⟨q + 1, _, _, _, rfl, rfl, hS24.pick [1, 0, 2, 3] rfl, by omega, hu1.inv, hu2, hu1.sp.trans (hr1.sp.trans hsp), by rw [hr3, hp2, S9, Cd hs], by rw [hu3, hr2, hab2, cpAf]; simp only [cpWr, if_true, Cd hs]; rw [(hpg2 s hsa).2], fun c q2 => hu1.al _ (hr1.al _ (hal2 c q2)), fun c q2 => by have := hu1.sz _ (hr1.sz _ (hsz2 c q2)); exact this.mono (by omega), (hpg2.trans hr1.pg).trans hu1.pg⟩
 refine QZ (Qv (Qv (Q4 ?_)))
 refine W4 (.inl rfl) rfl ?_
 have hln : (KN L ob (first + (max 0 (-aa))) j).length = j := JT
 have hqj : q = j := by omega
 subst hqj
 have hjj : q ≤ 256 := by omega
 exact ⟨_, rfl, L1, V2, q, ⟨hI2.ext fun i hi => by rw [hno2 i hi, List.drop_eq_nil_of_le (by rw [JT]; omega)]; rfl, hsp, fun c h => (hal2 c h).mono (by omega), fun c h => (hsz2 c h).mono (by omega)⟩, hp2, hab2, by omega, (Xx (m := n + 2000) (by omega) (hS20.pick [1, 0, 3] rfl)).reorder [1, 0, 2] rfl⟩
end Go.Proofs.YtkcjfoaejijdoaaGreatDoor
/- leaves: reads, plain -/
namespace Go.Proofs.YtkcjfoaejijdoaaGreatDoor
open Go.RowKit M
set_option linter.unusedVariables false
section
variable {ex : Int → Int} {L L1 L' : LvD} {V V1 V' : VS} {id : Int} {t t1 t' : TrD} {k : KD} {x y x1 : LfD} {m : Nat}
theorem Na (hI : LvX ex m L V) (ht : L.tr id = some t) (hx : t.lv k = some x) (hb : y.base = x.base) (ho : y.own = x.own) (hg : NR (ZG V y)) :
    LvX ex m (Zj L id t k y) V ∧ Q5 (Zj L id t k y) V = Zt (Q5 L V) id k (ZG V y) := by
  generalize hL' : Zj L id t k y = L'
  have hP : L'.pres = L.pres := by subst hL'; rfl
  have hT : L'.tr = Xj L.tr id (some { t with lv := Xj t.lv k (some y) }) := by subst hL'; rfl
  have hf : ∀ q, Xf L' q = Xf L q := fun q => by
    rw [Ye (x := y) hP hT ht rfl, hb, ho]
    rw [Yj (f := Xf L) (v := x.base) (by rw [X3 ht hx]; rfl), Yj (by rw [X3 ht hx]; rfl)]
  have e1 : Q5 L' V = Zt (Q5 L V) id k (ZG V y) := J1 hP hT ht rfl fun _ _ _ => rfl
  exact ⟨⟨hI.ref.fn hf, by rw [hT]; exact hI.rank.same (Wk ht rfl), by rw [e1]; exact hI.agree.put hg⟩, e1⟩
/-- after touch the sets of the leaf are changed, with references that are held elsewhere -/
theorem CK (hT : TouR L V id t k L1 V1 t1 x1) (ht : L.tr id = some t) (hI : LvX ex m L V) (hx : NN ex) {rd wr : BitVec 64} (hw : ∀ j, j < 64 → wr.getLsbD j = false → x1.wr.getLsbD j = false) :
    StepX ex m L V ex m 0 1 (Zj L1 id t1 k { x1 with rd := rd, wr := wr }) V1 ∧ Q5 (Zj L1 id t1 k { x1 with rd := rd, wr := wr }) V1 = Zt (Q5 L V) id k { Zb (Q5 L V) id k with rd := rd, wr := wr } := by
  obtain ⟨h1, h2, h3, h4, h5⟩ := hT.invX ht hI hx
  obtain ⟨a1, a2⟩ := Na (y := { x1 with rd := rd, wr := wr }) h1 (hT.tr ht) hT.lv rfl rfl (fun j hj h => (h1.agree id _ k _ (Zr (hT.tr ht)) (Zq hT.lv)) j hj (hw j hj h))
  refine ⟨⟨a1, hT.sp, fun c q => (h4 c q).mono (by omega), fun c q => (hT.sz ht q).putOld (hT.tr ht) hT.lv rfl rfl, hT.pgs⟩, ?_⟩
  rw [a2, h3, Ue]
  congr 1
  rw [← h2]; rfl
/-- what a child has read is read by its parent -/
theorem orR_fin (hT : TouR L V id t k L1 V1 t1 x1) (ht : L.tr id = some t) (hI : LvX ex m L V) (hx : NN ex) (r : BitVec 64) :
    StepX ex m L V ex m 0 1 (Zj L1 id t1 k { x1 with rd := x1.rd ||| (r &&& ~~~x1.wr) }) V1 ∧ Q5 (Zj L1 id t1 k { x1 with rd := x1.rd ||| (r &&& ~~~x1.wr) }) V1 = Zt (Q5 L V) id k (orR (Zb (Q5 L V) id k) r) := by
  obtain ⟨h1, h2, h3, h4, h5⟩ := hT.invX ht hI hx
  obtain ⟨a1, a2⟩ := CK hT ht hI hx (rd := x1.rd ||| (r &&& ~~~x1.wr)) (wr := x1.wr) fun _ _ h => h
  have e : x1.wr = (Zb (Q5 L V) id k).wr := by rw [← h2]; rfl
  have e2 : x1.rd = (Zb (Q5 L V) id k).rd := by rw [← h2]; rfl
  refine ⟨a1, ?_⟩
  rw [a2, e, e2]; rfl
end
end Go.Proofs.YtkcjfoaejijdoaaGreatDoor
