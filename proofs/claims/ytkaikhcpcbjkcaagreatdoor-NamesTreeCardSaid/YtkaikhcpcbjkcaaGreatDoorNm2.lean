/- names: changes -/
import Derived.Test.YtkaikhcpcbjkcaaGreatDoorNm1
namespace Go.Proofs.YtkaikhcpcbjkcaaGreatDoor
open Go.RowKit M
set_option linter.unusedVariables false
section
variable {P : Program} {n : Nat} {ops : Array Oper} {Q : Exit → Act → World → Prop} {rest : List Oper} {L : Env} {w : World} {d : Nat} {ty : TypeId} {pos : String} {aft : Array Edge}
theorem wl_buildX {t : Nat} {parts : List (Nat × Operand)} {vs vs' : List Value} {pls : List (Nat × Nat)} {z : List Value} (hx : looks L (parts.map (·.2)) = some vs) (hp : structPl P t (parts.map (·.1)) = some pls) (ha : allSz P t = true) (hz : zeroOf P t = some (some (.agg z.toArray))) (hok : fillOk z.length pls vs = true) (hd : Nat.blt d n = true) (he : fillL z pls vs = vs') (hk : wl P n ops Q rest ((d, .agg vs'.toArray) :: L) w) : wl P n ops Q (⟨some d, .build t parts.toArray, ty, pos, aft, none⟩ :: rest) L w := by
  subst he; exact wl_buildS hx hp ha hz hok hd hk
end
theorem finR4 {P : Program} {n : Nat} {L : Env} {w : World} {fn : Func} {R : Ending → World → Prop} {r r2 r3 r4 : ResultVar} {v v2 v3 v4 : Value} {e : Exit} (he : e = .normal ∨ e = .ret) (hf : fn.results = #[r, r2, r3, r4]) (hv : resOk P n L w r v) (hv2 : resOk P n L w r2 v2) (hv3 : resOk P n L w r3 v3) (hv4 : resOk P n L w r4 v4) (h : R (.returned (.tuple #[v, v2, v3, v4])) w) : qs n (bodyPost P fn R) e L w :=
  fin_of he (fun a ha => by rw [results_eq, hf]; simp [hv a ha, hv2 a ha, hv3 a ha, hv4 a ha]) h
/-- how many keys begin so -/
def CntOf (c : Bs → Bs) (pre : Bs) (n : Nat) : Prop := ∃ l0 : List Bs, n = l0.length ∧ l0.Nodup ∧ ∀ k, k ∈ l0 ↔ c k ≠ [] ∧ Lib.hasPrefix k pre = true
theorem CntOf.one {c : Bs → Bs} {pre : Bs} {n m : Nat} (h : CntOf c pre n) (h' : CntOf c pre m) : n = m := by
  obtain ⟨a, rfl, ha, hm⟩ := h
  obtain ⟨b, rfl, hb, hm'⟩ := h'
  have hp : a.Perm b := (List.perm_ext_iff_of_nodup ha hb).2 fun k => (hm k).trans (hm' k).symm
  exact hp.length_eq
theorem CntOf.keys {c : Bs → Bs} {pre : Bs} {l : List Bs} (h : KeysOf c pre l) : CntOf c pre l.length := by
  obtain ⟨l0, rfl, hn, hm⟩ := h
  exact ⟨l0, by rw [sortS_len], hn, hm⟩
open Classical in
noncomputable def cntK (W : WS) (pre : Bs) : Nat := if h : ∃ n, CntOf W.cells pre n then Classical.choose h else 0
theorem cntK_eq {W : WS} {pre : Bs} {n : Nat} (h : CntOf W.cells pre n) : cntK W pre = n := by
  have hx : ∃ n, CntOf W.cells pre n := ⟨n, h⟩
  unfold cntK
  rw [dif_pos hx]
  exact (Classical.choose_spec hx).one h
structure PI (W : WS) (n : Nat) : Prop where
  few : ∃ ks : List Bs, ks.length ≤ n ∧ ∀ k, W.cells k ≠ [] → k ∈ ks
  short : ∀ k, W.cells k ≠ [] → k.length ≤ 1000
  val : ∀ k, (W.cells k).length ≤ 400
theorem PI.empty : PI emptyW 0 := ⟨⟨[], by simp, fun k h => absurd rfl h⟩, fun k h => absurd rfl h, fun k => by simp [emptyW]⟩
theorem PI.mono {W : WS} {n m : Nat} (h : PI W n) (hm : n ≤ m) : PI W m := ⟨let ⟨ks, h1, h2⟩ := h.few; ⟨ks, by omega, h2⟩, h.short, h.val⟩
theorem PI.put {W : WS} {n : Nat} (h : PI W n) {k v : Bs} (hk : k.length ≤ 1000) (hv : v.length ≤ 400) : PI (putS W k v) (n + 1) := by
  obtain ⟨ks, h1, h2⟩ := h.few
  refine ⟨⟨k :: ks, by simp; omega, fun j hj => ?_⟩, fun j hj => ?_, fun j => ?_⟩
  · by_cases e : j = k
    · exact e ▸ List.mem_cons_self
    · refine List.mem_cons_of_mem _ (h2 j ?_)
      simp only [putS, updC] at hj; rwa [if_neg e] at hj
  · by_cases e : j = k
    · exact e ▸ hk
    · refine h.short j ?_
      simp only [putS, updC] at hj; rwa [if_neg e] at hj
  · simp only [putS, updC]
    split
    · exact hv
    · exact h.val j
theorem PI.kin {W : WS} {n : Nat} (h : PI W n) (hn : n ≤ 1000) : KeysIn W.cells 1000000 := by
  obtain ⟨ks, h1, h2⟩ := h.few
  exact ⟨⟨ks, by omega, h2⟩, h.short⟩
theorem PI.tb {W : WS} {n : Nat} (h : PI W n) : TB W := fun k => by have := h.val k; omega
def lnk (n : InD) (b : Int) : InD := ⟨n.k, n.sz, IntKind.i64.wrap (n.ln + b)⟩
theorem lnk_in {n : InD} (h : InB n) (b : Int) : InB (lnk n b) := ⟨h.k, h.sz, wrap_in _⟩
structure LkD where
  id : Bs
  n : InD
  ok : Bool
  e : Int
def lookV (W : WS) (dir name : Bs) : LkD :=
  if nameB name = false then ⟨[], zI, false, 16⟩ else if dirE W dir ≠ 0 then ⟨[], zI, false, dirE W dir⟩ else
    ⟨W.cells (kE dir name), gI' W (W.cells (kE dir name)), bI W (W.cells (kE dir name)) && decide (W.cells (kE dir name) ≠ []), 0⟩
theorem lookV_in (W : WS) (dir name : Bs) : InB (lookV W dir name).n := by
  unfold lookV
  split
  · exact zI_in
  · split
    · exact zI_in
    · exact gI_in _ _
theorem lookV_len {W : WS} {n : Nat} (h : PI W n) (dir name : Bs) : (lookV W dir name).id.length ≤ 400 := by
  unfold lookV
  split
  · exact Nat.zero_le _
  · split
    · exact Nat.zero_le _
    · exact h.val _
def linkE (W : WS) (dir name id : Bs) : Int :=
  if (lookV W dir name).e ≠ 0 then (lookV W dir name).e else if (lookV W dir name).id ≠ [] then 5 else if bI W id = false then 4 else if (gI' W id).k = 2 then 13 else 0
def linkW (W : WS) (dir name id : Bs) : WS := if linkE W dir name id = 0 then setI (putS W (kE dir name) id) id (lnk (gI' W id) 1) else W
def unlE (W : WS) (dir name : Bs) : Int :=
  if (lookV W dir name).e ≠ 0 then (lookV W dir name).e else if (lookV W dir name).ok = false then 4 else if (lookV W dir name).n.k = 2 then 13 else 0
def unlS (W : WS) (dir name : Bs) : Bs := if unlE W dir name = 0 then (lookV W dir name).id else []
def unlW (W : WS) (dir name : Bs) : WS := if unlE W dir name = 0 then setI (putS W (kE dir name) []) (lookV W dir name).id (lnk (lookV W dir name).n (-1)) else W
def depF (W : WS) : Nat → Bs → Nat
  | 0, _ => 0
  | n + 1, d => if d = [114] then 0 else 1 + depF W n (W.cells (kU d))
def mkdI : InD := ⟨2, 0, 1⟩
theorem mkdI_in : InB mkdI := ⟨by unfold inI mkdI; simp, by unfold inI mkdI; simp, by unfold inI mkdI; simp⟩
noncomputable def mkdE (W : WS) (dir name id : Bs) : Int :=
  if (lookV W dir name).e ≠ 0 then (lookV W dir name).e else if (lookV W dir name).id ≠ [] then 5 else if id = [] ∨ (47 : UInt8) ∈ id then 1 else if bI W id = true then 5 else if 8 ≤ depF W 100 dir ∨ 64 ≤ cntK W [105, 47] then 6 else 0
noncomputable def mkdW (W : WS) (dir name id : Bs) : WS := if mkdE W dir name id = 0 then putS (putS (setI W id mkdI) (kU id) dir) (kE dir name) id else W
noncomputable def empE (W : WS) (id : Bs) (n : InD) : Int := if n.k ≠ 2 then 14 else if 0 < cntK W (kE id []) then 15 else 0
noncomputable def rmdE (W : WS) (dir name : Bs) : Int :=
  if (lookV W dir name).e ≠ 0 then (lookV W dir name).e else if (lookV W dir name).ok = false then 4 else empE W (lookV W dir name).id (lookV W dir name).n
noncomputable def rmdW (W : WS) (dir name : Bs) : WS := if rmdE W dir name = 0 then noI (putS W (kE dir name) []) (lookV W dir name).id else W
/-- replace: the name that it returns, the error, the world -/
noncomputable def repE (W : WS) (n : InD) (old : Bs) (o : InD) (there : Bool) : Int := if there = false then 0 else if n.k = 2 then empE W old o else if o.k = 2 then 13 else 0
noncomputable def repS (n : InD) (old : Bs) (o : InD) (there : Bool) : Bs := if there = false then [] else if n.k = 2 then [] else if o.k = 2 then [] else old
noncomputable def repW (W : WS) (n : InD) (old : Bs) (o : InD) (there : Bool) : WS := if there = false then W else if n.k = 2 then (if empE W old o = 0 then noI W old else W) else if o.k = 2 then W else setI W old (lnk o (-1))
noncomputable def renE (W : WS) (dir name td to : Bs) : Int :=
  if nameB name = false ∨ nameB to = false then 16 else if (lookV W dir name).e ≠ 0 then (lookV W dir name).e else if (lookV W td to).e ≠ 0 then (lookV W td to).e else if (lookV W dir name).ok = false then 4
  else if (dir = td ∧ name = to) ∨ (lookV W dir name).id = (lookV W td to).id then 0 else if (lookV W dir name).n.k = 2 ∧ td ≠ dir then 1
  else repE W (lookV W dir name).n (lookV W td to).id (lookV W td to).n (lookV W td to).ok
/-- the rename does something -/
def renB (W : WS) (dir name td to : Bs) : Bool := !(decide (dir = td) && decide (name = to)) && !decide ((lookV W dir name).id = (lookV W td to).id)
noncomputable def renS (W : WS) (dir name td to : Bs) : Bs := if renE W dir name td to = 0 ∧ renB W dir name td to = true then repS (lookV W dir name).n (lookV W td to).id (lookV W td to).n (lookV W td to).ok else []
noncomputable def renW (W : WS) (dir name td to : Bs) : WS :=
  if renE W dir name td to = 0 ∧ renB W dir name td to = true then putS (putS (repW W (lookV W dir name).n (lookV W td to).id (lookV W td to).n (lookV W td to).ok) (kE dir name) []) (kE td to) (lookV W dir name).id else W
theorem repW_id {W : WS} {n : InD} {old : Bs} {o : InD} {there : Bool} (h : repE W n old o there ≠ 0) : repW W n old o there = W := by
  unfold repE at h
  unfold repW
  split
  · rfl
  · rename_i q
    rw [if_neg q] at h
    split
    · rename_i q2; rw [if_pos q2] at h; rw [if_neg h]
    · rename_i q2
      rw [if_neg q2] at h
      split
      · rfl
      · rename_i q3; rw [if_neg q3] at h; exact absurd rfl h
theorem noI_pi {W : WS} {n : Nat} (h : PI W n) {id : Bs} (hid : id.length ≤ 900) : PI (noI W id) (n + 2) := (h.put (k := kI id) (v := []) (by simp [kI]; omega) (by simp)).put (k := kU id) (v := []) (by simp [kU]; omega) (by simp)
theorem setI_pi {W : WS} {n : Nat} (h : PI W n) {id : Bs} (hid : id.length ≤ 900) {x : InD} (hx : InB x) : PI (setI W id x) (n + 1) := h.put (by simp [kI]; omega) (by have := encI_len hx; omega)
theorem repW_pi {W : WS} {m : Nat} (h : PI W m) {n : InD} {old : Bs} (ho : old.length ≤ 900) {o : InD} (hoI : InB o) {there : Bool} : PI (repW W n old o there) (m + 2) := by
  unfold repW
  split
  · exact h.mono (by omega)
  · split
    · split
      · exact noI_pi h ho
      · exact h.mono (by omega)
    · split
      · exact h.mono (by omega)
      · exact (setI_pi h ho (lnk_in hoI _)).mono (by omega)
set_option maxRecDepth 100000 in
theorem look_sp {w : World} {p : Nat} {W : WS} {m : Nat} {F : Th} (hS : Sat w [worldT p W, F]) (hG : Ent F WireG) (hP : PI W m) (hm : m ≤ 900) (dir name : Bs) (hd : dir.length ≤ 900) (hn : name.length ≤ 900) :
    Calls Tryz.prog 82 #[.iface 25 (ptrV p 0), strV dir, strV name] w (Ret fun v w' => v = .tuple #[strV (lookV W dir name).id, .agg #[intV (lookV W dir name).n.k, intV (lookV W dir name).n.sz, intV (lookV W dir name).n.ln], .bool (lookV W dir name).ok, intV (lookV W dir name).e] ∧ Sat w' [worldT p W, F]) := by
 refine calls_enter Tryz.func82 rfl Tryz.ntmps82 rfl ?_
 refine wc_seq (wc_region (wl_assign rfl rfl ?_))
 refine wl_alloc hS zr_35 rfl rfl ?_
 intro b1 w1 hS1
 refine wl_assign rfl rfl (wl_assign rfl rfl (wl_nil (qs_seq (wc_seq (wc_seq (wc_region (wl_move rfl rfl ?_)))))))
 have hC2 := hS1.split [] [false, false, false] rfl; dsimp only [selF, pickA, nthA, List.cons_append, List.nil_append] at hC2
 refine wl_call cal_13 rfl (name_sp hC2 name (by omega)) rfl ?_
 rintro e w2 ⟨_, rfl, rfl, hS2⟩; refine ⟨_, rfl, ?_⟩
 replace hS2 := hS2.join rfl; dsimp only [List.dropLast, List.cons_append, List.nil_append] at hS2; clear hC2
 clear hS1
 refine wl_not rfl rfl ?_
 refine wl_nil (qs_seq ?_)
 refine wc_cond rfl (fun h3 => ?_) (fun h3 => ?_)
 ·have hnb : nameB name = false := by simpa using h3
  refine wc_seq ?_
  have hS4 := hS2.drew
  refine wc_draw [0, 1, 2, 3, 4] [2] mix (by kernel_rfl) ?_
  refine vc_q rfl rfl rfl (ev_loadA rfl ag_35 sz_35 (by first | exact hS4.blk 0 rfl) (by first | decide | exact Nat.le_of_ble_eq_true rfl | (simp; done) | omega) rfl) ?_
  refine vc_p rfl rfl rfl (fun _ => (ev_assign rfl)) ?_
  refine vc_s rfl rfl rfl rfl rfl rfl ?_
  first | (refine wl_storeA hS4 rfl rfl sz_35 rfl (by first | rfl | (simp [allOne, Value.oneCell']; done) | assumption | exact hone) (i := 0) rfl (by first | decide | exact Nat.le_of_ble_eq_true rfl | (simp; done) | omega) ?_)
  intro w5 hS6; dsimp only [List.set] at hS6
  clear hS4
  refine vc_e0 (.skip (by kernel_rfl) .nil) ?_
  refine vc_p rfl rfl rfl (fun _ => (ev_assign rfl)) ?_
  refine vc_p rfl rfl rfl (fun _ => (ev_assign rfl)) ?_
  refine VC.nil (qs_seq ?_)
  refine wc_sub (L' := [(9, _), (8, _), (6, _), (7, _), (0, _), (1, _), (2, _)]) (.cons rfl (.cons rfl (.cons rfl (.cons rfl (.cons rfl (.cons rfl (.cons rfl .nil))))))) ?_
  refine wc_ret (qs_then_ret ?_)
  refine finR4 (.inr rfl) rfl (resT rfl) (resCA rfl ag_35 sz_35 (by first | exact hS6.blk 0 rfl) (by first | decide | exact Nat.le_of_ble_eq_true rfl | (simp; done) | omega) rfl) (resT rfl) (resT rfl) ?_
  exact ⟨_, rfl, by unfold lookV; rw [if_pos hnb]; rfl, hS6.pick [1, 2] rfl⟩
 have hnb : nameB name = true := by simpa using h3
 refine wc_skip (qs_seq (wc_seq (wc_seq (wc_region (wl_move rfl rfl (wl_move rfl rfl ?_))))))
 have hC7 := hS2.split [1] [false, true, false] rfl; dsimp only [selF, pickA, nthA, List.cons_append, List.nil_append] at hC7
 refine wl_call cal_52 rfl (dir_sp hC7 (hG.starL 1 rfl) hP.tb dir (by omega)) rfl ?_
 rintro e w7 ⟨_, rfl, rfl, hS7⟩; refine ⟨_, rfl, ?_⟩
 replace hS7 := hS7.join rfl; dsimp only [List.dropLast, List.cons_append, List.nil_append] at hS7; clear hC7
 clear hS2
 refine wl_assign rfl rfl (wl_nil (qs_seq ?_))
 refine wc_sub (L' := [(10, _), (9, _), (8, _), (7, _), (6, _), (0, _), (1, _), (2, _)]) (.cons rfl (.cons rfl (.cons rfl (.cons rfl (.cons rfl (.cons rfl (.cons rfl (.cons rfl .nil)))))))) ?_
 refine wc_seq (wc_region (wl_move rfl rfl ?_))
 refine wl_neq rfl rfl rfl ?_
 refine wl_nil (qs_seq ?_)
 refine wc_condD rfl (fun h8 => ?_) (fun h8 => ?_)
 ·refine wc_seq ?_
  have hS9 := hS7.drew
  refine wc_draw [0, 1, 2, 3, 4, 5] [3] mix (by kernel_rfl) ?_
  refine vc_q rfl rfl rfl (ev_loadA rfl ag_35 sz_35 (by first | exact hS9.blk 1 rfl) (by first | decide | exact Nat.le_of_ble_eq_true rfl | (simp; done) | omega) rfl) ?_
  refine vc_p rfl rfl rfl (fun _ => (ev_move rfl)) ?_
  refine vc_p rfl rfl rfl (fun _ => (ev_assign rfl)) ?_
  refine vc_s rfl rfl rfl rfl rfl rfl ?_
  first | (refine wl_storeA hS9 rfl rfl sz_35 rfl (by first | rfl | (simp [allOne, Value.oneCell']; done) | assumption | exact hone) (i := 1) rfl (by first | decide | exact Nat.le_of_ble_eq_true rfl | (simp; done) | omega) ?_)
  intro w10 hS11; dsimp only [List.set] at hS11
  clear hS9
  refine vc_e0 (.skip (by kernel_rfl) .nil) ?_
  refine vc_p rfl rfl rfl (fun _ => (ev_assign rfl)) ?_
  refine vc_p rfl rfl rfl (fun _ => (ev_assign rfl)) ?_
  refine VC.nil (qs_seq ?_)
  refine wc_sub (L' := [(9, _), (8, _), (6, _), (7, _), (0, _), (1, _), (2, _)]) (.cons rfl (.cons rfl (.cons rfl (.cons rfl (.cons rfl (.cons rfl (.cons rfl .nil))))))) ?_
  refine wc_ret (qs_then_ret ?_)
  refine finR4 (.inr rfl) rfl (resT rfl) (resCA rfl ag_35 sz_35 (by first | exact hS11.blk 1 rfl) (by first | decide | exact Nat.le_of_ble_eq_true rfl | (simp; done) | omega) rfl) (resT rfl) (resT rfl) ?_
  exact ⟨_, rfl, by unfold lookV; rw [if_neg (by simp [hnb]), if_pos (by assumption)]; rfl, hS11.pick [0, 2] rfl⟩
 refine wc_skip (qs_seq (wc_seq ?_))
 have hS12 := hS7.drew
 refine wc_draw [0, 1, 2, 4, 5, 6, 3, 7, 8] [3, 7] mix (by kernel_rfl) ?_
 refine vc_p rfl rfl rfl (fun _ => (ev_move rfl)) ?_
 refine vc_p rfl rfl rfl (fun _ => (ev_move rfl)) ?_
 refine vc_p rfl rfl rfl (fun _ => (ev_move rfl)) ?_
 refine vc_p rfl rfl rfl (fun _ => (ev_makeMeth rfl)) ?_
 refine vc_p rfl rfl rfl (fun _ => (ev_nilCheckMeth rfl (mnil_Get p))) ?_
 refine vc_p rfl rfl rfl (fun _ => (ev_move rfl)) ?_
 refine vc_s rfl rfl rfl rfl rfl rfl ?_
 have hC13 := hS12.split [] [false, false, false] rfl; dsimp only [selF, pickA, nthA, List.cons_append, List.nil_append] at hC13
 refine wl_call cal_70 rfl (entry_sp hC13 dir name (by omega) (by omega)) rfl ?_
 rintro e w13 ⟨_, rfl, rfl, hS13⟩; refine ⟨_, rfl, ?_⟩
 replace hS13 := hS13.join rfl; dsimp only [List.dropLast, List.cons_append, List.nil_append] at hS13; clear hC13
 clear hS12
 refine vc_e .nil ?_
 refine vc_s rfl rfl rfl rfl rfl rfl ?_
 have hC14 := hS13.split [0] [true, false, false] rfl; dsimp only [selF, pickA, nthA, List.cons_append, List.nil_append] at hC14
 refine wl_invoke (vs := [strV (kE dir name)]) rfl (imeth_Get p) cal_16 rfl (get_sp hC14 (kE dir name)) rfl ?_
 rintro e w14 ⟨_, rfl, rfl, hS14⟩; refine ⟨_, rfl, ?_⟩
 replace hS14 := hS14.join rfl; dsimp only [List.dropLast, List.cons_append, List.nil_append] at hS14; clear hC14
 clear hS13
 refine vc_e .nil ?_
 refine vc_p rfl rfl rfl (fun _ => (ev_assign rfl)) ?_
 refine VC.nil (qs_seq ?_)
 refine wc_sub (L' := [(6, _), (9, _), (8, _), (7, _), (0, _)]) (.cons rfl (.cons rfl (.cons rfl (.cons rfl (.cons rfl .nil))))) ?_
 refine wc_seq (wc_region (wl_move rfl rfl (wl_move rfl rfl ?_)))
 have hC15 := hS14.split [0] [true, false, false] rfl; dsimp only [selF, pickA, nthA, List.cons_append, List.nil_append] at hC15
 refine wl_call cal_30 rfl (inode_sp hC15 (hG.starL 1 rfl) (W.cells (kE dir name)) (by have := hP.val (kE dir name); omega) (hP.tb _)) rfl ?_
 rintro e w15 ⟨_, rfl, rfl, hS15⟩; refine ⟨_, rfl, ?_⟩
 replace hS15 := hS15.join rfl; dsimp only [List.dropLast, List.cons_append, List.nil_append] at hS15; clear hC15
 clear hS14
 refine wl_move rfl rfl (wl_extract rfl rfl rfl (wl_extract rfl rfl rfl ?_))
 first | (refine wl_storeA hS15 rfl rfl sz_35 rfl (by first | rfl | (simp [allOne, Value.oneCell']; done) | assumption | exact hone) (i := 1) rfl (by first | decide | exact Nat.le_of_ble_eq_true rfl | (simp; done) | omega) ?_)
 intro w16 hS17; dsimp only [List.set] at hS17
 clear hS15
 refine wl_assign rfl rfl (wl_nil (qs_seq ?_))
 refine wc_sub (L' := [(8, _), (6, _), (9, _), (7, _)]) (.cons rfl (.cons rfl (.cons rfl (.cons rfl .nil)))) ?_
 refine wc_seq ?_
 have hS18 := hS17.drew
 refine wc_draw [0, 1, 2, 3, 4, 5, 6, 7, 8, 9, 10] [8] mix (by kernel_rfl) ?_
 refine vc_p rfl rfl rfl (fun _ => (ev_move rfl)) ?_
 refine vc_q rfl rfl rfl (ev_loadA rfl ag_35 sz_35 (by first | exact hS18.blk 1 rfl) (by first | decide | exact Nat.le_of_ble_eq_true rfl | (simp; done) | omega) rfl) ?_
 refine vc_p rfl rfl rfl (fun _ => (ev_move rfl)) ?_
 refine vc_p rfl rfl rfl (fun _ => (ev_move rfl)) ?_
 refine vc_split 39 rfl (fun h19 => ?_) (fun h19 => ?_)
 ·have hbx : bI W (W.cells (kE dir name)) = true := h19
  refine vc_p rfl rfl (guard_yes rfl rfl h19) (fun _ => (Ev.gd (ev_move rfl))) ?_
  refine vc_p rfl rfl (guard_yes rfl rfl h19) (fun _ => (Ev.gd (ev_neqS rfl rfl))) ?_
  refine vc_p rfl rfl rfl (fun _ => (ev_pickT rfl h19 rfl)) ?_
  refine vc_p rfl rfl rfl (fun _ => (ev_assign rfl)) ?_
  refine vc_s rfl rfl rfl rfl rfl rfl ?_
  first | (refine wl_storeA hS18 rfl rfl sz_35 rfl (by first | rfl | (simp [allOne, Value.oneCell']; done) | assumption | exact hone) (i := 1) rfl (by first | decide | exact Nat.le_of_ble_eq_true rfl | (simp; done) | omega) ?_)
  intro w20 hS21; dsimp only [List.set] at hS21
  clear hS18
  refine vc_e0 (.skip (by kernel_rfl) .nil) ?_
  refine vc_p rfl rfl rfl (fun _ => (ev_assign rfl)) ?_
  refine vc_p rfl rfl rfl (fun _ => (ev_assign rfl)) ?_
  refine VC.nil (qs_seq ?_)
  refine wc_sub (L' := [(9, _), (8, _), (6, _), (7, _)]) (.cons rfl (.cons rfl (.cons rfl (.cons rfl .nil)))) ?_
  refine wc_ret ?_
  refine finR4 (.inr rfl) rfl (resT rfl) (resCA rfl ag_35 sz_35 (by first | exact hS21.blk 1 rfl) (by first | decide | exact Nat.le_of_ble_eq_true rfl | (simp; done) | omega) rfl) (resT rfl) (resT rfl) ?_
  exact ⟨_, rfl, by unfold lookV; rw [if_neg (by simp [hnb]), if_neg (by assumption)]; first | rfl | (rw [hbx]; rfl), hS21.pick [0, 2] rfl⟩
 have hbx : bI W (W.cells (kE dir name)) = false := by simpa using h19
 refine vc_not rfl rfl (guard_no rfl rfl h19) ?_
 refine vc_not rfl rfl (guard_no rfl rfl h19) ?_
 refine vc_p rfl rfl rfl (fun _ => (ev_pickF rfl h19 rfl)) ?_
 refine vc_p rfl rfl rfl (fun _ => (ev_assign rfl)) ?_
 refine vc_s rfl rfl rfl rfl rfl rfl ?_
 first | (refine wl_storeA hS18 rfl rfl sz_35 rfl (by first | rfl | (simp [allOne, Value.oneCell']; done) | assumption | exact hone) (i := 1) rfl (by first | decide | exact Nat.le_of_ble_eq_true rfl | (simp; done) | omega) ?_)
 intro w22 hS23; dsimp only [List.set] at hS23
 clear hS18
 refine vc_e0 (.skip (by kernel_rfl) .nil) ?_
 refine vc_p rfl rfl rfl (fun _ => (ev_assign rfl)) ?_
 refine vc_p rfl rfl rfl (fun _ => (ev_assign rfl)) ?_
 refine VC.nil (qs_seq ?_)
 refine wc_sub (L' := [(9, _), (8, _), (6, _), (7, _)]) (.cons rfl (.cons rfl (.cons rfl (.cons rfl .nil)))) ?_
 refine wc_ret ?_
 refine finR4 (.inr rfl) rfl (resT rfl) (resCA rfl ag_35 sz_35 (by first | exact hS23.blk 1 rfl) (by first | decide | exact Nat.le_of_ble_eq_true rfl | (simp; done) | omega) rfl) (resT rfl) (resT rfl) ?_
 exact ⟨_, rfl, by unfold lookV; rw [if_neg (by simp [hnb]), if_neg (by assumption)]; first | rfl | (rw [hbx]; rfl), hS23.pick [0, 2] rfl⟩
set_option maxRecDepth 100000 in
theorem links_sp {w : World} {p : Nat} {W : WS} {F : Th} (hS : Sat w [worldT p W, F]) (hG : Ent F WireG) (id : Bs) (hid : id.length ≤ 3000) {n : InD} (hI : InB n) (b : Int) :
    Calls Tryz.prog 87 #[.iface 25 (ptrV p 0), strV id, .agg #[intV n.k, intV n.sz, intV n.ln], intV b] w (Ret fun v w' => v = .tuple #[] ∧ Sat w' [worldT p (setI W id (lnk n b)), F]) := by
 refine calls_enter Tryz.func87 rfl Tryz.ntmps87 rfl ?_
 refine wc_seq (wc_region ?_)
 refine wl_box hS rfl rfl rfl ?_
 intro b1 w1 hS1
 refine wl_nil (qs_seq (wc_seq (wc_region ?_)))
 refine wl_fieldAddr rfl fo_35_2 rfl ?_
 refine wl_load rfl ag_3 (by first | assumption | exact hS1.cell 0 rfl rfl) rfl ?_
 refine wl_move rfl rfl ?_
 refine wl_addW rfl rfl rfl rfl ?_
 refine wl_fieldAddr rfl fo_35_2 rfl ?_
 first | (refine wl_store hS1 rfl rfl sz_3 (by first | rfl | assumption) (i := 0) rfl (by first | decide | exact Nat.le_of_ble_eq_true rfl | (simp; done) | omega) ?_)
 intro w2 hS3; dsimp only [List.set] at hS3
 clear hS1
 refine wl_nil (qs_seq (wc_region (wl_move rfl rfl (wl_move rfl rfl ?_))))
 refine wl_loadA rfl ag_35 sz_35 (by first | exact hS3.blk 0 rfl) (by first | decide | exact Nat.le_of_ble_eq_true rfl | (simp; done) | omega) rfl rfl ?_
 have hC4 := hS3.split [1] [false, true, false] rfl; dsimp only [selF, pickA, nthA, List.cons_append, List.nil_append] at hC4
 refine wl_call cal_43 rfl (setI_sp hC4 (hG.starL 1 rfl) id (by omega) (n := lnk n b) (lnk_in hI b)) rfl ?_
 rintro e w4 ⟨_, rfl, rfl, hS4⟩; refine ⟨_, rfl, ?_⟩
 replace hS4 := hS4.join rfl; dsimp only [List.dropLast, List.cons_append, List.nil_append] at hS4; clear hC4
 clear hS3
 refine wl_nil ?_
 refine fin0 (.inl rfl) rfl ?_
 exact ⟨_, rfl, rfl, hS4.pick [0, 2] rfl⟩
set_option maxRecDepth 100000 in
theorem link_sp {w : World} {p : Nat} {W : WS} {m : Nat} {F : Th} (hS : Sat w [worldT p W, F]) (hG : Ent F WireG) (hP : PI W m) (hm : m ≤ 900) (dir name id : Bs) (hd : dir.length ≤ 900) (hn : name.length ≤ 900) (hid : id.length ≤ 900) :
    Calls Tryz.prog 44 #[.iface 25 (ptrV p 0), strV dir, strV name, strV id] w (Ret fun v w' => v = intV (linkE W dir name id) ∧ Sat w' [worldT p (linkW W dir name id), F]) := by
 refine calls_enter Tryz.func44 rfl Tryz.ntmps44 rfl ?_
 refine wc_seq (wc_region (wl_assign rfl rfl (wl_nil (qs_seq (wc_seq (wc_region (wl_move rfl rfl (wl_move rfl rfl (wl_move rfl rfl ?_)))))))))
 have hC1 := hS.split [0] [true, false] rfl; dsimp only [selF, pickA, nthA, List.cons_append, List.nil_append] at hC1
 refine wl_call cal_82 rfl (look_sp hC1 (hG.starL 0 rfl) hP hm dir name (by omega) (by omega)) rfl ?_
 rintro e w1 ⟨_, rfl, rfl, hS1⟩; refine ⟨_, rfl, ?_⟩
 replace hS1 := hS1.join rfl; dsimp only [List.dropLast, List.cons_append, List.nil_append] at hS1; clear hC1
 refine wl_move rfl rfl (wl_extract rfl rfl rfl (wl_extract rfl rfl rfl (wl_extract rfl rfl rfl (wl_extract rfl rfl rfl ?_))))
 refine wl_alloc hS1 zr_35 rfl rfl ?_
 intro b2 w2 hS2
 clear hS1
 refine wl_assign rfl rfl ?_
 first | (refine wl_storeA hS2 rfl rfl sz_35 rfl (by first | rfl | (simp [allOne, Value.oneCell']; done) | assumption | exact hone) (i := 0) rfl (by first | decide | exact Nat.le_of_ble_eq_true rfl | (simp; done) | omega) ?_)
 intro w3 hS4; dsimp only [List.set] at hS4
 clear hS2
 refine wl_assign rfl rfl (wl_assign rfl rfl (wl_nil (qs_seq ?_)))
 refine wc_sub (L' := [(12, _), (9, _), (8, _), (0, _), (1, _), (2, _), (3, _)]) (.cons rfl (.cons rfl (.cons rfl (.cons rfl (.cons rfl (.cons rfl (.cons rfl .nil))))))) ?_
 refine wc_seq (wc_seq (wc_region (wl_move rfl rfl ?_)))
 refine wl_neq rfl rfl rfl ?_
 refine wl_nil (qs_seq ?_)
 refine wc_condD rfl (fun h5 => ?_) (fun h5 => ?_)
 ·refine wc_seq (wc_region (wl_move rfl rfl (wl_assign rfl rfl (wl_nil (qs_seq (wc_ret (qs_then_ret ?_)))))))
  refine fin1 (.inr rfl) rfl rfl ?_
  have hE : linkE W dir name id = (lookV W dir name).e := by unfold linkE; rw [if_pos (by assumption)]
  have hWW : linkW W dir name id = W := by unfold linkW; rw [if_neg (by rw [hE]; first | decide | assumption)]
  exact ⟨_, rfl, by rw [hE], by rw [hWW]; exact hS4.pick [1, 2] rfl⟩
 refine wc_skip (qs_seq (wc_seq (wc_region (wl_move rfl rfl (wl_move rfl rfl ?_)))))
 have hC6 := hS4.split [1] [false, true, false] rfl; dsimp only [selF, pickA, nthA, List.cons_append, List.nil_append] at hC6
 refine wl_call cal_30 rfl (inode_sp hC6 (hG.starL 1 rfl) id (by omega) (hP.tb _)) rfl ?_
 rintro e w6 ⟨_, rfl, rfl, hS6⟩; refine ⟨_, rfl, ?_⟩
 replace hS6 := hS6.join rfl; dsimp only [List.dropLast, List.cons_append, List.nil_append] at hS6; clear hC6
 clear hS4
 refine wl_move rfl rfl (wl_extract rfl rfl rfl (wl_extract rfl rfl rfl ?_))
 refine wl_alloc hS6 zr_35 rfl rfl ?_
 intro b7 w7 hS7
 clear hS6
 first | (refine wl_storeA hS7 rfl rfl sz_35 rfl (by first | rfl | (simp [allOne, Value.oneCell']; done) | assumption | exact hone) (i := 0) rfl (by first | decide | exact Nat.le_of_ble_eq_true rfl | (simp; done) | omega) ?_) | (refine wl_storeA hS7 rfl rfl sz_35 rfl (by first | rfl | (simp [allOne, Value.oneCell']; done) | assumption | exact hone) (i := 2) rfl (by first | decide | exact Nat.le_of_ble_eq_true rfl | (simp; done) | omega) ?_)
 intro w8 hS9; dsimp only [List.set] at hS9
 clear hS7
 refine wl_assign rfl rfl (wl_nil (qs_seq ?_))
 refine wc_sub (L' := [(14, _), (13, _), (9, _), (8, _), (0, _), (1, _), (2, _), (3, _)]) (.cons rfl (.cons rfl (.cons rfl (.cons rfl (.cons rfl (.cons rfl (.cons rfl (.cons rfl .nil)))))))) ?_
 refine wc_seq (wc_block (wc_seq (wc_region (wl_move rfl rfl ?_))))
 refine wl_neqS rfl rfl rfl ?_
 refine wl_assign rfl rfl (wl_nil (qs_seq ?_))
 refine wc_sub (L' := [(33, _), (14, _), (13, _), (8, _), (0, _), (1, _), (2, _), (3, _)]) (.cons rfl (.cons rfl (.cons rfl (.cons rfl (.cons rfl (.cons rfl (.cons rfl (.cons rfl .nil)))))))) ?_
 refine wc_condD rfl (fun h10 => ?_) (fun h10 => ?_)
 ·refine wc_seq (wc_region (wl_assign rfl rfl (wl_nil (qs_seq (wc_ret (qs_block_ret (qs_then_ret ?_)))))))
  refine fin1 (.inr rfl) rfl rfl ?_
  have hE : linkE W dir name id = 5 := by unfold linkE; rw [if_neg (by assumption), if_pos (by assumption)]
  have hWW : linkW W dir name id = W := by unfold linkW; rw [if_neg (by rw [hE]; first | decide | assumption)]
  exact ⟨_, rfl, by rw [hE], by rw [hWW]; exact hS9.pick [1, 3] rfl⟩
 refine wc_seq (wc_region (wl_move rfl rfl ?_))
 refine wl_not rfl rfl ?_
 refine wl_assign rfl rfl (wl_nil (qs_seq ?_))
 refine wc_sub (L' := [(36, _), (13, _), (8, _), (0, _), (1, _), (2, _), (3, _)]) (.cons rfl (.cons rfl (.cons rfl (.cons rfl (.cons rfl (.cons rfl (.cons rfl .nil))))))) ?_
 refine wc_cond rfl (fun h11 => ?_) (fun h11 => ?_)
 ·have hb2 : bI W id = false := by simpa using h11
  refine wc_seq (wc_region (wl_assign rfl rfl (wl_nil (qs_seq (wc_ret (qs_block_ret (qs_then_ret ?_)))))))
  refine fin1 (.inr rfl) rfl rfl ?_
  have hE : linkE W dir name id = 4 := by unfold linkE; rw [if_neg (by assumption), if_neg (by assumption), if_pos hb2]
  have hWW : linkW W dir name id = W := by unfold linkW; rw [if_neg (by rw [hE]; first | decide | assumption)]
  exact ⟨_, rfl, by rw [hE], by rw [hWW]; exact hS9.pick [1, 3] rfl⟩
 have hb2 : bI W id = true := by simpa using h11
 refine wc_seq (wc_region ?_)
 refine wl_fieldAddr rfl fo_35_0 rfl ?_
 refine wl_load rfl ag_3 (by first | assumption | exact hS9.cell 0 rfl rfl | exact hS9.cell 2 rfl rfl) rfl ?_
 refine wl_eql rfl rfl rfl ?_
 refine wl_assign rfl rfl (wl_nil (qs_seq ?_))
 refine wc_sub (L' := [(39, _), (13, _), (8, _), (0, _), (1, _), (2, _), (3, _)]) (.cons rfl (.cons rfl (.cons rfl (.cons rfl (.cons rfl (.cons rfl (.cons rfl .nil))))))) ?_
 refine wc_condD rfl (fun h12 => ?_) (fun h12 => ?_)
 ·refine wc_seq (wc_region (wl_assign rfl rfl (wl_nil (qs_seq (wc_ret (qs_block_ret (qs_then_ret ?_)))))))
  refine fin1 (.inr rfl) rfl rfl ?_
  have hE : linkE W dir name id = 13 := by unfold linkE; rw [if_neg (by assumption), if_neg (by assumption), if_neg (by simp [hb2]), if_pos (by assumption)]
  have hWW : linkW W dir name id = W := by unfold linkW; rw [if_neg (by rw [hE]; first | decide | assumption)]
  exact ⟨_, rfl, by rw [hE], by rw [hWW]; exact hS9.pick [1, 3] rfl⟩
 refine wc_skip (qs_block_normal (qs_seq (wc_seq ?_)))
 have hS13 := hS9.drew
 refine wc_draw [0, 1, 2, 4, 5, 6, 7, 3, 8] [3, 8] mix (by kernel_rfl) ?_
 refine vc_p rfl rfl rfl (fun _ => (ev_move rfl)) ?_
 refine vc_p rfl rfl rfl (fun _ => (ev_move rfl)) ?_
 refine vc_p rfl rfl rfl (fun _ => (ev_move rfl)) ?_
 refine vc_p rfl rfl rfl (fun _ => (ev_move rfl)) ?_
 refine vc_p rfl rfl rfl (fun _ => (ev_makeMeth rfl)) ?_
 refine vc_p rfl rfl rfl (fun _ => (ev_nilCheckMeth rfl (mnil_Put p))) ?_
 refine vc_p rfl rfl rfl (fun _ => (ev_move rfl)) ?_
 refine vc_s rfl rfl rfl rfl rfl rfl ?_
 have hC14 := hS13.split [] [false, false, false, false] rfl; dsimp only [selF, pickA, nthA, List.cons_append, List.nil_append] at hC14
 refine wl_call cal_70 rfl (entry_sp hC14 dir name (by omega) (by omega)) rfl ?_
 rintro e w14 ⟨_, rfl, rfl, hS14⟩; refine ⟨_, rfl, ?_⟩
 replace hS14 := hS14.join rfl; dsimp only [List.dropLast, List.cons_append, List.nil_append] at hS14; clear hC14
 clear hS13
 refine vc_e .nil ?_
 refine vc_s rfl rfl rfl rfl rfl rfl ?_
 have hC15 := hS14.split [1] [false, true, false, false] rfl; dsimp only [selF, pickA, nthA, List.cons_append, List.nil_append] at hC15
 refine wl_invoke (vs := [strV (kE dir name), strV id]) rfl (imeth_Put p) cal_23 rfl (put_sp hC15 (kE dir name) id (by simp only [kI, kU, kE, List.length_append, List.length_cons, List.length_nil]; omega) (by omega)) rfl ?_
 rintro e w15 ⟨_, rfl, rfl, hS15⟩; refine ⟨_, rfl, ?_⟩
 replace hS15 := hS15.join rfl; dsimp only [List.dropLast, List.cons_append, List.nil_append] at hS15; clear hC15
 clear hS14
 refine vc_e .nil ?_
 refine VC.nil (qs_seq ?_)
 refine wc_sub (L' := [(13, _), (8, _), (0, _), (3, _)]) (.cons rfl (.cons rfl (.cons rfl (.cons rfl .nil)))) ?_
 refine wc_seq (wc_region (wl_move rfl rfl (wl_move rfl rfl ?_)))
 refine wl_loadA rfl ag_35 sz_35 (by first | exact hS15.blk 1 rfl | exact hS15.blk 2 rfl) (by first | decide | exact Nat.le_of_ble_eq_true rfl | (simp; done) | omega) rfl rfl ?_
 have hC16 := hS15.split [0] [true, false, false, false] rfl; dsimp only [selF, pickA, nthA, List.cons_append, List.nil_append] at hC16
 refine wl_call cal_87 rfl (links_sp hC16 (hG.starL 2 rfl) id (by omega) (gI_in W id) 1) rfl ?_
 rintro e w16 ⟨_, rfl, rfl, hS16⟩; refine ⟨_, rfl, ?_⟩
 replace hS16 := hS16.join rfl; dsimp only [List.dropLast, List.cons_append, List.nil_append] at hS16; clear hC16
 clear hS15
 refine wl_nil (qs_seq (wc_seq (wc_region (wl_assign rfl rfl (wl_nil (qs_seq (wc_ret ?_)))))))
 refine fin1 (.inr rfl) rfl rfl ?_
 have hE : linkE W dir name id = 0 := by unfold linkE; rw [if_neg (by assumption), if_neg (by assumption), if_neg (by simp [hb2]), if_neg (by assumption)]
 have hWW : linkW W dir name id = setI (putS W (kE dir name) id) id (lnk (gI' W id) 1) := by unfold linkW; rw [if_pos hE]
 exact ⟨_, rfl, by rw [hE], by rw [hWW]; exact hS16.pick [0, 3] rfl⟩
set_option maxRecDepth 100000 in
theorem unl_sp {w : World} {p : Nat} {W : WS} {m : Nat} {F : Th} (hS : Sat w [worldT p W, F]) (hG : Ent F WireG) (hP : PI W m) (hm : m ≤ 900) (dir name : Bs) (hd : dir.length ≤ 900) (hn : name.length ≤ 900) :
    Calls Tryz.prog 46 #[.iface 25 (ptrV p 0), strV dir, strV name] w (Ret fun v w' => v = .tuple #[strV (unlS W dir name), intV (unlE W dir name)] ∧ Sat w' [worldT p (unlW W dir name), F]) := by
 refine calls_enter Tryz.func46 rfl Tryz.ntmps46 rfl ?_
 refine wc_seq (wc_region (wl_assign rfl rfl (wl_assign rfl rfl (wl_nil (qs_seq (wc_seq (wc_region (wl_move rfl rfl (wl_move rfl rfl (wl_move rfl rfl ?_))))))))))
 have hC1 := hS.split [0] [true, false] rfl; dsimp only [selF, pickA, nthA, List.cons_append, List.nil_append] at hC1
 refine wl_call cal_82 rfl (look_sp hC1 (hG.starL 0 rfl) hP hm dir name (by omega) (by omega)) rfl ?_
 rintro e w1 ⟨_, rfl, rfl, hS1⟩; refine ⟨_, rfl, ?_⟩
 replace hS1 := hS1.join rfl; dsimp only [List.dropLast, List.cons_append, List.nil_append] at hS1; clear hC1
 refine wl_move rfl rfl (wl_extract rfl rfl rfl (wl_extract rfl rfl rfl (wl_extract rfl rfl rfl (wl_extract rfl rfl rfl ?_))))
 refine wl_alloc hS1 zr_35 rfl rfl ?_
 intro b2 w2 hS2
 clear hS1
 refine wl_assign rfl rfl ?_
 first | (refine wl_storeA hS2 rfl rfl sz_35 rfl (by first | rfl | (simp [allOne, Value.oneCell']; done) | assumption | exact hone) (i := 0) rfl (by first | decide | exact Nat.le_of_ble_eq_true rfl | (simp; done) | omega) ?_)
 intro w3 hS4; dsimp only [List.set] at hS4
 clear hS2
 refine wl_assign rfl rfl (wl_assign rfl rfl (wl_nil (qs_seq ?_)))
 refine wc_sub (L' := [(11, _), (10, _), (8, _), (9, _), (7, _), (6, _), (0, _), (1, _), (2, _)]) (.cons rfl (.cons rfl (.cons rfl (.cons rfl (.cons rfl (.cons rfl (.cons rfl (.cons rfl (.cons rfl .nil))))))))) ?_
 refine wc_seq (wc_block (wc_seq (wc_region (wl_move rfl rfl ?_))))
 refine wl_neq rfl rfl rfl ?_
 refine wl_assign rfl rfl (wl_nil (qs_seq ?_))
 refine wc_condD rfl (fun h5 => ?_) (fun h5 => ?_)
 ·refine wc_seq (wc_region (wl_move rfl rfl (wl_assign rfl rfl (wl_assign rfl rfl (wl_nil (qs_seq ?_))))))
  refine wc_sub (L' := [(7, _), (6, _), (8, _), (9, _), (0, _), (1, _), (2, _)]) (.cons rfl (.cons rfl (.cons rfl (.cons rfl (.cons rfl (.cons rfl (.cons rfl .nil))))))) ?_
  refine wc_ret (qs_block_ret (qs_then_ret ?_))
  refine fin2 (.inr rfl) rfl rfl rfl ?_
  have hE : unlE W dir name = (lookV W dir name).e := by unfold unlE; rw [if_pos (by assumption)]
  exact ⟨_, rfl, by unfold unlS; rw [if_neg (by rw [hE]; first | decide | assumption)]; rw [hE], by unfold unlW; rw [if_neg (by rw [hE]; first | decide | assumption)]; exact hS4.pick [1, 2] rfl⟩
 refine wc_seq (wc_region (wl_move rfl rfl ?_))
 refine wl_not rfl rfl ?_
 refine wl_assign rfl rfl (wl_nil (qs_seq ?_))
 refine wc_sub (L' := [(25, _), (8, _), (9, _), (7, _), (6, _), (0, _), (1, _), (2, _)]) (.cons rfl (.cons rfl (.cons rfl (.cons rfl (.cons rfl (.cons rfl (.cons rfl (.cons rfl .nil)))))))) ?_
 refine wc_cond rfl (fun h6 => ?_) (fun h6 => ?_)
 ·have hb1 : (lookV W dir name).ok = false := by simpa using h6
  refine wc_seq (wc_region (wl_assign rfl rfl (wl_assign rfl rfl (wl_nil (qs_seq (wc_ret (qs_block_ret (qs_then_ret ?_))))))))
  refine fin2 (.inr rfl) rfl rfl rfl ?_
  have hE : unlE W dir name = 4 := by unfold unlE; rw [if_neg (by assumption), if_pos hb1]
  exact ⟨_, rfl, by unfold unlS; rw [if_neg (by rw [hE]; first | decide | assumption)]; rw [hE], by unfold unlW; rw [if_neg (by rw [hE]; first | decide | assumption)]; exact hS4.pick [1, 2] rfl⟩
 have hb1 : (lookV W dir name).ok = true := by simpa using h6
 refine wc_seq (wc_region ?_)
 refine wl_fieldAddr rfl fo_35_0 rfl ?_
 refine wl_load rfl ag_3 (by first | assumption | exact hS4.cell 0 rfl rfl) rfl ?_
 refine wl_eql rfl rfl rfl ?_
 refine wl_assign rfl rfl (wl_nil (qs_seq ?_))
 refine wc_sub (L' := [(28, _), (8, _), (9, _), (7, _), (6, _), (0, _), (1, _), (2, _)]) (.cons rfl (.cons rfl (.cons rfl (.cons rfl (.cons rfl (.cons rfl (.cons rfl (.cons rfl .nil)))))))) ?_
 refine wc_condD rfl (fun h7 => ?_) (fun h7 => ?_)
 ·refine wc_seq (wc_region (wl_assign rfl rfl (wl_assign rfl rfl (wl_nil (qs_seq (wc_ret (qs_block_ret (qs_then_ret ?_))))))))
  refine fin2 (.inr rfl) rfl rfl rfl ?_
  have hE : unlE W dir name = 13 := by unfold unlE; rw [if_neg (by assumption), if_neg (by simp [hb1]), if_pos (by assumption)]
  exact ⟨_, rfl, by unfold unlS; rw [if_neg (by rw [hE]; first | decide | assumption)]; rw [hE], by unfold unlW; rw [if_neg (by rw [hE]; first | decide | assumption)]; exact hS4.pick [1, 2] rfl⟩
 refine wc_skip (qs_block_normal (qs_seq (wc_seq ?_)))
 have hS8 := hS4.drew
 refine wc_draw [0, 1, 2, 4, 5, 6, 3, 7] [3, 7] mix (by kernel_rfl) ?_
 refine vc_p rfl rfl rfl (fun _ => (ev_move rfl)) ?_
 refine vc_p rfl rfl rfl (fun _ => (ev_move rfl)) ?_
 refine vc_p rfl rfl rfl (fun _ => (ev_move rfl)) ?_
 refine vc_p rfl rfl rfl (fun _ => (ev_makeMeth rfl)) ?_
 refine vc_p rfl rfl rfl (fun _ => (ev_nilCheckMeth rfl (mnil_Put p))) ?_
 refine vc_p rfl rfl rfl (fun _ => (ev_move rfl)) ?_
 refine vc_s rfl rfl rfl rfl rfl rfl ?_
 have hC9 := hS8.split [] [false, false, false] rfl; dsimp only [selF, pickA, nthA, List.cons_append, List.nil_append] at hC9
 refine wl_call cal_70 rfl (entry_sp hC9 dir name (by omega) (by omega)) rfl ?_
 rintro e w9 ⟨_, rfl, rfl, hS9⟩; refine ⟨_, rfl, ?_⟩
 replace hS9 := hS9.join rfl; dsimp only [List.dropLast, List.cons_append, List.nil_append] at hS9; clear hC9
 clear hS8
 refine vc_e .nil ?_
 refine vc_s rfl rfl rfl rfl rfl rfl ?_
 have hC10 := hS9.split [1] [false, true, false] rfl; dsimp only [selF, pickA, nthA, List.cons_append, List.nil_append] at hC10
 refine wl_invoke (vs := [strV (kE dir name), strV []]) rfl (imeth_Put p) cal_23 rfl (put_sp hC10 (kE dir name) [] (by simp only [kI, kU, kE, List.length_append, List.length_cons, List.length_nil]; omega) (by simp)) rfl ?_
 rintro e w10 ⟨_, rfl, rfl, hS10⟩; refine ⟨_, rfl, ?_⟩
 replace hS10 := hS10.join rfl; dsimp only [List.dropLast, List.cons_append, List.nil_append] at hS10; clear hC10
 clear hS9
 refine vc_e .nil ?_
 refine VC.nil (qs_seq ?_)
 refine wc_sub (L' := [(8, _), (9, _), (7, _), (6, _), (0, _)]) (.cons rfl (.cons rfl (.cons rfl (.cons rfl (.cons rfl .nil))))) ?_
 refine wc_seq (wc_region (wl_move rfl rfl (wl_move rfl rfl ?_)))
 refine wl_loadA rfl ag_35 sz_35 (by first | exact hS10.blk 1 rfl) (by first | decide | exact Nat.le_of_ble_eq_true rfl | (simp; done) | omega) rfl rfl ?_
 have hC11 := hS10.split [0] [true, false, false] rfl; dsimp only [selF, pickA, nthA, List.cons_append, List.nil_append] at hC11
 refine wl_call cal_87 rfl (links_sp hC11 (hG.starL 1 rfl) (lookV W dir name).id (by have := lookV_len hP dir name; omega) (lookV_in W dir name) (-1)) rfl ?_
 rintro e w11 ⟨_, rfl, rfl, hS11⟩; refine ⟨_, rfl, ?_⟩
 replace hS11 := hS11.join rfl; dsimp only [List.dropLast, List.cons_append, List.nil_append] at hS11; clear hC11
 clear hS10
 refine wl_nil (qs_seq (wc_seq (wc_region (wl_move rfl rfl (wl_assign rfl rfl (wl_assign rfl rfl (wl_nil (qs_seq (wc_ret ?_)))))))))
 refine fin2 (.inr rfl) rfl rfl rfl ?_
 have hE : unlE W dir name = 0 := by unfold unlE; rw [if_neg (by assumption), if_neg (by simp [hb1]), if_neg (by assumption)]
 exact ⟨_, rfl, by unfold unlS; rw [if_pos hE]; rw [hE], by unfold unlW; rw [if_pos hE]; exact hS11.pick [0, 2] rfl⟩
set_option maxRecDepth 100000 in
theorem depth_sp {w : World} {p : Nat} {W : WS} {m : Nat} {F : Th} (hS : Sat w [worldT p W, F]) (hP : PI W m) (dir : Bs) (hd : dir.length ≤ 900) :
    Calls Tryz.prog 36 #[.iface 25 (ptrV p 0), strV dir] w (Ret fun v w' => v = intV (depF W 100 dir : Nat) ∧ Sat w' [worldT p W, F]) := by
 refine calls_enter Tryz.func36 rfl Tryz.ntmps36 rfl ?_
 refine wc_seq (wc_region (wl_assign rfl rfl (wl_nil (qs_seq (wc_seq (wc_seq (wc_region (wl_move rfl rfl (wl_nil (qs_seq (wc_block ?_)))))))))))
 refine wc_loop (fun K0 E0 W0 => ∃ (i : Nat) (d : Bs), K0 = 100 - i ∧ E0 = [(0, .iface 25 (ptrV p 0)), (1, strV d), (6, intV (i : Int))] ∧ Sat W0 [worldT p W, F] ∧ (i ≤ 100) ∧ (depF W 100 dir = i + depF W (100 - i) d) ∧ (d.length ≤ 900)) (L0 := [(0, _), (1, _), (6, _)]) (100 - 0) (.cons rfl (.cons rfl (.cons rfl .nil))) ⟨0, dir, rfl, rfl, hS, by omega, by simp, hd⟩ ?_
 rintro _ _ w1 ⟨i, d, rfl, rfl, hS1, hi, hdp, hdl⟩
 refine wc_seq (wc_region ?_)
 refine wl_lss rfl rfl rfl ?_
 refine wl_nil (qs_seq (wc_seq ?_))
 refine wc_condD rfl (fun h2 => ?_) (fun h2 => ?_)
 ·refine wc_skip (qs_seq (wc_seq (wc_block (wc_seq (wc_region (wl_move rfl rfl (wl_assign rfl rfl (wl_nil (qs_seq (wc_seq (wc_seq (wc_region (wl_move rfl rfl ?_)))))))))))))
  refine wl_eqlS rfl rfl rfl ?_
  refine wl_nil (qs_seq ?_)
  refine wc_condD rfl (fun h3 => ?_) (fun h3 => ?_)
  ·refine wc_seq (wc_region (wl_move rfl rfl (wl_assign rfl rfl (wl_nil (qs_seq (wc_ret (qs_then_ret (qs_block_ret (qs_then_ret (qs_then_ret (qs_block_ret (qs_then_ret ?_))))))))))))
   refine fin1 (.inr rfl) rfl rfl ?_
   exact ⟨_, rfl, by rw [hdp, show 100 - i = (99 - i) + 1 by omega, depF, if_pos (by assumption), Nat.add_zero], hS1.pick [0, 1] rfl⟩
  refine wc_skip (qs_seq (wc_region (wl_move rfl rfl (wl_move rfl rfl ?_))))
  refine wl_concat rfl rfl (by first | omega | (simp; omega)) rfl ?_
  have hC4 := hS1.split [0] [true, false] rfl; dsimp only [selF, pickA, nthA, List.cons_append, List.nil_append] at hC4
  refine wl_invoke (vs := [strV (kU d)]) rfl (imeth_Get p) cal_16 rfl (get_sp hC4 (kU d)) rfl ?_
  rintro e w4 ⟨_, rfl, rfl, hS4⟩; refine ⟨_, rfl, ?_⟩
  replace hS4 := hS4.join rfl; dsimp only [List.dropLast, List.cons_append, List.nil_append] at hS4; clear hC4
  clear hS1
  refine wl_assign rfl rfl (wl_nil (qs_block_normal (qs_seq ?_)))
  refine wc_sub (L' := [(1, _), (0, _), (6, _)]) (.cons rfl (.cons rfl (.cons rfl .nil))) ?_
  refine wc_region ?_
  refine wl_add rfl rfl (by first | omega | (simp; omega)) (by first | omega | (simp; omega)) rfl ?_
  refine wl_move rfl rfl (wl_nil ?_)
  exact qs_round (L1 := [(0, _), (1, strV (W.cells (kU d))), (6, intV ((i + 1 : Nat) : Int))]) (.cons rfl (.cons rfl (.cons rfl .nil))) (k1 := 100 - (i + 1)) (by omega) ⟨i + 1, W.cells (kU d), rfl, rfl, hS4.pick [0, 1] rfl, by omega, by rw [hdp, show 100 - i = (100 - (i + 1)) + 1 by omega, depF, if_neg (by assumption)]; omega, by have := hP.val (kU d); omega⟩
 refine wc_exit (qs_then_exit (qs_then_exit (qs_block_exit (qs_seq (wc_seq (wc_region (wl_assign rfl rfl (wl_nil (qs_seq (wc_ret ?_))))))))))
 refine fin1 (.inr rfl) rfl rfl ?_
 exact ⟨_, rfl, by rw [hdp, show 100 - i = 0 by omega, depF, show i = 100 by omega]; rfl, hS1.pick [0, 1] rfl⟩
set_option maxRecDepth 100000 in
theorem inodes_sp {w : World} {p : Nat} {W : WS} {m : Nat} {F : Th} (hS : Sat w [worldT p W, F]) (hP : PI W m) (hm : m ≤ 900) :
    Calls Tryz.prog 34 #[.iface 25 (ptrV p 0)] w (Ret fun v w' => v = intV (cntK W [105, 47] : Nat) ∧ Sat w' [worldT p W, F]) := by
 refine calls_enter Tryz.func34 rfl Tryz.ntmps34 rfl ?_
 refine wc_seq (wc_region (wl_assign rfl rfl (wl_nil (qs_seq (wc_seq (wc_region (wl_move rfl rfl ?_)))))))
 have hC1 := hS.split [0] [true, false] rfl; dsimp only [selF, pickA, nthA, List.cons_append, List.nil_append] at hC1
 refine wl_invoke (vs := [strV [105, 47]]) rfl (imeth_Keys p) cal_17 rfl (keys_sp hC1 [105, 47] (hP.kin (by omega))) rfl ?_
 rintro e w1 ⟨_, rfl, lk, hlk, hS1⟩; refine ⟨_, rfl, ?_⟩
 replace hS1 := hS1.join rfl; dsimp only [List.dropLast, List.cons_append, List.nil_append] at hS1; clear hC1
 have hkn := cntK_eq (CntOf.keys hlk)
 obtain ⟨ka, kc, hkv, _⟩ := hS1.own_shape 0 rfl
 obtain rfl := hkv
 first | refine wl_lenL Tryz.underlying40 rfl rfl ?_ | refine wl_lenO 0 hS1 Tryz.underlying40 rfl rfl rfl ?_
 refine wl_assign rfl rfl (wl_nil (qs_seq (wc_ret ?_)))
 refine fin1 (.inr rfl) rfl rfl ?_
 exact ⟨_, rfl, by rw [hkn], hS1.pick [1, 2] rfl⟩
set_option maxRecDepth 100000 in
set_option maxHeartbeats 800000 in
theorem mkdir_sp {w : World} {p : Nat} {W : WS} {m : Nat} {F : Th} (hS : Sat w [worldT p W, F]) (hG : Ent F WireG) (hP : PI W m) (hm : m ≤ 900) (dir name id : Bs) (hd : dir.length ≤ 900) (hn : name.length ≤ 900) (hid : id.length ≤ 900) :
    Calls Tryz.prog 42 #[.iface 25 (ptrV p 0), strV dir, strV name, strV id] w (Ret fun v w' => v = intV (mkdE W dir name id) ∧ Sat w' [worldT p (mkdW W dir name id), F]) := by
 refine calls_enter Tryz.func42 rfl Tryz.ntmps42 rfl ?_
 refine wc_seq (wc_region (wl_assign rfl rfl (wl_nil (qs_seq (wc_seq (wc_region (wl_move rfl rfl (wl_move rfl rfl (wl_move rfl rfl ?_)))))))))
 have hC1 := hS.split [0] [true, false] rfl; dsimp only [selF, pickA, nthA, List.cons_append, List.nil_append] at hC1
 refine wl_call cal_82 rfl (look_sp hC1 (hG.starL 0 rfl) hP hm dir name (by omega) (by omega)) rfl ?_
 rintro e w1 ⟨_, rfl, rfl, hS1⟩; refine ⟨_, rfl, ?_⟩
 replace hS1 := hS1.join rfl; dsimp only [List.dropLast, List.cons_append, List.nil_append] at hS1; clear hC1
 refine wl_move rfl rfl (wl_extract rfl rfl rfl (wl_extract rfl rfl rfl (wl_extract rfl rfl rfl (wl_extract rfl rfl rfl ?_))))
 refine wl_alloc hS1 zr_35 rfl rfl ?_
 intro b2 w2 hS2
 clear hS1
 refine wl_assign rfl rfl ?_
 first | (refine wl_storeA hS2 rfl rfl sz_35 rfl (by first | rfl | (simp [allOne, Value.oneCell']; done) | assumption | exact hone) (i := 0) rfl (by first | decide | exact Nat.le_of_ble_eq_true rfl | (simp; done) | omega) ?_)
 intro w3 hS4; dsimp only [List.set] at hS4
 clear hS2
 refine wl_assign rfl rfl (wl_assign rfl rfl (wl_nil (qs_seq ?_)))
 refine wc_sub (L' := [(12, _), (9, _), (8, _), (0, _), (1, _), (2, _), (3, _)]) (.cons rfl (.cons rfl (.cons rfl (.cons rfl (.cons rfl (.cons rfl (.cons rfl .nil))))))) ?_
 refine wc_seq (wc_seq (wc_region (wl_move rfl rfl ?_)))
 refine wl_neq rfl rfl rfl ?_
 refine wl_nil (qs_seq ?_)
 refine wc_condD rfl (fun h5 => ?_) (fun h5 => ?_)
 ·refine wc_seq (wc_region (wl_move rfl rfl (wl_assign rfl rfl (wl_nil (qs_seq (wc_ret (qs_then_ret ?_)))))))
  refine fin1 (.inr rfl) rfl rfl ?_
  have hE : mkdE W dir name id = (lookV W dir name).e := by unfold mkdE; rw [if_pos (by assumption)]
  have hWW : mkdW W dir name id = W := by unfold mkdW; rw [if_neg (by rw [hE]; first | decide | assumption)]
  exact ⟨_, rfl, by rw [hE], by rw [hWW]; exact hS4.pick [1, 2] rfl⟩
 refine wc_skip (qs_seq (wc_seq (wc_seq (wc_region (wl_move rfl rfl ?_)))))
 refine wl_neqS rfl rfl rfl ?_
 refine wl_nil (qs_seq ?_)
 refine wc_sub (L' := [(28, _), (8, _), (0, _), (1, _), (2, _), (3, _)]) (.cons rfl (.cons rfl (.cons rfl (.cons rfl (.cons rfl (.cons rfl .nil)))))) ?_
 refine wc_condD rfl (fun h6 => ?_) (fun h6 => ?_)
 ·refine wc_seq (wc_region (wl_assign rfl rfl (wl_nil (qs_seq (wc_ret (qs_then_ret ?_))))))
  refine fin1 (.inr rfl) rfl rfl ?_
  have hE : mkdE W dir name id = 5 := by unfold mkdE; rw [if_neg (by assumption), if_pos (by assumption)]
  have hWW : mkdW W dir name id = W := by unfold mkdW; rw [if_neg (by rw [hE]; first | decide | assumption)]
  exact ⟨_, rfl, by rw [hE], by rw [hWW]; exact hS4.pick [1, 2] rfl⟩
 refine wc_skip (qs_seq (wc_seq (wc_seq (wc_region (wl_move rfl rfl ?_)))))
 refine wl_eqlS rfl rfl rfl ?_
 refine wl_move rfl rfl ?_
 refine wl_splitD 31 rfl (fun h7 => ?_) (fun h7 => ?_)
 ·have hc2 : id = [] ∨ (47 : UInt8) ∈ id := .inl h7
  refine wl_unwanted rfl rfl (decide_eq_true h7) rfl ?_
  refine wl_unwanted rfl rfl (decide_eq_true h7) rfl ?_
  refine wl_pickT rfl (decide_eq_true h7) rfl rfl ?_
  refine wl_nil (qs_seq ?_)
  refine wc_sub (L' := [(34, _), (8, _), (0, _), (1, _), (2, _), (3, _)]) (.cons rfl (.cons rfl (.cons rfl (.cons rfl (.cons rfl (.cons rfl .nil)))))) ?_
  refine wc_condT rfl ?_
  refine wc_seq (wc_region (wl_assign rfl rfl (wl_nil (qs_seq (wc_ret (qs_then_ret ?_))))))
  refine fin1 (.inr rfl) rfl rfl ?_
  have hE : mkdE W dir name id = 1 := by unfold mkdE; rw [if_neg (by assumption), if_neg (by assumption), if_pos hc2]
  have hWW : mkdW W dir name id = W := by unfold mkdW; rw [if_neg (by rw [hE]; first | decide | assumption)]
  exact ⟨_, rfl, by rw [hE], by rw [hWW]; exact hS4.pick [1, 2] rfl⟩
 refine wl_guard rfl rfl (decide_eq_false h7) ?_
 refine wl_move rfl rfl ?_
 refine wl_guard rfl rfl (decide_eq_false h7) ?_
 have hC8 := hS4.split [] [false, false, false] rfl; dsimp only [selF, pickA, nthA, List.cons_append, List.nil_append] at hC8
 refine wl_call cal_53 rfl (contains_sp hC8 id 47) rfl ?_
 rintro e w8 ⟨_, rfl, rfl, hS8⟩; refine ⟨_, rfl, ?_⟩
 replace hS8 := hS8.join rfl; dsimp only [List.dropLast, List.cons_append, List.nil_append] at hS8; clear hC8
 clear hS4
 refine wl_pickF rfl (decide_eq_false h7) rfl rfl ?_
 refine wl_nil (qs_seq ?_)
 refine wc_sub (L' := [(34, _), (8, _), (0, _), (1, _), (2, _), (3, _)]) (.cons rfl (.cons rfl (.cons rfl (.cons rfl (.cons rfl (.cons rfl .nil)))))) ?_
 refine wc_cond rfl (fun h9 => ?_) (fun h9 => ?_)
 ·have hc2 : id = [] ∨ (47 : UInt8) ∈ id := by first | exact .inl (by assumption) | exact .inr (by simpa using h9)
  refine wc_seq (wc_region (wl_assign rfl rfl (wl_nil (qs_seq (wc_ret (qs_then_ret ?_))))))
  refine fin1 (.inr rfl) rfl rfl ?_
  have hE : mkdE W dir name id = 1 := by unfold mkdE; rw [if_neg (by assumption), if_neg (by assumption), if_pos hc2]
  have hWW : mkdW W dir name id = W := by unfold mkdW; rw [if_neg (by rw [hE]; first | decide | assumption)]
  exact ⟨_, rfl, by rw [hE], by rw [hWW]; exact hS8.pick [1, 2] rfl⟩
 have hc2 : ¬ (id = [] ∨ (47 : UInt8) ∈ id) := by rintro (q | q); (exact absurd q (by assumption)); exact absurd q (by simpa using h9)
 refine wc_skip (qs_seq (wc_seq (wc_seq (wc_region (wl_move rfl rfl (wl_move rfl rfl ?_))))))
 have hC10 := hS8.split [1] [false, true, false] rfl; dsimp only [selF, pickA, nthA, List.cons_append, List.nil_append] at hC10
 refine wl_call cal_30 rfl (inode_sp hC10 (hG.starL 1 rfl) id (by omega) (hP.tb _)) rfl ?_
 rintro e w10 ⟨_, rfl, rfl, hS10⟩; refine ⟨_, rfl, ?_⟩
 replace hS10 := hS10.join rfl; dsimp only [List.dropLast, List.cons_append, List.nil_append] at hS10; clear hC10
 clear hS8
 refine wl_move rfl rfl (wl_extract rfl rfl rfl (wl_extract rfl rfl rfl ?_))
 refine wl_alloc hS10 zr_35 rfl rfl ?_
 intro b11 w11 hS11
 clear hS10
 first | (refine wl_storeA hS11 rfl rfl sz_35 rfl (by first | rfl | (simp [allOne, Value.oneCell']; done) | assumption | exact hone) (i := 0) rfl (by first | decide | exact Nat.le_of_ble_eq_true rfl | (simp; done) | omega) ?_) | (refine wl_storeA hS11 rfl rfl sz_35 rfl (by first | rfl | (simp [allOne, Value.oneCell']; done) | assumption | exact hone) (i := 2) rfl (by first | decide | exact Nat.le_of_ble_eq_true rfl | (simp; done) | omega) ?_)
 intro w12 hS13; dsimp only [List.set] at hS13
 clear hS11
 refine wl_assign rfl rfl (wl_nil (qs_seq ?_))
 refine wc_sub (L' := [(14, _), (8, _), (0, _), (1, _), (2, _), (3, _)]) (.cons rfl (.cons rfl (.cons rfl (.cons rfl (.cons rfl (.cons rfl .nil)))))) ?_
 refine wc_seq (wc_region (wl_move rfl rfl (wl_nil (qs_seq ?_))))
 refine wc_cond rfl (fun h14 => ?_) (fun h14 => ?_)
 ·have hb3 : bI W id = true := h14
  refine wc_seq (wc_region (wl_assign rfl rfl (wl_nil (qs_seq (wc_ret (qs_then_ret ?_))))))
  refine fin1 (.inr rfl) rfl rfl ?_
  have hE : mkdE W dir name id = 5 := by unfold mkdE; rw [if_neg (by assumption), if_neg (by assumption), if_neg hc2, if_pos hb3]
  have hWW : mkdW W dir name id = W := by unfold mkdW; rw [if_neg (by rw [hE]; first | decide | assumption)]
  exact ⟨_, rfl, by rw [hE], by rw [hWW]; exact hS13.pick [1, 3] rfl⟩
 have hb3 : bI W id = false := by simpa using h14
 refine wc_skip (qs_seq (wc_seq (wc_seq (wc_region (wl_move rfl rfl (wl_move rfl rfl ?_))))))
 have hC15 := hS13.split [1] [false, true, false, false] rfl; dsimp only [selF, pickA, nthA, List.cons_append, List.nil_append] at hC15
 refine wl_call cal_36 rfl (depth_sp hC15 hP dir (by omega)) rfl ?_
 rintro e w15 ⟨_, rfl, rfl, hS15⟩; refine ⟨_, rfl, ?_⟩
 replace hS15 := hS15.join rfl; dsimp only [List.dropLast, List.cons_append, List.nil_append] at hS15; clear hC15
 clear hS13
 refine wl_geq rfl rfl rfl ?_
 refine wl_move rfl rfl ?_
 refine wl_splitD 46 rfl (fun h16 => ?_) (fun h16 => ?_)
 ·have hc4 : 8 ≤ depF W 100 dir ∨ 64 ≤ cntK W [105, 47] := .inl (by omega)
  refine wl_unwanted rfl rfl (decide_eq_true h16) rfl ?_
  refine wl_unwanted rfl rfl (decide_eq_true h16) rfl ?_
  refine wl_unwanted rfl rfl (decide_eq_true h16) rfl ?_
  refine wl_pickT rfl (decide_eq_true h16) rfl rfl ?_
  refine wl_nil (qs_seq ?_)
  refine wc_sub (L' := [(50, _), (8, _), (0, _), (1, _), (2, _), (3, _)]) (.cons rfl (.cons rfl (.cons rfl (.cons rfl (.cons rfl (.cons rfl .nil)))))) ?_
  refine wc_condT rfl ?_
  refine wc_seq (wc_region (wl_assign rfl rfl (wl_nil (qs_seq (wc_ret (qs_then_ret ?_))))))
  refine fin1 (.inr rfl) rfl rfl ?_
  have hE : mkdE W dir name id = 6 := by unfold mkdE; rw [if_neg (by assumption), if_neg (by assumption), if_neg hc2, if_neg (by simp [hb3]), if_pos hc4]
  have hWW : mkdW W dir name id = W := by unfold mkdW; rw [if_neg (by rw [hE]; first | decide | assumption)]
  exact ⟨_, rfl, by rw [hE], by rw [hWW]; exact hS15.pick [0, 3] rfl⟩
 refine wl_guard rfl rfl (decide_eq_false h16) ?_
 refine wl_move rfl rfl ?_
 refine wl_guard rfl rfl (decide_eq_false h16) ?_
 have hC17 := hS15.split [0] [true, false, false, false] rfl; dsimp only [selF, pickA, nthA, List.cons_append, List.nil_append] at hC17
 refine wl_call cal_34 rfl (inodes_sp hC17 hP hm) rfl ?_
 rintro e w17 ⟨_, rfl, rfl, hS17⟩; refine ⟨_, rfl, ?_⟩
 replace hS17 := hS17.join rfl; dsimp only [List.dropLast, List.cons_append, List.nil_append] at hS17; clear hC17
 clear hS15
 refine wl_guard rfl rfl (decide_eq_false h16) ?_
 refine wl_geq rfl rfl rfl ?_
 refine wl_pickF rfl (decide_eq_false h16) rfl rfl ?_
 refine wl_nil (qs_seq ?_)
 refine wc_sub (L' := [(50, _), (8, _), (0, _), (1, _), (2, _), (3, _)]) (.cons rfl (.cons rfl (.cons rfl (.cons rfl (.cons rfl (.cons rfl .nil)))))) ?_
 refine wc_condD rfl (fun h18 => ?_) (fun h18 => ?_)
 ·have hc4 : 8 ≤ depF W 100 dir ∨ 64 ≤ cntK W [105, 47] := by omega
  refine wc_seq (wc_region (wl_assign rfl rfl (wl_nil (qs_seq (wc_ret (qs_then_ret ?_))))))
  refine fin1 (.inr rfl) rfl rfl ?_
  have hE : mkdE W dir name id = 6 := by unfold mkdE; rw [if_neg (by assumption), if_neg (by assumption), if_neg hc2, if_neg (by simp [hb3]), if_pos hc4]
  have hWW : mkdW W dir name id = W := by unfold mkdW; rw [if_neg (by rw [hE]; first | decide | assumption)]
  exact ⟨_, rfl, by rw [hE], by rw [hWW]; exact hS17.pick [0, 3] rfl⟩
 have hc4 : ¬ (8 ≤ depF W 100 dir ∨ 64 ≤ cntK W [105, 47]) := by omega
 refine wc_skip (qs_seq (wc_seq (wc_region (wl_move rfl rfl (wl_move rfl rfl ?_)))))
 refine wl_buildX (vs' := [intV mkdI.k, intV mkdI.sz, intV mkdI.ln]) rfl pl_35_0_2 asz_35 zr_35 rfl rfl rfl ?_
 have hC19 := hS17.split [0] [true, false, false, false] rfl; dsimp only [selF, pickA, nthA, List.cons_append, List.nil_append] at hC19
 refine wl_call cal_43 rfl (setI_sp hC19 (hG.starL 2 rfl) id (by omega) mkdI_in) rfl ?_
 rintro e w19 ⟨_, rfl, rfl, hS19⟩; refine ⟨_, rfl, ?_⟩
 replace hS19 := hS19.join rfl; dsimp only [List.dropLast, List.cons_append, List.nil_append] at hS19; clear hC19
 clear hS17
 refine wl_nil (qs_seq (wc_seq (wc_region (wl_move rfl rfl (wl_move rfl rfl ?_)))))
 refine wl_concat rfl rfl (by first | omega | (simp; omega)) rfl ?_
 refine wl_move rfl rfl ?_
 have hC20 := hS19.split [0] [true, false, false, false] rfl; dsimp only [selF, pickA, nthA, List.cons_append, List.nil_append] at hC20
 refine wl_invoke (vs := [strV (kU id), strV dir]) rfl (imeth_Put p) cal_23 rfl (put_sp hC20 (kU id) dir (by simp only [kI, kU, kE, List.length_append, List.length_cons, List.length_nil]; omega) (by omega)) rfl ?_
 rintro e w20 ⟨_, rfl, rfl, hS20⟩; refine ⟨_, rfl, ?_⟩
 replace hS20 := hS20.join rfl; dsimp only [List.dropLast, List.cons_append, List.nil_append] at hS20; clear hC20
 clear hS19
 refine wl_nil (qs_seq ?_)
 refine wc_sub (L' := [(8, _), (0, _), (1, _), (2, _), (3, _)]) (.cons rfl (.cons rfl (.cons rfl (.cons rfl (.cons rfl .nil))))) ?_
 refine wc_seq ?_
 have hS21 := hS20.drew
 refine wc_draw [0, 1, 2, 4, 5, 6, 7, 3, 8] [3, 8] mix (by kernel_rfl) ?_
 refine vc_p rfl rfl rfl (fun _ => (ev_move rfl)) ?_
 refine vc_p rfl rfl rfl (fun _ => (ev_move rfl)) ?_
 refine vc_p rfl rfl rfl (fun _ => (ev_move rfl)) ?_
 refine vc_p rfl rfl rfl (fun _ => (ev_move rfl)) ?_
 refine vc_p rfl rfl rfl (fun _ => (ev_makeMeth rfl)) ?_
 refine vc_p rfl rfl rfl (fun _ => (ev_nilCheckMeth rfl (mnil_Put p))) ?_
 refine vc_p rfl rfl rfl (fun _ => (ev_move rfl)) ?_
 refine vc_s rfl rfl rfl rfl rfl rfl ?_
 have hC22 := hS21.split [] [false, false, false, false] rfl; dsimp only [selF, pickA, nthA, List.cons_append, List.nil_append] at hC22
 refine wl_call cal_70 rfl (entry_sp hC22 dir name (by omega) (by omega)) rfl ?_
 rintro e w22 ⟨_, rfl, rfl, hS22⟩; refine ⟨_, rfl, ?_⟩
 replace hS22 := hS22.join rfl; dsimp only [List.dropLast, List.cons_append, List.nil_append] at hS22; clear hC22
 clear hS21
 refine vc_e .nil ?_
 refine vc_s rfl rfl rfl rfl rfl rfl ?_
 have hC23 := hS22.split [0] [true, false, false, false] rfl; dsimp only [selF, pickA, nthA, List.cons_append, List.nil_append] at hC23
 refine wl_invoke (vs := [strV (kE dir name), strV id]) rfl (imeth_Put p) cal_23 rfl (put_sp hC23 (kE dir name) id (by simp only [kI, kU, kE, List.length_append, List.length_cons, List.length_nil]; omega) (by omega)) rfl ?_
 rintro e w23 ⟨_, rfl, rfl, hS23⟩; refine ⟨_, rfl, ?_⟩
 replace hS23 := hS23.join rfl; dsimp only [List.dropLast, List.cons_append, List.nil_append] at hS23; clear hC23
 clear hS22
 refine vc_e .nil ?_
 refine VC.nil (qs_seq ?_)
 refine wc_sub (L' := [(8, _)]) (.cons rfl .nil) ?_
 refine wc_seq (wc_region (wl_assign rfl rfl (wl_nil (qs_seq (wc_ret ?_)))))
 refine fin1 (.inr rfl) rfl rfl ?_
 have hE : mkdE W dir name id = 0 := by unfold mkdE; rw [if_neg (by assumption), if_neg (by assumption), if_neg hc2, if_neg (by simp [hb3]), if_neg hc4]
 have hWW : mkdW W dir name id = putS (putS (setI W id mkdI) (kU id) dir) (kE dir name) id := by unfold mkdW; rw [if_pos hE]
 exact ⟨_, rfl, by rw [hE], by rw [hWW]; exact hS23.pick [0, 3] rfl⟩
set_option maxRecDepth 100000 in
theorem empty_sp {w : World} {p : Nat} {W : WS} {m : Nat} {F : Th} (hS : Sat w [worldT p W, F]) (hP : PI W m) (hm : m ≤ 900) (id : Bs) (hid : id.length ≤ 900) (n : InD) :
    Calls Tryz.prog 88 #[.iface 25 (ptrV p 0), strV id, .agg #[intV n.k, intV n.sz, intV n.ln]] w (Ret fun v w' => v = intV (empE W id n) ∧ Sat w' [worldT p W, F]) := by
 refine calls_enter Tryz.func88 rfl Tryz.ntmps88 rfl ?_
 refine wc_seq (wc_region ?_)
 refine wl_box hS rfl rfl rfl ?_
 intro b1 w1 hS1
 refine wl_assign rfl rfl (wl_nil (qs_seq (wc_seq (wc_block (wc_seq (wc_region ?_))))))
 refine wl_fieldAddr rfl fo_35_0 rfl ?_
 refine wl_load rfl ag_3 (by first | assumption | exact hS1.cell 0 rfl rfl) rfl ?_
 refine wl_neq rfl rfl rfl ?_
 refine wl_assign rfl rfl (wl_nil (qs_seq ?_))
 refine wc_condD rfl (fun h2 => ?_) (fun h2 => ?_)
 ·refine wc_seq (wc_region (wl_assign rfl rfl (wl_nil (qs_seq (wc_ret (qs_block_ret (qs_then_ret ?_)))))))
  refine fin1 (.inr rfl) rfl rfl ?_
  exact ⟨_, rfl, by unfold empE; rw [if_pos (by assumption)], hS1.pick [1, 2] rfl⟩
 refine wc_seq ?_
 have hS3 := hS1.drew
 refine wc_draw [0, 1, 3, 4, 5, 2, 6, 7, 8, 9] [2, 6] mix (by kernel_rfl) ?_
 refine vc_p rfl rfl rfl (fun _ => (ev_move rfl)) ?_
 refine vc_p rfl rfl rfl (fun _ => (ev_move rfl)) ?_
 refine vc_p rfl rfl rfl (fun _ => (ev_makeMeth rfl)) ?_
 refine vc_p rfl rfl rfl (fun _ => (ev_nilCheckMeth rfl (mnil_Keys p))) ?_
 refine vc_p rfl rfl rfl (fun _ => (ev_move rfl)) ?_
 refine vc_s rfl rfl rfl rfl rfl rfl ?_
 have hC4 := hS3.split [] [false, false, false] rfl; dsimp only [selF, pickA, nthA, List.cons_append, List.nil_append] at hC4
 refine wl_call cal_70 rfl (entry_sp hC4 id [] (by omega) (by simp)) rfl ?_
 rintro e w4 ⟨_, rfl, rfl, hS4⟩; refine ⟨_, rfl, ?_⟩
 replace hS4 := hS4.join rfl; dsimp only [List.dropLast, List.cons_append, List.nil_append] at hS4; clear hC4
 clear hS3
 refine vc_e .nil ?_
 refine vc_s rfl rfl rfl rfl rfl rfl ?_
 have hC5 := hS4.split [1] [false, true, false] rfl; dsimp only [selF, pickA, nthA, List.cons_append, List.nil_append] at hC5
 refine wl_invoke (vs := [strV (kE id [])]) rfl (imeth_Keys p) cal_17 rfl (keys_sp hC5 (kE id []) (hP.kin (by omega))) rfl ?_
 rintro e w5 ⟨_, rfl, lk, hlk, hS5⟩; refine ⟨_, rfl, ?_⟩
 replace hS5 := hS5.join rfl; dsimp only [List.dropLast, List.cons_append, List.nil_append] at hS5; clear hC5
 clear hS4
 have hkn := cntK_eq (CntOf.keys hlk)
 obtain ⟨ka, kc, hkv, _⟩ := hS5.own_shape 0 rfl
 obtain rfl := hkv
 refine vc_e .nil ?_
 refine vc_p rfl rfl rfl (fun _ => (ev_lenL Tryz.underlying40 rfl)) ?_
 refine vc_p rfl rfl rfl (fun _ => (ev_gtr rfl rfl)) ?_
 refine vc_p rfl rfl rfl (fun _ => (ev_assign rfl)) ?_
 refine VC.nil (qs_seq ?_)
 refine wc_sub (L' := [(11, _), (6, _)]) (.cons rfl (.cons rfl .nil)) ?_
 refine wc_condD rfl (fun h6 => ?_) (fun h6 => ?_)
 ·refine wc_seq (wc_region (wl_assign rfl rfl (wl_nil (qs_seq (wc_ret (qs_block_ret (qs_then_ret ?_)))))))
  refine fin1 (.inr rfl) rfl rfl ?_
  exact ⟨_, rfl, by unfold empE; rw [if_neg (by assumption), if_pos (by omega)], hS5.pick [1, 3] rfl⟩
 refine wc_skip (qs_block_normal (qs_seq (wc_seq (wc_region (wl_assign rfl rfl (wl_nil (qs_seq (wc_ret ?_))))))))
 refine fin1 (.inr rfl) rfl rfl ?_
 exact ⟨_, rfl, by unfold empE; rw [if_neg (by assumption), if_neg (by omega)], hS5.pick [1, 3] rfl⟩
set_option maxRecDepth 100000 in
theorem rmdir_sp {w : World} {p : Nat} {W : WS} {m : Nat} {F : Th} (hS : Sat w [worldT p W, F]) (hG : Ent F WireG) (hP : PI W m) (hm : m ≤ 900) (dir name : Bs) (hd : dir.length ≤ 900) (hn : name.length ≤ 900) :
    Calls Tryz.prog 45 #[.iface 25 (ptrV p 0), strV dir, strV name] w (Ret fun v w' => v = intV (rmdE W dir name) ∧ Sat w' [worldT p (rmdW W dir name), F]) := by
 refine calls_enter Tryz.func45 rfl Tryz.ntmps45 rfl ?_
 refine wc_seq (wc_region (wl_assign rfl rfl (wl_nil (qs_seq (wc_seq (wc_region (wl_move rfl rfl (wl_move rfl rfl (wl_move rfl rfl ?_)))))))))
 have hC1 := hS.split [0] [true, false] rfl; dsimp only [selF, pickA, nthA, List.cons_append, List.nil_append] at hC1
 refine wl_call cal_82 rfl (look_sp hC1 (hG.starL 0 rfl) hP hm dir name (by omega) (by omega)) rfl ?_
 rintro e w1 ⟨_, rfl, rfl, hS1⟩; refine ⟨_, rfl, ?_⟩
 replace hS1 := hS1.join rfl; dsimp only [List.dropLast, List.cons_append, List.nil_append] at hS1; clear hC1
 refine wl_move rfl rfl (wl_extract rfl rfl rfl (wl_extract rfl rfl rfl (wl_extract rfl rfl rfl (wl_extract rfl rfl rfl ?_))))
 refine wl_alloc hS1 zr_35 rfl rfl ?_
 intro b2 w2 hS2
 clear hS1
 refine wl_assign rfl rfl ?_
 first | (refine wl_storeA hS2 rfl rfl sz_35 rfl (by first | rfl | (simp [allOne, Value.oneCell']; done) | assumption | exact hone) (i := 0) rfl (by first | decide | exact Nat.le_of_ble_eq_true rfl | (simp; done) | omega) ?_)
 intro w3 hS4; dsimp only [List.set] at hS4
 clear hS2
 refine wl_assign rfl rfl (wl_assign rfl rfl (wl_nil (qs_seq ?_)))
 refine wc_sub (L' := [(10, _), (9, _), (7, _), (8, _), (6, _), (0, _), (1, _), (2, _)]) (.cons rfl (.cons rfl (.cons rfl (.cons rfl (.cons rfl (.cons rfl (.cons rfl (.cons rfl .nil)))))))) ?_
 refine wc_seq (wc_block (wc_seq (wc_region (wl_move rfl rfl ?_))))
 refine wl_neq rfl rfl rfl ?_
 refine wl_assign rfl rfl (wl_nil (qs_seq ?_))
 refine wc_condD rfl (fun h5 => ?_) (fun h5 => ?_)
 ·refine wc_seq (wc_region (wl_move rfl rfl (wl_assign rfl rfl (wl_nil (qs_seq ?_)))))
  refine wc_sub (L' := [(6, _), (7, _), (8, _), (0, _), (1, _), (2, _)]) (.cons rfl (.cons rfl (.cons rfl (.cons rfl (.cons rfl (.cons rfl .nil)))))) ?_
  refine wc_ret (qs_block_ret (qs_then_ret ?_))
  refine fin1 (.inr rfl) rfl rfl ?_
  have hE : rmdE W dir name = (lookV W dir name).e := by unfold rmdE; rw [if_pos (by assumption)]
  have hWW : rmdW W dir name = W := by unfold rmdW; rw [if_neg (by rw [hE]; first | decide | assumption)]
  exact ⟨_, rfl, by rw [hE], by rw [hWW]; exact hS4.pick [1, 2] rfl⟩
 refine wc_seq (wc_region (wl_move rfl rfl ?_))
 refine wl_not rfl rfl ?_
 refine wl_assign rfl rfl (wl_nil (qs_seq ?_))
 refine wc_sub (L' := [(25, _), (7, _), (8, _), (6, _), (0, _), (1, _), (2, _)]) (.cons rfl (.cons rfl (.cons rfl (.cons rfl (.cons rfl (.cons rfl (.cons rfl .nil))))))) ?_
 refine wc_cond rfl (fun h6 => ?_) (fun h6 => ?_)
 ·have hb1 : (lookV W dir name).ok = false := by simpa using h6
  refine wc_seq (wc_region (wl_assign rfl rfl (wl_nil (qs_seq (wc_ret (qs_block_ret (qs_then_ret ?_)))))))
  refine fin1 (.inr rfl) rfl rfl ?_
  have hE : rmdE W dir name = 4 := by unfold rmdE; rw [if_neg (by assumption), if_pos hb1]
  have hWW : rmdW W dir name = W := by unfold rmdW; rw [if_neg (by rw [hE]; first | decide | assumption)]
  exact ⟨_, rfl, by rw [hE], by rw [hWW]; exact hS4.pick [1, 2] rfl⟩
 have hb1 : (lookV W dir name).ok = true := by simpa using h6
 refine wc_skip (qs_block_normal (qs_seq (wc_seq (wc_seq (wc_region (wl_move rfl rfl (wl_move rfl rfl ?_)))))))
 refine wl_loadA rfl ag_35 sz_35 (by first | exact hS4.blk 0 rfl) (by first | decide | exact Nat.le_of_ble_eq_true rfl | (simp; done) | omega) rfl rfl ?_
 have hC7 := hS4.split [1] [false, true, false] rfl; dsimp only [selF, pickA, nthA, List.cons_append, List.nil_append] at hC7
 refine wl_call cal_88 rfl (empty_sp hC7 hP hm (lookV W dir name).id (by have := lookV_len hP dir name; omega) (lookV W dir name).n) rfl ?_
 rintro e w7 ⟨_, rfl, rfl, hS7⟩; refine ⟨_, rfl, ?_⟩
 replace hS7 := hS7.join rfl; dsimp only [List.dropLast, List.cons_append, List.nil_append] at hS7; clear hC7
 clear hS4
 refine wl_assign rfl rfl (wl_nil (qs_seq ?_))
 refine wc_sub (L' := [(11, _), (7, _), (6, _), (0, _), (1, _), (2, _)]) (.cons rfl (.cons rfl (.cons rfl (.cons rfl (.cons rfl (.cons rfl .nil)))))) ?_
 refine wc_seq (wc_region (wl_move rfl rfl ?_))
 refine wl_neq rfl rfl rfl ?_
 refine wl_nil (qs_seq ?_)
 refine wc_condD rfl (fun h8 => ?_) (fun h8 => ?_)
 ·refine wc_seq (wc_region (wl_move rfl rfl (wl_assign rfl rfl (wl_nil (qs_seq (wc_ret (qs_then_ret ?_)))))))
  refine fin1 (.inr rfl) rfl rfl ?_
  have hE : rmdE W dir name = empE W (lookV W dir name).id (lookV W dir name).n := by unfold rmdE; rw [if_neg (by assumption), if_neg (by simp [hb1])]
  have hWW : rmdW W dir name = W := by unfold rmdW; rw [if_neg (by rw [hE]; first | decide | assumption)]
  exact ⟨_, rfl, by rw [hE], by rw [hWW]; exact hS7.pick [0, 2] rfl⟩
 refine wc_skip (qs_seq (wc_seq ?_))
 have hS9 := hS7.drew
 refine wc_draw [0, 1, 2, 4, 5, 6, 3, 7] [3, 7] mix (by kernel_rfl) ?_
 refine vc_p rfl rfl rfl (fun _ => (ev_move rfl)) ?_
 refine vc_p rfl rfl rfl (fun _ => (ev_move rfl)) ?_
 refine vc_p rfl rfl rfl (fun _ => (ev_move rfl)) ?_
 refine vc_p rfl rfl rfl (fun _ => (ev_makeMeth rfl)) ?_
 refine vc_p rfl rfl rfl (fun _ => (ev_nilCheckMeth rfl (mnil_Put p))) ?_
 refine vc_p rfl rfl rfl (fun _ => (ev_move rfl)) ?_
 refine vc_s rfl rfl rfl rfl rfl rfl ?_
 have hC10 := hS9.split [] [false, false, false] rfl; dsimp only [selF, pickA, nthA, List.cons_append, List.nil_append] at hC10
 refine wl_call cal_70 rfl (entry_sp hC10 dir name (by omega) (by omega)) rfl ?_
 rintro e w10 ⟨_, rfl, rfl, hS10⟩; refine ⟨_, rfl, ?_⟩
 replace hS10 := hS10.join rfl; dsimp only [List.dropLast, List.cons_append, List.nil_append] at hS10; clear hC10
 clear hS9
 refine vc_e .nil ?_
 refine vc_s rfl rfl rfl rfl rfl rfl ?_
 have hC11 := hS10.split [0] [true, false, false] rfl; dsimp only [selF, pickA, nthA, List.cons_append, List.nil_append] at hC11
 refine wl_invoke (vs := [strV (kE dir name), strV []]) rfl (imeth_Put p) cal_23 rfl (put_sp hC11 (kE dir name) [] (by simp only [kI, kU, kE, List.length_append, List.length_cons, List.length_nil]; omega) (by simp)) rfl ?_
 rintro e w11 ⟨_, rfl, rfl, hS11⟩; refine ⟨_, rfl, ?_⟩
 replace hS11 := hS11.join rfl; dsimp only [List.dropLast, List.cons_append, List.nil_append] at hS11; clear hC11
 clear hS10
 refine vc_e .nil ?_
 refine VC.nil (qs_seq ?_)
 refine wc_sub (L' := [(7, _), (6, _), (0, _)]) (.cons rfl (.cons rfl (.cons rfl .nil))) ?_
 refine wc_seq (wc_region (wl_move rfl rfl (wl_move rfl rfl ?_)))
 have hC12 := hS11.split [0] [true, false, false] rfl; dsimp only [selF, pickA, nthA, List.cons_append, List.nil_append] at hC12
 refine wl_call cal_56 rfl (noI_sp hC12 (lookV W dir name).id (by have := lookV_len hP dir name; omega)) rfl ?_
 rintro e w12 ⟨_, rfl, rfl, hS12⟩; refine ⟨_, rfl, ?_⟩
 replace hS12 := hS12.join rfl; dsimp only [List.dropLast, List.cons_append, List.nil_append] at hS12; clear hC12
 clear hS11
 refine wl_nil (qs_seq (wc_seq (wc_region (wl_assign rfl rfl (wl_nil (qs_seq (wc_ret ?_)))))))
 refine fin1 (.inr rfl) rfl rfl ?_
 have hE : rmdE W dir name = 0 := by unfold rmdE; rw [if_neg (by assumption), if_neg (by simp [hb1])]; exact Decidable.not_not.1 (by assumption)
 have hWW : rmdW W dir name = noI (putS W (kE dir name) []) (lookV W dir name).id := by unfold rmdW; rw [if_pos hE]
 exact ⟨_, rfl, by rw [hE], by rw [hWW]; exact hS12.pick [0, 2] rfl⟩
set_option maxRecDepth 100000 in
theorem replace_sp {w : World} {p : Nat} {W : WS} {m : Nat} {F : Th} (hS : Sat w [worldT p W, F]) (hG : Ent F WireG) (hP : PI W m) (hm : m ≤ 900) (n : InD) (old : Bs) (ho : old.length ≤ 900) (o : InD) (hoI : InB o) (there : Bool) :
    Calls Tryz.prog 83 #[.iface 25 (ptrV p 0), .agg #[intV n.k, intV n.sz, intV n.ln], strV old, .agg #[intV o.k, intV o.sz, intV o.ln], .bool there] w (Ret fun v w' => v = .tuple #[strV (repS n old o there), intV (repE W n old o there)] ∧ Sat w' [worldT p (repW W n old o there), F]) := by
 refine calls_enter Tryz.func83 rfl Tryz.ntmps83 rfl ?_
 refine wc_seq (wc_region ?_)
 refine wl_box hS rfl rfl rfl ?_
 intro b1 w1 hS1
 refine wl_box hS1 rfl rfl rfl ?_
 intro b2 w2 hS2
 clear hS1
 refine wl_assign rfl rfl (wl_assign rfl rfl (wl_nil (qs_seq (wc_seq (wc_block (wc_seq (wc_region (wl_move rfl rfl ?_))))))))
 refine wl_not rfl rfl ?_
 refine wl_assign rfl rfl (wl_nil (qs_seq ?_))
 refine wc_sub (L' := [(13, _), (11, _), (10, _), (8, _), (6, _), (0, _), (2, _)]) (.cons rfl (.cons rfl (.cons rfl (.cons rfl (.cons rfl (.cons rfl (.cons rfl .nil))))))) ?_
 refine wc_cond rfl (fun h3 => ?_) (fun h3 => ?_)
 ·have hb0 : there = false := by simpa using h3
  refine wc_seq (wc_region (wl_assign rfl rfl (wl_assign rfl rfl (wl_nil (qs_seq (wc_ret (qs_block_ret (qs_then_ret ?_))))))))
  refine fin2 (.inr rfl) rfl rfl rfl ?_
  exact ⟨_, rfl, by unfold repE repS; rw [if_pos hb0, if_pos hb0], by unfold repW; rw [if_pos hb0]; exact hS2.pick [2, 3] rfl⟩
 have hb0 : there = true := by simpa using h3
 refine wc_seq (wc_region ?_)
 refine wl_fieldAddr rfl fo_35_0 rfl ?_
 refine wl_load rfl ag_3 (by first | assumption | exact hS2.cell 0 rfl rfl | exact hS2.cell 1 rfl rfl) rfl ?_
 refine wl_eql rfl rfl rfl ?_
 refine wl_assign rfl rfl (wl_nil (qs_seq ?_))
 refine wc_sub (L' := [(16, _), (11, _), (10, _), (8, _), (0, _), (2, _)]) (.cons rfl (.cons rfl (.cons rfl (.cons rfl (.cons rfl (.cons rfl .nil)))))) ?_
 refine wc_condD rfl (fun h4 => ?_) (fun h4 => ?_)
 ·refine wc_seq (wc_region (wl_move rfl rfl (wl_move rfl rfl ?_)))
  refine wl_loadA rfl ag_35 sz_35 (by first | exact hS2.blk 0 rfl | exact hS2.blk 1 rfl) (by first | decide | exact Nat.le_of_ble_eq_true rfl | (simp; done) | omega) rfl rfl ?_
  have hC5 := hS2.split [2] [false, false, true, false] rfl; dsimp only [selF, pickA, nthA, List.cons_append, List.nil_append] at hC5
  refine wl_call cal_88 rfl (empty_sp hC5 hP hm old (by omega) o) rfl ?_
  rintro e w5 ⟨_, rfl, rfl, hS5⟩; refine ⟨_, rfl, ?_⟩
  replace hS5 := hS5.join rfl; dsimp only [List.dropLast, List.cons_append, List.nil_append] at hS5; clear hC5
  clear hS2
  refine wl_assign rfl rfl (wl_nil (qs_seq ?_))
  refine wc_sub (L' := [(12, _), (11, _), (10, _), (8, _), (0, _), (2, _)]) (.cons rfl (.cons rfl (.cons rfl (.cons rfl (.cons rfl (.cons rfl .nil)))))) ?_
  refine wc_seq (wc_seq (wc_region (wl_move rfl rfl ?_)))
  refine wl_eql rfl rfl rfl ?_
  refine wl_nil (qs_seq ?_)
  refine wc_condD rfl (fun h6 => ?_) (fun h6 => ?_)
  ·refine wc_region (wl_move rfl rfl (wl_move rfl rfl ?_))
   have hC7 := hS5.split [0] [true, false, false, false] rfl; dsimp only [selF, pickA, nthA, List.cons_append, List.nil_append] at hC7
   refine wl_call cal_56 rfl (noI_sp hC7 old (by omega)) rfl ?_
   rintro e w7 ⟨_, rfl, rfl, hS7⟩; refine ⟨_, rfl, ?_⟩
   replace hS7 := hS7.join rfl; dsimp only [List.dropLast, List.cons_append, List.nil_append] at hS7; clear hC7
   clear hS5
   refine wl_nil (qs_seq ?_)
   refine wc_sub (L' := [(12, _), (11, _), (10, _), (8, _), (0, _), (2, _)]) (.cons rfl (.cons rfl (.cons rfl (.cons rfl (.cons rfl (.cons rfl .nil)))))) ?_
   refine wc_seq (wc_region (wl_move rfl rfl (wl_assign rfl rfl (wl_assign rfl rfl (wl_nil (qs_seq (wc_ret (qs_block_ret (qs_then_ret ?_)))))))))
   refine fin2 (.inr rfl) rfl rfl rfl ?_
   exact ⟨_, rfl, by unfold repE repS; rw [if_neg (by simp [hb0]), if_pos (by assumption), if_neg (by simp [hb0]), if_pos (by assumption)], by unfold repW; rw [if_neg (by simp [hb0]), if_pos (by assumption), if_pos (by assumption)]; exact hS7.pick [0, 3] rfl⟩
  refine wc_skip (qs_seq (wc_seq (wc_region (wl_move rfl rfl (wl_assign rfl rfl (wl_assign rfl rfl (wl_nil (qs_seq (wc_ret (qs_block_ret (qs_then_ret ?_)))))))))))
  refine fin2 (.inr rfl) rfl rfl rfl ?_
  exact ⟨_, rfl, by unfold repE repS; rw [if_neg (by simp [hb0]), if_pos (by assumption), if_neg (by simp [hb0]), if_pos (by assumption)], by unfold repW; rw [if_neg (by simp [hb0]), if_pos (by assumption), if_neg (by assumption)]; exact hS5.pick [0, 3] rfl⟩
 refine wc_seq (wc_region ?_)
 refine wl_fieldAddr rfl fo_35_0 rfl ?_
 refine wl_load rfl ag_3 (by first | assumption | exact hS2.cell 0 rfl rfl | exact hS2.cell 1 rfl rfl) rfl ?_
 refine wl_eql rfl rfl rfl ?_
 refine wl_assign rfl rfl (wl_nil (qs_seq ?_))
 refine wc_condD rfl (fun h8 => ?_) (fun h8 => ?_)
 ·refine wc_seq (wc_region (wl_assign rfl rfl (wl_assign rfl rfl (wl_nil (qs_seq (wc_ret (qs_block_ret (qs_then_ret ?_))))))))
  refine fin2 (.inr rfl) rfl rfl rfl ?_
  exact ⟨_, rfl, by unfold repE repS; rw [if_neg (by simp [hb0]), if_neg (by assumption), if_pos (by assumption), if_neg (by simp [hb0]), if_neg (by assumption), if_pos (by assumption)], by unfold repW; rw [if_neg (by simp [hb0]), if_neg (by assumption), if_pos (by assumption)]; exact hS2.pick [2, 3] rfl⟩
 refine wc_skip (qs_block_normal (qs_seq (wc_seq (wc_region (wl_move rfl rfl (wl_move rfl rfl ?_))))))
 refine wl_loadA rfl ag_35 sz_35 (by first | exact hS2.blk 0 rfl | exact hS2.blk 1 rfl) (by first | decide | exact Nat.le_of_ble_eq_true rfl | (simp; done) | omega) rfl rfl ?_
 have hC9 := hS2.split [2] [false, false, true, false] rfl; dsimp only [selF, pickA, nthA, List.cons_append, List.nil_append] at hC9
 refine wl_call cal_87 rfl (links_sp hC9 (hG.starL 2 rfl) old (by omega) hoI (-1)) rfl ?_
 rintro e w9 ⟨_, rfl, rfl, hS9⟩; refine ⟨_, rfl, ?_⟩
 replace hS9 := hS9.join rfl; dsimp only [List.dropLast, List.cons_append, List.nil_append] at hS9; clear hC9
 clear hS2
 refine wl_nil (qs_seq ?_)
 refine wc_sub (L' := [(11, _), (10, _), (2, _)]) (.cons rfl (.cons rfl (.cons rfl .nil))) ?_
 refine wc_seq (wc_region (wl_move rfl rfl (wl_assign rfl rfl (wl_assign rfl rfl (wl_nil (qs_seq (wc_ret ?_)))))))
 refine fin2 (.inr rfl) rfl rfl rfl ?_
 exact ⟨_, rfl, by unfold repE repS; rw [if_neg (by simp [hb0]), if_neg (by assumption), if_neg (by assumption), if_neg (by simp [hb0]), if_neg (by assumption), if_neg (by assumption)], by unfold repW; rw [if_neg (by simp [hb0]), if_neg (by assumption), if_neg (by assumption)]; exact hS9.pick [0, 3] rfl⟩
end Go.Proofs.YtkaikhcpcbjkcaaGreatDoor
