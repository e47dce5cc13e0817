/- procs: Get, Put, Remove -/
import Derived.Test.YtcbdclhoekokpaaGreatDoorPc4
namespace Go.Proofs.YtcbdclhoekokpaaGreatDoor
open Go.RowKit M
set_option linter.unusedVariables false
theorem imeth_Get (p : Nat) : ∀ w : World, (method (Tryz.prog.types.size + Made.depth) 25 (ptrV p 0) "Get").run Tryz.prog w = .ok (33, ptrV p 0) w := by intro w; kernel_rfl
theorem imeth_Put (p : Nat) : ∀ w : World, (method (Tryz.prog.types.size + Made.depth) 25 (ptrV p 0) "Put").run Tryz.prog w = .ok (25, ptrV p 0) w := by intro w; kernel_rfl
theorem imeth_Keys (p : Nat) : ∀ w : World, (method (Tryz.prog.types.size + Made.depth) 25 (ptrV p 0) "Keys").run Tryz.prog w = .ok (31, ptrV p 0) w := by intro w; kernel_rfl
theorem mnil_Put (p : Nat) : ∀ w : World, (nilAhead (Tryz.prog.types.size + Made.depth) 25 (ptrV p 0) "Put").run Tryz.prog w = .ok (some false) w := by intro w; kernel_rfl
/-- every cell is short -/
def TB (W : WS) : Prop := ∀ k, (W.cells k).length ≤ 1000000
theorem TB.empty : TB emptyW := fun k => by simp [emptyW]
theorem TB.put {W : WS} (h : TB W) {k v : Bs} (hv : v.length ≤ 1000000) : TB (putS W k v) := fun j => by
  simp only [putS, updC]; split
  · exact hv
  · exact h j
theorem procV_one {x : ProcD} {av fv : Value} (h1 : av.oneCell' = true) (h2 : fv.oneCell' = true) : allOne (procV x av fv) = true := by
  rw [procV_eq]; exact pF_one h1 h2
theorem procV_len (x : ProcD) (av fv : Value) : (procV x av fv).length = 61 := rfl
theorem keyP_len (pid : Int) : (keyP pid).length ≤ 20 := by
  unfold keyP
  split
  · simp
  · have := itoa_six (n := pid) (by omega)
    simp only [List.length_append, List.length_replicate, List.length_cons, List.length_nil]; omega
noncomputable def getW (W : WS) (pid : Int) : Option ProcD := if keyP pid = [] then none else match decP (W.cells (keyP pid)) with | some x => if hq x 0 = pid then some x else none | none => none
def putW (W : WS) (x : ProcD) : WS := if keyP (hq x 0) = [] then W else putS W (keyP (hq x 0)) (encR x)
def rmW (W : WS) (pid : Int) : WS := if keyP pid = [] then W else putS W (keyP pid) []
theorem optNo {α : Type} {q : Option α} (h : q.isSome = false) : q = none := by cases q <;> simp_all
theorem optYes {α : Type} {q : Option α} (h : q.isSome = true) : ∃ x, q = some x := by cases q <;> simp_all
theorem splice_all (a b : List Value) (h : a.length = b.length) : splice a 0 b = b := by
  unfold splice; simp [h]
set_option maxRecDepth 100000 in
set_option maxHeartbeats 1000000 in
theorem getP_sp {w : World} {p : Nat} {W : WS} {F : Th} (hS : Sat w [worldT p W, F]) (hG : Ent F WireG) (hB : TB W) (pid : Int) :
    Calls Tryz.prog 11 #[.iface 25 (ptrV p 0), intV pid] w (Ret fun v w' => ∃ av fv, v = .tuple #[.agg (procV ((getW W pid).getD zeroP) av fv).toArray, .bool (getW W pid).isSome] ∧ Sat w' [rowT arC av ((getW W pid).getD zeroP).ar, rowT stC fv ((getW W pid).getD zeroP).fds, worldT p W, F]) := by
  refine calls_enter Tryz.func11 rfl Tryz.ntmps11 rfl ?_
  refine wc_seq ?_
  refine wc_region ?_
  refine wl_alloc hS zr_38 rfl rfl ?_
  intro br w1 hS1
  refine wl_assign rfl rfl ?_
  refine wl_nil ?_
  refine qs_seq ?_
  refine wc_seq ?_
  refine wc_region ?_
  refine wl_move rfl rfl ?_
  have hC2 := hS1.split [] [false, false, false] rfl; dsimp only [selF, pickA, nthA, List.cons_append, List.nil_append] at hC2
  refine wl_call cal_24 rfl (key_sp hC2 (hG.starL 2 rfl) pid) rfl ?_
  rintro e w2 ⟨_, rfl, rfl, hS2⟩; refine ⟨_, rfl, ?_⟩
  replace hS2 := hS2.join rfl; dsimp only [List.dropLast, List.cons_append, List.nil_append] at hS2; clear hC2
  clear hS1
  refine wl_assign rfl rfl ?_
  refine wl_nil ?_
  refine qs_seq ?_
  refine wc_seq ?_
  refine wc_seq ?_
  refine wc_region ?_
  refine wl_move rfl rfl ?_
  refine wl_eqlS rfl rfl rfl ?_
  refine wl_nil ?_
  refine qs_seq ?_
  refine wc_condD rfl (fun h3 => ?_) (fun h3 => ?_)
  · skip
    refine wc_seq ?_
    refine wc_region ?_
    refine wl_buildS rfl pl_38_ asz_38 zr_38 rfl rfl ?_
    first | (refine wl_storeA hS2 rfl rfl sz_38 rfl (by first | rfl | (simp [allOne, Value.oneCell']; done) | assumption | exact hone) (i := 0) rfl (by first | decide | exact Nat.le_of_ble_eq_true rfl | (simp; done) | omega) ?_)
    intro w4 hS5; dsimp only [List.set] at hS5
    clear hS2
    refine wl_assign rfl rfl ?_
    refine wl_nil ?_
    refine qs_seq ?_
    refine wc_ret ?_
    refine qs_then_ret ?_
    refine finR2 (.inr rfl) rfl (resCA rfl ag_38 sz_38 (by first | exact hS5.blk 0 rfl) (by first | decide | exact Nat.le_of_ble_eq_true rfl | (simp; done) | omega) rfl) (resT rfl) ?_
    have hg : getW W pid = none := by unfold getW; rw [if_pos (by assumption)]
    exact ⟨_, rfl, (.slice none 0 0), (.slice none 0 0), by rw [hg]; simp only [Option.getD_none, Option.isSome_none, procV_eq]; rfl, by rw [hg]; exact ((hS5.pick [1, 2] rfl).row_nil stC).row_nil arC⟩
  refine wc_skip ?_
  refine qs_seq ?_
  refine wc_seq ?_
  refine wc_seq ?_
  refine wc_region ?_
  refine wl_move rfl rfl ?_
  refine wl_move rfl rfl ?_
  have hC6 := hS2.split [1] [false, true, false] rfl; dsimp only [selF, pickA, nthA, List.cons_append, List.nil_append] at hC6
  refine wl_invoke (vs := [strV (keyP pid)]) rfl (imeth_Get p) cal_33 rfl (get_sp hC6 (keyP pid)) rfl ?_
  rintro e w6 ⟨_, rfl, rfl, hS6⟩; refine ⟨_, rfl, ?_⟩
  replace hS6 := hS6.join rfl; dsimp only [List.dropLast, List.cons_append, List.nil_append] at hS6; clear hC6
  clear hS2
  have hC7 := hS6.split [] [false, false, false] rfl; dsimp only [selF, pickA, nthA, List.cons_append, List.nil_append] at hC7
  refine wl_call cal_21 rfl (readP_sp hC7 (hG.starL 2 rfl) (W.cells (keyP pid)) (hB _)) rfl ?_
  rintro e w7 ⟨_, rfl, av, fv, rfl, hS7⟩; refine ⟨_, rfl, ?_⟩
  replace hS7 := hS7.join rfl; dsimp only [List.dropLast, List.cons_append, List.nil_append] at hS7; clear hC7
  clear hS6
  refine wl_move rfl rfl ?_
  refine wl_extract rfl rfl rfl ?_
  refine wl_extract rfl rfl rfl ?_
  have hone := procV_one (x := (decP (W.cells (keyP pid))).getD zeroP) (hS7.own_one 0 rfl) (hS7.own_one 1 rfl)
  refine wl_alloc hS7 zr_38 rfl rfl ?_
  intro bq w8 hS8
  clear hS7
  refine wl_storeA hS8 rfl rfl sz_38 rfl (by first | rfl | (simp [allOne, Value.oneCell']; done) | assumption) (i := 0) rfl (by first | decide | exact Nat.le_of_ble_eq_true rfl | (simp; done) | omega) ?_
  intro w9 hS9; dsimp only [List.set] at hS9
  clear hS8
  rw [splice_all _ _ (by rfl)] at hS9
  refine wl_assign rfl rfl ?_
  refine wl_nil ?_
  refine qs_seq ?_
  refine wc_sub (L' := [(8, _), (7, _), (5, _), (4, _), (1, _)]) (.cons rfl (.cons rfl (.cons rfl (.cons rfl (.cons rfl .nil))))) ?_
  refine wc_seq ?_
  refine wc_region ?_
  refine wl_move rfl rfl ?_
  refine wl_move rfl rfl ?_
  refine wl_split 22 rfl (fun h10 => ?_) (fun h10 => ?_)
  · skip
    obtain ⟨x, hd⟩ := optYes (q := (decP (W.cells (keyP pid)))) (by simpa using h10)
    rw [hd] at hS9 hone h10 ⊢
    dsimp only [Option.getD_some] at hS9 hone ⊢
    refine wl_guard rfl rfl h10 ?_
    refine wl_fieldAddr rfl fo_38_0 rfl ?_
    refine wl_guard rfl rfl h10 ?_
    refine wl_load rfl ag_3 (by first | assumption | exact hS9.cell 0 rfl rfl | exact hS9.cell 4 rfl rfl) rfl ?_
    refine wl_guard rfl rfl h10 ?_
    refine wl_move rfl rfl ?_
    refine wl_guard rfl rfl h10 ?_
    refine wl_eql rfl rfl rfl ?_
    refine wl_pickT rfl h10 rfl rfl ?_
    refine wl_nil ?_
    refine qs_seq ?_
    refine wc_sub (L' := [(27, _), (7, _), (5, _), (4, _)]) (.cons rfl (.cons rfl (.cons rfl (.cons rfl .nil)))) ?_
    refine wc_condD rfl (fun h11 => ?_) (fun h11 => ?_)
    · skip
      refine wc_seq ?_
      refine wc_region ?_
      refine wl_loadA rfl ag_38 sz_38 (by first | exact hS9.blk 0 rfl | exact hS9.blk 4 rfl) (by first | decide | exact Nat.le_of_ble_eq_true rfl | (simp; done) | omega) rfl rfl ?_
      refine wl_storeA hS9 rfl rfl sz_38 rfl (by first | rfl | (simp [allOne, Value.oneCell']; done) | assumption) (i := 4) rfl (by first | decide | exact Nat.le_of_ble_eq_true rfl | (simp; done) | omega) ?_
      intro w12 hS12; dsimp only [List.set] at hS12
      clear hS9
      rw [splice_all _ _ (by rfl)] at hS12
      refine wl_assign rfl rfl ?_
      refine wl_nil ?_
      refine qs_seq ?_
      refine wc_ret ?_
      refine qs_then_ret ?_
      refine finR2 (.inr rfl) rfl (resCA rfl ag_38 sz_38 (by first | exact hS12.blk 0 rfl | exact hS12.blk 4 rfl) (by first | decide | exact Nat.le_of_ble_eq_true rfl | (simp; done) | omega) rfl) (resT rfl) ?_
      have hg : getW W pid = some x := by unfold getW; rw [if_neg (by assumption), hd]; dsimp only; rw [if_pos (by assumption)]
      exact ⟨_, rfl, _, _, by rw [hg]; rfl, by rw [hg]; exact hS12.pick [1, 2, 3, 5] rfl⟩
    refine wc_skip ?_
    refine qs_seq ?_
    refine wc_seq ?_
    refine wc_region ?_
    refine wl_buildS rfl pl_38_ asz_38 zr_38 rfl rfl ?_
    first | (refine wl_storeA hS9 rfl rfl sz_38 rfl (by first | rfl | (simp [allOne, Value.oneCell']; done) | assumption | exact hone) (i := 0) rfl (by first | decide | exact Nat.le_of_ble_eq_true rfl | (simp; done) | omega) ?_) | (refine wl_storeA hS9 rfl rfl sz_38 rfl (by first | rfl | (simp [allOne, Value.oneCell']; done) | assumption | exact hone) (i := 4) rfl (by first | decide | exact Nat.le_of_ble_eq_true rfl | (simp; done) | omega) ?_)
    intro w13 hS14; dsimp only [List.set] at hS14
    clear hS9
    refine wl_assign rfl rfl ?_
    refine wl_nil ?_
    refine qs_seq ?_
    refine wc_ret ?_
    refine finR2 (.inr rfl) rfl (resCA rfl ag_38 sz_38 (by first | exact hS14.blk 0 rfl | exact hS14.blk 4 rfl) (by first | decide | exact Nat.le_of_ble_eq_true rfl | (simp; done) | omega) rfl) (resT rfl) ?_
    have hg : getW W pid = none := by unfold getW; rw [if_neg (by assumption), hd]; dsimp only; rw [if_neg (by assumption)]
    exact ⟨_, rfl, (.slice none 0 0), (.slice none 0 0), by rw [hg]; simp only [Option.getD_none, Option.isSome_none, procV_eq]; rfl, by rw [hg]; exact ((hS14.pick [3, 5] rfl).row_nil stC).row_nil arC⟩
  have hd := optNo (q := (decP (W.cells (keyP pid)))) (by simpa using h10)
  refine wl_unwanted rfl rfl h10 rfl ?_
  refine wl_unwanted rfl rfl h10 rfl ?_
  refine wl_unwanted rfl rfl h10 rfl ?_
  refine wl_unwanted rfl rfl h10 rfl ?_
  refine wl_pickF rfl h10 rfl rfl ?_
  refine wl_nil ?_
  refine qs_seq ?_
  refine wc_sub (L' := [(27, _), (7, _), (5, _), (4, _)]) (.cons rfl (.cons rfl (.cons rfl (.cons rfl .nil)))) ?_
  refine wc_condF rfl ?_
  refine wc_skip ?_
  refine qs_seq ?_
  refine wc_seq ?_
  refine wc_region ?_
  refine wl_buildS rfl pl_38_ asz_38 zr_38 rfl rfl ?_
  first | (refine wl_storeA hS9 rfl rfl sz_38 rfl (by first | rfl | (simp [allOne, Value.oneCell']; done) | assumption | exact hone) (i := 0) rfl (by first | decide | exact Nat.le_of_ble_eq_true rfl | (simp; done) | omega) ?_) | (refine wl_storeA hS9 rfl rfl sz_38 rfl (by first | rfl | (simp [allOne, Value.oneCell']; done) | assumption | exact hone) (i := 4) rfl (by first | decide | exact Nat.le_of_ble_eq_true rfl | (simp; done) | omega) ?_)
  intro w15 hS16; dsimp only [List.set] at hS16
  clear hS9
  refine wl_assign rfl rfl ?_
  refine wl_nil ?_
  refine qs_seq ?_
  refine wc_ret ?_
  refine finR2 (.inr rfl) rfl (resCA rfl ag_38 sz_38 (by first | exact hS16.blk 0 rfl | exact hS16.blk 4 rfl) (by first | decide | exact Nat.le_of_ble_eq_true rfl | (simp; done) | omega) rfl) (resT rfl) ?_
  have hg : getW W pid = none := by unfold getW; rw [if_neg (by assumption), hd]
  exact ⟨_, rfl, (.slice none 0 0), (.slice none 0 0), by rw [hg]; simp only [Option.getD_none, Option.isSome_none, procV_eq]; rfl, by rw [hg]; exact ((hS16.pick [3, 5] rfl).row_nil stC).row_nil arC⟩
set_option maxRecDepth 100000 in
theorem putP_sp {w : World} {p : Nat} {W : WS} {F : Th} (hS : Sat w [worldT p W, F]) (hG : Ent F WireG) {x : ProcD} (hw : WFR x) {av fv : Value} (hA : Ent F (RdL arC av x.ar)) (hF : Ent F (RdL stC fv x.fds)) (hz : (encR x).length ≤ 1000000) :
    Calls Tryz.prog 16 #[.iface 25 (ptrV p 0), .agg (procV x av fv).toArray] w (Ret fun v w' => v = .tuple #[] ∧ Sat w' [worldT p (putW W x), F]) := by
  refine calls_enter Tryz.func16 rfl Tryz.ntmps16 rfl ?_
  refine wc_seq ?_
  refine wc_region ?_
  refine wl_box hS rfl rfl rfl ?_
  intro bp wp hSp0
  have hSp : Sat wp [blkT bp (procV x av fv), worldT p W, F] := hSp0
  refine wl_nil ?_
  refine qs_seq ?_
  refine wc_seq ?_
  refine wc_region ?_
  refine wl_fieldAddr rfl fo_38_0 rfl ?_
  refine wl_load rfl ag_3 (by first | assumption | exact hSp.cell 0 rfl rfl) rfl ?_
  have hC1 := hSp.split [] [false, false, false] rfl; dsimp only [selF, pickA, nthA, List.cons_append, List.nil_append] at hC1
  refine wl_call cal_24 rfl (key_sp hC1 (hG.starL 2 rfl) (hq x 0)) rfl ?_
  rintro e w1 ⟨_, rfl, rfl, hS1⟩; refine ⟨_, rfl, ?_⟩
  replace hS1 := hS1.join rfl; dsimp only [List.dropLast, List.cons_append, List.nil_append] at hS1; clear hC1
  clear hSp
  refine wl_assign rfl rfl ?_
  refine wl_nil ?_
  refine qs_seq ?_
  refine wc_seq ?_
  refine wc_region ?_
  refine wl_move rfl rfl ?_
  refine wl_neqS rfl rfl rfl ?_
  refine wl_nil ?_
  refine qs_seq ?_
  refine wc_condD rfl (fun h2 => ?_) (fun h2 => ?_)
  · skip
    have hS3 := hS1.drew
    refine wc_draw [0, 1, 2, 4, 5, 6, 3, 7] [3, 7] mix (by kernel_rfl) ?_
    refine vc_p rfl rfl rfl (fun _ => (ev_move rfl)) ?_
    refine vc_p rfl rfl rfl (fun _ => (ev_move rfl)) ?_
    refine vc_q rfl rfl rfl (ev_loadA rfl ag_38 sz_38 (by first | exact hS3.blk 0 rfl) (by first | decide | exact Nat.le_of_ble_eq_true rfl | (simp; done) | omega) rfl) ?_
    refine vc_p rfl rfl rfl (fun _ => (ev_makeMeth rfl)) ?_
    refine vc_p rfl rfl rfl (fun _ => (ev_nilCheckMeth rfl (mnil_Put p))) ?_
    refine vc_p rfl rfl rfl (fun _ => (ev_move rfl)) ?_
    refine vc_s rfl rfl rfl rfl rfl rfl ?_
    have hC4 := hS3.split [] [false, false, false] rfl; dsimp only [selF, pickA, nthA, List.cons_append, List.nil_append] at hC4
    refine wl_call cal_22 rfl (bytesP_sp hC4 (hG.starL 2 rfl) hw (hA.starL 2 rfl) (hF.starL 2 rfl) (by omega)) rfl ?_
    rintro e w4 ⟨_, rfl, rfl, hS4⟩; refine ⟨_, rfl, ?_⟩
    replace hS4 := hS4.join rfl; dsimp only [List.dropLast, List.cons_append, List.nil_append] at hS4; clear hC4
    clear hS3
    refine vc_e (.skip (by kernel_rfl) .nil) ?_
    refine vc_s rfl rfl rfl rfl rfl rfl ?_
    have hC5 := hS4.split [1] [false, true, false] rfl; dsimp only [selF, pickA, nthA, List.cons_append, List.nil_append] at hC5
    refine wl_invoke (vs := [strV (keyP (hq x 0)), strV (encR x)]) rfl (imeth_Put p) cal_25 rfl (put_sp hC5 (keyP (hq x 0)) (encR x) (by have := keyP_len (hq x 0); omega) (by omega)) rfl ?_
    rintro e w5 ⟨_, rfl, rfl, hS5⟩; refine ⟨_, rfl, ?_⟩
    replace hS5 := hS5.join rfl; dsimp only [List.dropLast, List.cons_append, List.nil_append] at hS5; clear hC5
    clear hS4
    refine vc_e (.skip (by kernel_rfl) .nil) ?_
    refine VC.nil ?_
    refine fin0 (.inl rfl) rfl ?_
    exact ⟨_, rfl, rfl, by unfold putW; rw [if_neg (by assumption)]; exact hS5.pick [0, 2] rfl⟩
  refine wc_skip ?_
  refine fin0 (.inl rfl) rfl ?_
  exact ⟨_, rfl, rfl, by unfold putW; rw [if_pos (Decidable.not_not.1 (by assumption))]; exact hS1.pick [1, 2] rfl⟩
theorem rmP_sp {w : World} {p : Nat} {W : WS} {F : Th} (hS : Sat w [worldT p W, F]) (hG : Ent F WireG) (pid : Int) :
    Calls Tryz.prog 44 #[.iface 25 (ptrV p 0), intV pid] w (Ret fun v w' => v = .tuple #[] ∧ Sat w' [worldT p (rmW W pid), F]) := by
  refine calls_enter Tryz.func44 rfl Tryz.ntmps44 rfl ?_
  refine wc_seq ?_
  refine wc_region ?_
  refine wl_move rfl rfl ?_
  have hC1 := hS.split [] [false, false] rfl; dsimp only [selF, pickA, nthA, List.cons_append, List.nil_append] at hC1
  refine wl_call cal_24 rfl (key_sp hC1 (hG.starL 1 rfl) pid) rfl ?_
  rintro e w1 ⟨_, rfl, rfl, hS1⟩; refine ⟨_, rfl, ?_⟩
  replace hS1 := hS1.join rfl; dsimp only [List.dropLast, List.cons_append, List.nil_append] at hS1; clear hC1
  refine wl_assign rfl rfl ?_
  refine wl_nil ?_
  refine qs_seq ?_
  refine wc_seq ?_
  refine wc_region ?_
  refine wl_move rfl rfl ?_
  refine wl_neqS rfl rfl rfl ?_
  refine wl_nil ?_
  refine qs_seq ?_
  refine wc_condD rfl (fun h2 => ?_) (fun h2 => ?_)
  · skip
    refine wc_region ?_
    refine wl_move rfl rfl ?_
    refine wl_move rfl rfl ?_
    have hC3 := hS1.split [0] [true, false] rfl; dsimp only [selF, pickA, nthA, List.cons_append, List.nil_append] at hC3
    refine wl_invoke (vs := [strV (keyP pid), strV []]) rfl (imeth_Put p) cal_25 rfl (put_sp hC3 (keyP pid) [] (by have := keyP_len pid; omega) (by simp)) rfl ?_
    rintro e w3 ⟨_, rfl, rfl, hS3⟩; refine ⟨_, rfl, ?_⟩
    replace hS3 := hS3.join rfl; dsimp only [List.dropLast, List.cons_append, List.nil_append] at hS3; clear hC3
    clear hS1
    refine wl_nil ?_
    refine fin0 (.inl rfl) rfl ?_
    exact ⟨_, rfl, rfl, by unfold rmW; rw [if_neg (by assumption)]; exact hS3.pick [0, 1] rfl⟩
  refine wc_skip ?_
  refine fin0 (.inl rfl) rfl ?_
  exact ⟨_, rfl, rfl, by unfold rmW; rw [if_pos (Decidable.not_not.1 (by assumption))]; exact hS1.pick [0, 1] rfl⟩
end Go.Proofs.YtcbdclhoekokpaaGreatDoor
