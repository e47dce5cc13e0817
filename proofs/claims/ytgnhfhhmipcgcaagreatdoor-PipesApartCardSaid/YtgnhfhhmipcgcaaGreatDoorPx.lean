/- pipes: put, Get, Make, Open, Close -/
import Derived.Test.YtgnhfhhmipcgcaaGreatDoorPw
import Derived.Test.YtgnhfhhmipcgcaaGreatDoorPp3
namespace Go.Proofs.YtgnhfhhmipcgcaaGreatDoor
open Go.RowKit M
set_option linter.unusedVariables false
theorem imeth_Get (p : Nat) : ∀ w : World, (method (Tryz.prog.types.size + Made.depth) 25 (ptrV p 0) "Get").run Tryz.prog w = .ok (14, ptrV p 0) w := by intro w; kernel_rfl
theorem imeth_Put (p : Nat) : ∀ w : World, (method (Tryz.prog.types.size + Made.depth) 25 (ptrV p 0) "Put").run Tryz.prog w = .ok (8, ptrV p 0) w := by intro w; kernel_rfl
theorem imeth_Keys (p : Nat) : ∀ w : World, (method (Tryz.prog.types.size + Made.depth) 25 (ptrV p 0) "Keys").run Tryz.prog w = .ok (17, ptrV p 0) w := by intro w; kernel_rfl
theorem mnil_Put (p : Nat) : ∀ w : World, (nilAhead (Tryz.prog.types.size + Made.depth) 25 (ptrV p 0) "Put").run Tryz.prog w = .ok (some false) w := by intro w; kernel_rfl
def gD (W : WS) (id : Bs) : PipeD := (gP W id).getD zeroP
def gB (W : WS) (id : Bs) : Bool := (gP W id).isSome
def pC (y : PipeD) : List Value := [strV y.d, intV y.r, intV y.w]
theorem gB_some {W : WS} {id : Bs} (h : gB W id = true) : ∃ x, gP W id = some x ∧ gD W id = x := by
  unfold gB at h; unfold gD
  cases hq : gP W id with
  | none => rw [hq] at h; cases h
  | some x => exact ⟨x, rfl, rfl⟩
theorem gB_none {W : WS} {id : Bs} (h : gB W id = false) : gP W id = none := by
  unfold gB at h
  cases hq : gP W id with
  | none => rfl
  | some x => rw [hq] at h; cases h
theorem encT_len {s : Bs} (h : s.length ≤ 1000000) : (encT s).length ≤ s.length + 40 := by
  have h1 := (itoa_len (n := (s.length : Int)) (by unfold inI; omega)).1
  unfold encT
  simp only [List.length_append, List.length_cons, List.length_nil]; omega
theorem done_no {b : Bool} {l : Bs} (h : (!(!b && decide (l = []))) = true) : ¬ (b = false ∧ l = []) := by
  rintro ⟨rfl, rfl⟩; simp at h
theorem done_yes {b : Bool} {l : Bs} (h : (!(!b && decide (l = []))) = false) : b = false ∧ l = [] := by
  cases b <;> simp_all
theorem addE_nz {x : PipeD} (h : OkP x) (wr : Bool) : ¬ ((addE x wr 1).r = 0 ∧ (addE x wr 1).w = 0) := by
  have h1 := h.r
  have h2 := h.w
  unfold addE
  cases wr
  · simp only [Bool.false_eq_true, if_false]
    rintro ⟨q, _⟩
    rw [wrap_if] at q
    split at q <;> omega
  · simp only [if_true]
    rintro ⟨_, q⟩
    rw [wrap_if] at q
    split at q <;> omega
set_option maxRecDepth 100000 in
theorem pPut_sp {w : World} {p : Nat} {W : WS} {F : Th} (hS : Sat w [worldT p W, F]) (hG : Ent F WireG) (id : Bs) (hid : id.length ≤ 1000) (x : PipeD) (hd : x.d.length ≤ 64) (hr : inI x.r) (hw : inI x.w) :
    Calls Tryz.prog 47 #[.iface 25 (ptrV p 0), strV id, .agg #[strV x.d, intV x.r, intV x.w]] w (Ret fun v w' => v = .tuple #[] ∧ Sat w' [worldT p (setP W id x), F]) := by
  refine calls_enter Tryz.func47 rfl Tryz.ntmps47 rfl ?_
  refine wc_seq ?_
  refine wc_region ?_
  refine wl_box hS rfl rfl rfl ?_
  intro b1 w1 hS1
  refine wl_nil ?_
  refine qs_seq ?_
  have hS2 := hS1.drew
  refine wc_draw [0, 1, 2, 3, 4, 6, 7, 10, 11, 14, 15, 16, 5, 8, 9, 12, 13, 17] [5, 8, 12, 17] mix (by kernel_rfl) ?_
  refine vc_p rfl rfl rfl (fun _ => (ev_move rfl)) ?_
  refine vc_p rfl rfl rfl (fun _ => (ev_move rfl)) ?_
  refine vc_p rfl rfl rfl (fun _ => (ev_concat rfl rfl (by first | omega | (simp; omega)))) ?_
  refine vc_p rfl rfl rfl (fun _ => (ev_fieldAddr rfl fo_39_0)) ?_
  refine vc_q rfl rfl rfl (ev_load rfl ag_9 (by first | assumption | exact hS2.cell 0 rfl rfl)) ?_
  refine vc_p rfl rfl rfl (fun _ => (ev_fieldAddr rfl fo_39_1)) ?_
  refine vc_q rfl rfl rfl (ev_load rfl ag_3 (by first | assumption | exact hS2.cell 0 rfl rfl)) ?_
  refine vc_p rfl rfl rfl (fun _ => (ev_fieldAddr rfl fo_39_2)) ?_
  refine vc_q rfl rfl rfl (ev_load rfl ag_3 (by first | assumption | exact hS2.cell 0 rfl rfl)) ?_
  refine vc_p rfl rfl rfl (fun _ => (ev_makeMeth rfl)) ?_
  refine vc_p rfl rfl rfl (fun _ => (ev_nilCheckMeth rfl (mnil_Put p))) ?_
  refine vc_p rfl rfl rfl (fun _ => (ev_move rfl)) ?_
  refine vc_s rfl rfl rfl rfl rfl rfl ?_
  have hC3 := hS2.split [] [false, false, false] rfl; dsimp only [selF, pickA, nthA, List.cons_append, List.nil_append] at hC3
  refine wl_call cal_66 rfl (wText_sp hC3 (hG.starL 2 rfl) x.d (by omega)) rfl ?_
  rintro e w3 ⟨_, rfl, rfl, hS3⟩; refine ⟨_, rfl, ?_⟩
  replace hS3 := hS3.join rfl; dsimp only [List.dropLast, List.cons_append, List.nil_append] at hS3; clear hC3
  clear hS2
  have het := encT_len (s := x.d) (by omega)
  refine vc_e (.cons (.inl ⟨rfl, (ev_load rfl ag_3 (by first | assumption | exact hS3.cell 0 rfl rfl))⟩) (.cons (.inl ⟨rfl, (ev_load rfl ag_3 (by first | assumption | exact hS3.cell 0 rfl rfl))⟩) (.skip (by kernel_rfl) .nil))) ?_
  refine vc_s rfl rfl rfl rfl rfl rfl ?_
  have hC4 := hS3.split [] [false, false, false] rfl; dsimp only [selF, pickA, nthA, List.cons_append, List.nil_append] at hC4
  refine wl_call cal_67 rfl (wInt_sp hC4 (hG.starL 2 rfl) (x.r) hr) rfl ?_
  rintro e w4 ⟨_, rfl, rfl, hS4⟩; refine ⟨_, rfl, ?_⟩
  replace hS4 := hS4.join rfl; dsimp only [List.dropLast, List.cons_append, List.nil_append] at hS4; clear hC4
  clear hS3
  have hil1 := (itoa_len hr).1
  refine vc_e (.cons (.inl ⟨rfl, (ev_load rfl ag_3 (by first | assumption | exact hS4.cell 0 rfl rfl))⟩) (.skip (by kernel_rfl) (.skip (by kernel_rfl) .nil))) ?_
  refine vc_p rfl rfl rfl (fun _ => (ev_concat rfl rfl (by first | omega | (simp; omega)))) ?_
  refine vc_s rfl rfl rfl rfl rfl rfl ?_
  have hC5 := hS4.split [] [false, false, false] rfl; dsimp only [selF, pickA, nthA, List.cons_append, List.nil_append] at hC5
  refine wl_call cal_67 rfl (wInt_sp hC5 (hG.starL 2 rfl) (x.w) hw) rfl ?_
  rintro e w5 ⟨_, rfl, rfl, hS5⟩; refine ⟨_, rfl, ?_⟩
  replace hS5 := hS5.join rfl; dsimp only [List.dropLast, List.cons_append, List.nil_append] at hS5; clear hC5
  clear hS4
  have hil2 := (itoa_len hw).1
  refine vc_e (.skip (by kernel_rfl) (.skip (by kernel_rfl) (.skip (by kernel_rfl) .nil))) ?_
  refine vc_p rfl rfl rfl (fun _ => (ev_concat rfl rfl (by first | omega | (simp; omega)))) ?_
  refine vc_s rfl rfl rfl rfl rfl rfl ?_
  have hC6 := hS5.split [1] [false, true, false] rfl; dsimp only [selF, pickA, nthA, List.cons_append, List.nil_append] at hC6
  refine wl_invoke (vs := [strV (kP id), strV (encP x)]) rfl (imeth_Put p) cal_8 rfl (put_sp hC6 (kP id) (encP x) (by rw [kP_len]; omega) (by have := encP_len hd hr hw; omega)) rfl ?_
  rintro e w6 ⟨_, rfl, rfl, hS6⟩; refine ⟨_, rfl, ?_⟩
  replace hS6 := hS6.join rfl; dsimp only [List.dropLast, List.cons_append, List.nil_append] at hS6; clear hC6
  clear hS5
  refine vc_e (.skip (by kernel_rfl) (.skip (by kernel_rfl) (.skip (by kernel_rfl) .nil))) ?_
  refine VC.nil ?_
  refine fin0 (.inl rfl) rfl ?_
  exact ⟨_, rfl, rfl, hS6.pick [0, 2] rfl⟩

set_option maxRecDepth 100000 in
theorem pGet_sp {w : World} {p : Nat} {W : WS} {F : Th} (hS : Sat w [worldT p W, F]) (hG : Ent F WireG) (id : Bs) (hid : id.length ≤ 1000) (hz : (W.cells (kP id)).length ≤ 1000000) :
    Calls Tryz.prog 12 #[.iface 25 (ptrV p 0), strV id] w (Ret fun v w' => v = .tuple #[.agg #[strV (gD W id).d, intV (gD W id).r, intV (gD W id).w], .bool (gB W id)] ∧ Sat w' [worldT p W, F]) := by
  refine calls_enter Tryz.func12 rfl Tryz.ntmps12 rfl ?_
  refine wc_seq ?_
  refine wc_region ?_
  refine wl_alloc hS zr_39 rfl rfl ?_
  intro b1 w1 hS1
  refine wl_assign rfl rfl ?_
  refine wl_nil ?_
  refine qs_seq ?_
  refine wc_seq ?_
  refine wc_seq ?_
  refine wc_region ?_
  refine wl_move rfl rfl ?_
  refine wl_eqlS rfl rfl rfl ?_
  refine wl_nil ?_
  refine qs_seq ?_
  refine wc_condD rfl (fun h2 => ?_) (fun h2 => ?_)
  · skip
    refine wc_seq ?_
    refine wc_region ?_
    refine wl_buildS rfl pl_39_ asz_39 zr_39 rfl rfl ?_
    first | (refine wl_storeA hS1 rfl rfl sz_39 rfl (by first | rfl | (simp [allOne, Value.oneCell']; done) | assumption | exact hone) (i := 0) rfl (by first | decide | exact Nat.le_of_ble_eq_true rfl | (simp; done) | omega) ?_)
    intro w3 hS4; dsimp only [List.set] at hS4
    clear hS1
    refine wl_assign rfl rfl ?_
    refine wl_nil ?_
    refine qs_seq ?_
    refine wc_ret ?_
    refine qs_then_ret ?_
    refine finR2 (.inr rfl) rfl (resCA rfl ag_39 sz_39 (by first | exact hS4.blk 0 rfl) (by first | decide | exact Nat.le_of_ble_eq_true rfl | (simp; done) | omega) rfl) (resT rfl) ?_
    have hg : gP W id = none := by unfold gP; rw [if_pos (by assumption)]
    exact ⟨_, rfl, by unfold gD gB; rw [hg]; rfl, hS4.pick [1, 2] rfl⟩
  · skip
    refine wc_skip ?_
    refine qs_seq ?_
    refine wc_seq ?_
    refine wc_region ?_
    refine wl_move rfl rfl ?_
    refine wl_move rfl rfl ?_
    refine wl_concat rfl rfl (by first | omega | (simp; omega)) rfl ?_
    have hC5 := hS1.split [1] [false, true, false] rfl; dsimp only [selF, pickA, nthA, List.cons_append, List.nil_append] at hC5
    refine wl_invoke (vs := [strV (kP id)]) rfl (imeth_Get p) cal_14 rfl (get_sp hC5 (kP id)) rfl ?_
    rintro e w5 ⟨_, rfl, rfl, hS5⟩; refine ⟨_, rfl, ?_⟩
    replace hS5 := hS5.join rfl; dsimp only [List.dropLast, List.cons_append, List.nil_append] at hS5; clear hC5
    clear hS1
    have hC6 := hS5.split [] [false, false, false] rfl; dsimp only [selF, pickA, nthA, List.cons_append, List.nil_append] at hC6
    refine wl_call cal_35 rfl (wOpen_sp hC6 (W.cells (kP id))) rfl ?_
    rintro e w6 ⟨_, rfl, rb, rfl, hS6⟩; refine ⟨_, rfl, ?_⟩
    replace hS6 := hS6.join rfl; dsimp only [List.dropLast, List.cons_append, List.nil_append] at hS6; clear hC6
    clear hS5
    refine wl_assign rfl rfl ?_
    refine wl_nil ?_
    refine qs_seq ?_
    refine wc_sub (L' := [(6, _), (5, _), (4, _)]) (.cons rfl (.cons rfl (.cons rfl .nil))) ?_
    refine wc_seq ?_
    refine wc_region ?_
    refine wl_move rfl rfl ?_
    have hC7 := hS6.split [0] [true, false, false, false] rfl; dsimp only [selF, pickA, nthA, List.cons_append, List.nil_append] at hC7
    refine wl_call cal_36 rfl (rText_sp hC7 (hG.starL 2 rfl) hz) rfl ?_
    rintro e w7 ⟨_, rfl, rfl, hS7⟩; refine ⟨_, rfl, ?_⟩
    replace hS7 := hS7.join rfl; dsimp only [List.dropLast, List.cons_append, List.nil_append] at hS7; clear hC7
    clear hS6
    have htl := txtR_len (W.cells (kP id), false)
    dsimp only at htl
    have hn1 := numV_in 59 (-9223372036854775808) (txtR (W.cells (kP id), false))
    have hn2 := numR_len 59 (-9223372036854775808) (txtR (W.cells (kP id), false))
    refine wl_move rfl rfl ?_
    have hC8 := hS7.split [0] [true, false, false, false] rfl; dsimp only [selF, pickA, nthA, List.cons_append, List.nil_append] at hC8
    refine wl_call cal_37 rfl (rInt_sp hC8 (hG.starL 2 rfl) (by omega)) rfl ?_
    rintro e w8 ⟨_, rfl, rfl, hS8⟩; refine ⟨_, rfl, ?_⟩
    replace hS8 := hS8.join rfl; dsimp only [List.dropLast, List.cons_append, List.nil_append] at hS8; clear hC8
    clear hS7
    refine wl_move rfl rfl ?_
    have hC9 := hS8.split [0] [true, false, false, false] rfl; dsimp only [selF, pickA, nthA, List.cons_append, List.nil_append] at hC9
    refine wl_call cal_37 rfl (rInt_sp hC9 (hG.starL 2 rfl) (by omega)) rfl ?_
    rintro e w9 ⟨_, rfl, rfl, hS9⟩; refine ⟨_, rfl, ?_⟩
    replace hS9 := hS9.join rfl; dsimp only [List.dropLast, List.cons_append, List.nil_append] at hS9; clear hC9
    clear hS8
    refine wl_buildS rfl pl_39_0_1_2 asz_39 zr_39 rfl rfl ?_
    refine wl_alloc hS9 zr_39 rfl rfl ?_
    intro b10 w10 hS10
    clear hS9
    first | (refine wl_storeA hS10 rfl rfl sz_39 rfl (by first | rfl | (simp [allOne, Value.oneCell']; done) | assumption | exact hone) (i := 0) rfl (by first | decide | exact Nat.le_of_ble_eq_true rfl | (simp; done) | omega) ?_) | (refine wl_storeA hS10 rfl rfl sz_39 rfl (by first | rfl | (simp [allOne, Value.oneCell']; done) | assumption | exact hone) (i := 3) rfl (by first | decide | exact Nat.le_of_ble_eq_true rfl | (simp; done) | omega) ?_)
    intro w11 hS12; dsimp only [List.set] at hS12
    clear hS10
    refine wl_nil ?_
    refine qs_seq ?_
    refine wc_sub (L' := [(7, _), (6, _), (5, _), (4, _)]) (.cons rfl (.cons rfl (.cons rfl (.cons rfl .nil)))) ?_
    refine wc_seq ?_
    refine wc_seq ?_
    refine wc_region ?_
    refine wl_move rfl rfl ?_
    have hC13 := hS12.split [1] [false, true, false, false, false] rfl; dsimp only [selF, pickA, nthA, List.cons_append, List.nil_append] at hC13
    refine wl_call cal_38 rfl (rDone_sp hC13) rfl ?_
    rintro e w13 ⟨_, rfl, rfl, hS13⟩; refine ⟨_, rfl, ?_⟩
    replace hS13 := hS13.join rfl; dsimp only [List.dropLast, List.cons_append, List.nil_append] at hS13; clear hC13
    clear hS12
    refine wl_not rfl rfl ?_
    refine wl_move rfl rfl ?_
    refine wl_split 26 rfl (fun h14 => ?_) (fun h14 => ?_)
    · skip
      refine wl_unwanted rfl rfl h14 rfl ?_
      refine wl_unwanted rfl rfl h14 rfl ?_
      refine wl_unwanted rfl rfl h14 rfl ?_
      refine wl_unwanted rfl rfl h14 rfl ?_
      refine wl_pickT rfl h14 rfl rfl ?_
      refine wl_move rfl rfl ?_
      refine wl_unwanted rfl rfl rfl rfl ?_
      refine wl_unwanted rfl rfl rfl rfl ?_
      refine wl_unwanted rfl rfl rfl rfl ?_
      refine wl_pickT rfl rfl rfl rfl ?_
      refine wl_move rfl rfl ?_
      refine wl_unwanted rfl rfl rfl rfl ?_
      refine wl_unwanted rfl rfl rfl rfl ?_
      refine wl_unwanted rfl rfl rfl rfl ?_
      refine wl_pickT rfl rfl rfl rfl ?_
      refine wl_nil ?_
      refine qs_seq ?_
      refine wc_sub (L' := [(41, _), (7, _), (5, _), (4, _)]) (.cons rfl (.cons rfl (.cons rfl (.cons rfl .nil)))) ?_
      refine wc_condT rfl ?_
      refine wc_seq ?_
      refine wc_region ?_
      refine wl_buildS rfl pl_39_ asz_39 zr_39 rfl rfl ?_
      first | (refine wl_storeA hS13 rfl rfl sz_39 rfl (by first | rfl | (simp [allOne, Value.oneCell']; done) | assumption | exact hone) (i := 1) rfl (by first | decide | exact Nat.le_of_ble_eq_true rfl | (simp; done) | omega) ?_) | (refine wl_storeA hS13 rfl rfl sz_39 rfl (by first | rfl | (simp [allOne, Value.oneCell']; done) | assumption | exact hone) (i := 3) rfl (by first | decide | exact Nat.le_of_ble_eq_true rfl | (simp; done) | omega) ?_)
      intro w15 hS16; dsimp only [List.set] at hS16
      clear hS13
      refine wl_assign rfl rfl ?_
      refine wl_nil ?_
      refine qs_seq ?_
      refine wc_ret ?_
      refine qs_then_ret ?_
      refine finR2 (.inr rfl) rfl (resCA rfl ag_39 sz_39 (by first | exact hS16.blk 1 rfl | exact hS16.blk 3 rfl) (by first | decide | exact Nat.le_of_ble_eq_true rfl | (simp; done) | omega) rfl) (resT rfl) ?_
      have hg : gP W id = none := by unfold gP getP imin; rw [if_neg (by assumption)]; dsimp only; rw [if_neg (by rintro ⟨q1, q2, q3, q4, q5⟩; first | omega | exact done_no (by assumption) ⟨q1, q2⟩)]
      exact ⟨_, rfl, by unfold gD gB; rw [hg]; rfl, hS16.pick [2, 4] rfl⟩
    · skip
      refine wl_guard rfl rfl h14 ?_
      refine wl_fieldAddr rfl fo_39_0 rfl ?_
      refine wl_guard rfl rfl h14 ?_
      refine wl_load rfl ag_9 (by first | assumption | exact hS13.cell 1 rfl rfl | exact hS13.cell 3 rfl rfl) rfl ?_
      refine wl_guard rfl rfl h14 ?_
      refine wl_lenS Tryz.underlying9 rfl rfl ?_
      refine wl_guard rfl rfl h14 ?_
      refine wl_gtr rfl rfl rfl ?_
      refine wl_pickF rfl h14 rfl rfl ?_
      refine wl_move rfl rfl ?_
      refine wl_splitD 32 rfl (fun h17 => ?_) (fun h17 => ?_)
      · skip
        refine wl_unwanted rfl rfl (decide_eq_true h17) rfl ?_
        refine wl_unwanted rfl rfl (decide_eq_true h17) rfl ?_
        refine wl_unwanted rfl rfl (decide_eq_true h17) rfl ?_
        refine wl_pickT rfl (decide_eq_true h17) rfl rfl ?_
        refine wl_move rfl rfl ?_
        refine wl_unwanted rfl rfl rfl rfl ?_
        refine wl_unwanted rfl rfl rfl rfl ?_
        refine wl_unwanted rfl rfl rfl rfl ?_
        refine wl_pickT rfl rfl rfl rfl ?_
        refine wl_nil ?_
        refine qs_seq ?_
        refine wc_sub (L' := [(41, _), (7, _), (5, _), (4, _)]) (.cons rfl (.cons rfl (.cons rfl (.cons rfl .nil)))) ?_
        refine wc_condT rfl ?_
        refine wc_seq ?_
        refine wc_region ?_
        refine wl_buildS rfl pl_39_ asz_39 zr_39 rfl rfl ?_
        first | (refine wl_storeA hS13 rfl rfl sz_39 rfl (by first | rfl | (simp [allOne, Value.oneCell']; done) | assumption | exact hone) (i := 1) rfl (by first | decide | exact Nat.le_of_ble_eq_true rfl | (simp; done) | omega) ?_) | (refine wl_storeA hS13 rfl rfl sz_39 rfl (by first | rfl | (simp [allOne, Value.oneCell']; done) | assumption | exact hone) (i := 3) rfl (by first | decide | exact Nat.le_of_ble_eq_true rfl | (simp; done) | omega) ?_)
        intro w18 hS19; dsimp only [List.set] at hS19
        clear hS13
        refine wl_assign rfl rfl ?_
        refine wl_nil ?_
        refine qs_seq ?_
        refine wc_ret ?_
        refine qs_then_ret ?_
        refine finR2 (.inr rfl) rfl (resCA rfl ag_39 sz_39 (by first | exact hS19.blk 1 rfl | exact hS19.blk 3 rfl) (by first | decide | exact Nat.le_of_ble_eq_true rfl | (simp; done) | omega) rfl) (resT rfl) ?_
        have hg : gP W id = none := by unfold gP getP imin; rw [if_neg (by assumption)]; dsimp only; rw [if_neg (by rintro ⟨q1, q2, q3, q4, q5⟩; first | omega | exact done_no (by assumption) ⟨q1, q2⟩)]
        exact ⟨_, rfl, by unfold gD gB; rw [hg]; rfl, hS19.pick [2, 4] rfl⟩
      · skip
        refine wl_guard rfl rfl (decide_eq_false h17) ?_
        refine wl_fieldAddr rfl fo_39_1 rfl ?_
        refine wl_guard rfl rfl (decide_eq_false h17) ?_
        refine wl_load rfl ag_3 (by first | assumption | exact hS13.cell 1 rfl rfl | exact hS13.cell 3 rfl rfl) rfl ?_
        refine wl_guard rfl rfl (decide_eq_false h17) ?_
        refine wl_lss rfl rfl rfl ?_
        refine wl_pickF rfl (decide_eq_false h17) rfl rfl ?_
        refine wl_move rfl rfl ?_
        refine wl_splitD 37 rfl (fun h20 => ?_) (fun h20 => ?_)
        · skip
          refine wl_unwanted rfl rfl (decide_eq_true h20) rfl ?_
          refine wl_unwanted rfl rfl (decide_eq_true h20) rfl ?_
          refine wl_unwanted rfl rfl (decide_eq_true h20) rfl ?_
          refine wl_pickT rfl (decide_eq_true h20) rfl rfl ?_
          refine wl_nil ?_
          refine qs_seq ?_
          refine wc_sub (L' := [(41, _), (7, _), (5, _), (4, _)]) (.cons rfl (.cons rfl (.cons rfl (.cons rfl .nil)))) ?_
          refine wc_condT rfl ?_
          refine wc_seq ?_
          refine wc_region ?_
          refine wl_buildS rfl pl_39_ asz_39 zr_39 rfl rfl ?_
          first | (refine wl_storeA hS13 rfl rfl sz_39 rfl (by first | rfl | (simp [allOne, Value.oneCell']; done) | assumption | exact hone) (i := 1) rfl (by first | decide | exact Nat.le_of_ble_eq_true rfl | (simp; done) | omega) ?_) | (refine wl_storeA hS13 rfl rfl sz_39 rfl (by first | rfl | (simp [allOne, Value.oneCell']; done) | assumption | exact hone) (i := 3) rfl (by first | decide | exact Nat.le_of_ble_eq_true rfl | (simp; done) | omega) ?_)
          intro w21 hS22; dsimp only [List.set] at hS22
          clear hS13
          refine wl_assign rfl rfl ?_
          refine wl_nil ?_
          refine qs_seq ?_
          refine wc_ret ?_
          refine qs_then_ret ?_
          refine finR2 (.inr rfl) rfl (resCA rfl ag_39 sz_39 (by first | exact hS22.blk 1 rfl | exact hS22.blk 3 rfl) (by first | decide | exact Nat.le_of_ble_eq_true rfl | (simp; done) | omega) rfl) (resT rfl) ?_
          have hg : gP W id = none := by unfold gP getP imin; rw [if_neg (by assumption)]; dsimp only; rw [if_neg (by rintro ⟨q1, q2, q3, q4, q5⟩; first | omega | exact done_no (by assumption) ⟨q1, q2⟩)]
          exact ⟨_, rfl, by unfold gD gB; rw [hg]; rfl, hS22.pick [2, 4] rfl⟩
        · skip
          refine wl_guard rfl rfl (decide_eq_false h20) ?_
          refine wl_fieldAddr rfl fo_39_2 rfl ?_
          refine wl_guard rfl rfl (decide_eq_false h20) ?_
          refine wl_load rfl ag_3 (by first | assumption | exact hS13.cell 1 rfl rfl | exact hS13.cell 3 rfl rfl) rfl ?_
          refine wl_guard rfl rfl (decide_eq_false h20) ?_
          refine wl_lss rfl rfl rfl ?_
          refine wl_pickF rfl (decide_eq_false h20) rfl rfl ?_
          refine wl_nil ?_
          refine qs_seq ?_
          refine wc_sub (L' := [(41, _), (7, _), (5, _), (4, _)]) (.cons rfl (.cons rfl (.cons rfl (.cons rfl .nil)))) ?_
          refine wc_condD rfl (fun h23 => ?_) (fun h23 => ?_)
          · skip
            refine wc_seq ?_
            refine wc_region ?_
            refine wl_buildS rfl pl_39_ asz_39 zr_39 rfl rfl ?_
            first | (refine wl_storeA hS13 rfl rfl sz_39 rfl (by first | rfl | (simp [allOne, Value.oneCell']; done) | assumption | exact hone) (i := 1) rfl (by first | decide | exact Nat.le_of_ble_eq_true rfl | (simp; done) | omega) ?_) | (refine wl_storeA hS13 rfl rfl sz_39 rfl (by first | rfl | (simp [allOne, Value.oneCell']; done) | assumption | exact hone) (i := 3) rfl (by first | decide | exact Nat.le_of_ble_eq_true rfl | (simp; done) | omega) ?_)
            intro w24 hS25; dsimp only [List.set] at hS25
            clear hS13
            refine wl_assign rfl rfl ?_
            refine wl_nil ?_
            refine qs_seq ?_
            refine wc_ret ?_
            refine qs_then_ret ?_
            refine finR2 (.inr rfl) rfl (resCA rfl ag_39 sz_39 (by first | exact hS25.blk 1 rfl | exact hS25.blk 3 rfl) (by first | decide | exact Nat.le_of_ble_eq_true rfl | (simp; done) | omega) rfl) (resT rfl) ?_
            have hg : gP W id = none := by unfold gP getP imin; rw [if_neg (by assumption)]; dsimp only; rw [if_neg (by rintro ⟨q1, q2, q3, q4, q5⟩; first | omega | exact done_no (by assumption) ⟨q1, q2⟩)]
            exact ⟨_, rfl, by unfold gD gB; rw [hg]; rfl, hS25.pick [2, 4] rfl⟩
          · skip
            refine wc_skip ?_
            refine qs_seq ?_
            refine wc_seq ?_
            refine wc_region ?_
            refine wl_loadA rfl ag_39 sz_39 (by first | exact hS13.blk 1 rfl | exact hS13.blk 3 rfl) (by first | decide | exact Nat.le_of_ble_eq_true rfl | (simp; done) | omega) rfl rfl ?_
            first | (refine wl_storeA hS13 rfl rfl sz_39 rfl (by first | rfl | (simp [allOne, Value.oneCell']; done) | assumption | exact hone) (i := 1) rfl (by first | decide | exact Nat.le_of_ble_eq_true rfl | (simp; done) | omega) ?_) | (refine wl_storeA hS13 rfl rfl sz_39 rfl (by first | rfl | (simp [allOne, Value.oneCell']; done) | assumption | exact hone) (i := 3) rfl (by first | decide | exact Nat.le_of_ble_eq_true rfl | (simp; done) | omega) ?_)
            intro w26 hS27; dsimp only [List.set] at hS27
            clear hS13
            refine wl_assign rfl rfl ?_
            refine wl_nil ?_
            refine qs_seq ?_
            refine wc_ret ?_
            refine finR2 (.inr rfl) rfl (resCA rfl ag_39 sz_39 (by first | exact hS27.blk 1 rfl | exact hS27.blk 3 rfl) (by first | decide | exact Nat.le_of_ble_eq_true rfl | (simp; done) | omega) rfl) (resT rfl) ?_
            have hdn := done_yes (by assumption)
            have hg : gP W id = some ⟨txtV (W.cells (kP id), false), numV 59 imin (txtR (W.cells (kP id), false)), numV 59 imin (numR 59 imin (txtR (W.cells (kP id), false)))⟩ := by unfold gP getP imin; rw [if_neg (by assumption)]; dsimp only; rw [if_pos ⟨hdn.1, hdn.2, by omega, by omega, by omega⟩]
            exact ⟨_, rfl, by unfold gD gB; rw [hg]; rfl, hS27.pick [2, 4] rfl⟩

set_option maxRecDepth 100000 in
theorem pMake_sp {w : World} {p : Nat} {W : WS} {n : Nat} {F : Th} (hS : Sat w [worldT p W, F]) (hG : Ent F WireG) (hP : PI W n) (hn : n ≤ 1000) (id : Bs) (hid : id.length ≤ 200) :
    Calls Tryz.prog 19 #[.iface 25 (ptrV p 0), strV id] w (Ret fun v w' => v = intV (mkE W id (keyN W)) ∧ Sat w' [worldT p (mkP W id (keyN W)), F]) := by
  refine calls_enter Tryz.func19 rfl Tryz.ntmps19 rfl ?_
  refine wc_seq ?_
  refine wc_region ?_
  refine wl_assign rfl rfl ?_
  refine wl_nil ?_
  refine qs_seq ?_
  refine wc_seq ?_
  refine wc_seq ?_
  refine wc_region ?_
  refine wl_move rfl rfl ?_
  refine wl_eqlS rfl rfl rfl ?_
  refine wl_nil ?_
  refine qs_seq ?_
  refine wc_condD rfl (fun h1 => ?_) (fun h1 => ?_)
  · skip
    refine wc_seq ?_
    refine wc_region ?_
    refine wl_assign rfl rfl ?_
    refine wl_nil ?_
    refine qs_seq ?_
    refine wc_ret ?_
    refine qs_then_ret ?_
    refine fin1 (.inr rfl) rfl rfl ?_
    have hme : mkE W id (keyN W) = 1 := by unfold mkE; rw [if_pos (by assumption)]
    exact ⟨_, rfl, by rw [hme], by unfold mkP; rw [hme, if_neg (by decide)]; exact hS.pick [0, 1] rfl⟩
  · skip
    refine wc_skip ?_
    refine qs_seq ?_
    refine wc_seq ?_
    refine wc_seq ?_
    refine wc_region ?_
    refine wl_move rfl rfl ?_
    refine wl_move rfl rfl ?_
    have hC2 := hS.split [0] [true, false] rfl; dsimp only [selF, pickA, nthA, List.cons_append, List.nil_append] at hC2
    refine wl_call cal_12 rfl (pGet_sp hC2 (hG.starL 0 rfl) id (by omega) (hP.len _)) rfl ?_
    rintro e w2 ⟨_, rfl, rfl, hS2⟩; refine ⟨_, rfl, ?_⟩
    replace hS2 := hS2.join rfl; dsimp only [List.dropLast, List.cons_append, List.nil_append] at hS2; clear hC2
    refine wl_move rfl rfl ?_
    refine wl_extract rfl rfl rfl ?_
    refine wl_extract rfl rfl rfl ?_
    refine wl_alloc hS2 zr_39 rfl rfl ?_
    intro b3 w3 hS3
    clear hS2
    first | (refine wl_storeA hS3 rfl rfl sz_39 rfl (by first | rfl | (simp [allOne, Value.oneCell']; done) | assumption | exact hone) (i := 0) rfl (by first | decide | exact Nat.le_of_ble_eq_true rfl | (simp; done) | omega) ?_)
    intro w4 hS5; dsimp only [List.set] at hS5
    clear hS3
    refine wl_assign rfl rfl ?_
    refine wl_nil ?_
    refine qs_seq ?_
    refine wc_sub (L' := [(6, _), (4, _), (0, _), (1, _)]) (.cons rfl (.cons rfl (.cons rfl (.cons rfl .nil)))) ?_
    refine wc_seq ?_
    refine wc_region ?_
    refine wl_move rfl rfl ?_
    refine wl_nil ?_
    refine qs_seq ?_
    refine wc_cond rfl (fun h6 => ?_) (fun h6 => ?_)
    · skip
      obtain ⟨x, hx, hxd⟩ := gB_some (W := W) (id := id) (by simpa using h6)
      rw [hxd] at hS5
      have ho := gP_ok hx
      have hod := ho.d
      have hor := ho.r
      have how := ho.w
      refine wc_seq ?_
      refine wc_region ?_
      refine wl_assign rfl rfl ?_
      refine wl_nil ?_
      refine qs_seq ?_
      refine wc_ret ?_
      refine qs_then_ret ?_
      refine fin1 (.inr rfl) rfl rfl ?_
      have hme : mkE W id (keyN W) = 5 := by unfold mkE; rw [if_neg (by assumption), hx]
      exact ⟨_, rfl, by rw [hme], by unfold mkP; rw [hme, if_neg (by decide)]; exact hS5.pick [1, 2] rfl⟩
    · skip
      have hx := gB_none (W := W) (id := id) (by simpa using h6)
      refine wc_skip ?_
      refine qs_seq ?_
      refine wc_seq ?_
      refine wc_seq ?_
      refine wc_region ?_
      refine wl_move rfl rfl ?_
      have hC7 := hS5.split [1] [false, true, false] rfl; dsimp only [selF, pickA, nthA, List.cons_append, List.nil_append] at hC7
      refine wl_invoke (vs := [strV [112, 47]]) rfl (imeth_Keys p) cal_17 rfl (keys_sp hC7 [112, 47] (hP.kin hn)) rfl ?_
      rintro e w7 ⟨_, rfl, lk, hlk, hS7⟩; refine ⟨_, rfl, ?_⟩
      replace hS7 := hS7.join rfl; dsimp only [List.dropLast, List.cons_append, List.nil_append] at hS7; clear hC7
      clear hS5
      have hkn := keyN_eq (CntOf.keys hlk)
      refine wl_lenO 0 hS7 Tryz.underlying28 rfl rfl rfl ?_
      refine wl_geq rfl rfl rfl ?_
      refine wl_nil ?_
      refine qs_seq ?_
      refine wc_condD rfl (fun h8 => ?_) (fun h8 => ?_)
      · skip
        refine wc_seq ?_
        refine wc_region ?_
        refine wl_assign rfl rfl ?_
        refine wl_nil ?_
        refine qs_seq ?_
        refine wc_ret ?_
        refine qs_then_ret ?_
        refine fin1 (.inr rfl) rfl rfl ?_
        have hme : mkE W id (keyN W) = 6 := by unfold mkE; rw [if_neg (by assumption), hx, hkn]; dsimp only; rw [if_pos (by omega)]
        exact ⟨_, rfl, by rw [hme], by unfold mkP; rw [hme, if_neg (by decide)]; exact hS7.pick [1, 3] rfl⟩
      · skip
        refine wc_skip ?_
        refine qs_seq ?_
        refine wc_seq ?_
        refine wc_region ?_
        refine wl_move rfl rfl ?_
        refine wl_move rfl rfl ?_
        refine wl_buildS rfl pl_39_ asz_39 zr_39 rfl rfl ?_
        have hC9 := hS7.split [1] [false, true, false, false] rfl; dsimp only [selF, pickA, nthA, List.cons_append, List.nil_append] at hC9
        refine wl_call cal_47 rfl (pPut_sp hC9 (hG.starL 2 rfl) id (by omega) zeroP (by simp [zeroP]) (by unfold inI; simp [zeroP]) (by unfold inI; simp [zeroP])) rfl ?_
        rintro e w9 ⟨_, rfl, rfl, hS9⟩; refine ⟨_, rfl, ?_⟩
        replace hS9 := hS9.join rfl; dsimp only [List.dropLast, List.cons_append, List.nil_append] at hS9; clear hC9
        clear hS7
        refine wl_nil ?_
        refine qs_seq ?_
        refine wc_sub (L' := [(4, _)]) (.cons rfl .nil) ?_
        refine wc_seq ?_
        refine wc_region ?_
        refine wl_assign rfl rfl ?_
        refine wl_nil ?_
        refine qs_seq ?_
        refine wc_ret ?_
        refine fin1 (.inr rfl) rfl rfl ?_
        have hme : mkE W id (keyN W) = 0 := by unfold mkE; rw [if_neg (by assumption), hx, hkn]; dsimp only; rw [if_neg (by omega)]
        exact ⟨_, rfl, by rw [hme], by unfold mkP; rw [hme, if_pos rfl]; exact hS9.pick [0, 3] rfl⟩

theorem ends_false {w : World} {F : Th} {b : Nat} {cs : List Value} (hS : Sat w [blkT b cs, F]) :
    Calls Tryz.prog 50 #[ptrV b 0, .bool false] w (Ret fun v w' => v = ptrV b 1 ∧ Sat w' [blkT b cs, F]) := by
  refine calls_enter Tryz.func50 rfl Tryz.ntmps50 rfl ?_
  refine wc_seq ?_
  refine wc_region ?_
  refine wl_assign rfl rfl ?_
  refine wl_nil ?_
  refine qs_seq ?_
  refine wc_seq ?_
  refine wc_seq ?_
  refine wc_region ?_
  refine wl_move rfl rfl ?_
  refine wl_nil ?_
  refine qs_seq ?_
  refine wc_condF rfl ?_
  refine wc_skip ?_
  refine qs_seq ?_
  refine wc_seq ?_
  refine wc_region ?_
  refine wl_move rfl rfl ?_
  refine wl_nilCheck rfl rfl ?_
  refine wl_fieldAddr rfl fo_39_1 rfl ?_
  refine wl_assign rfl rfl ?_
  refine wl_nil ?_
  refine qs_seq ?_
  refine wc_ret ?_
  refine fin1 (.inr rfl) rfl rfl ?_
  exact ⟨_, rfl, rfl, hS⟩

theorem ends_true {w : World} {F : Th} {b : Nat} {cs : List Value} (hS : Sat w [blkT b cs, F]) :
    Calls Tryz.prog 50 #[ptrV b 0, .bool true] w (Ret fun v w' => v = ptrV b 2 ∧ Sat w' [blkT b cs, F]) := by
  refine calls_enter Tryz.func50 rfl Tryz.ntmps50 rfl ?_
  refine wc_seq ?_
  refine wc_region ?_
  refine wl_assign rfl rfl ?_
  refine wl_nil ?_
  refine qs_seq ?_
  refine wc_seq ?_
  refine wc_seq ?_
  refine wc_region ?_
  refine wl_move rfl rfl ?_
  refine wl_nil ?_
  refine qs_seq ?_
  refine wc_condT rfl ?_
  refine wc_seq ?_
  refine wc_region ?_
  refine wl_move rfl rfl ?_
  refine wl_nilCheck rfl rfl ?_
  refine wl_fieldAddr rfl fo_39_2 rfl ?_
  refine wl_assign rfl rfl ?_
  refine wl_nil ?_
  refine qs_seq ?_
  refine wc_ret ?_
  refine qs_then_ret ?_
  refine fin1 (.inr rfl) rfl rfl ?_
  exact ⟨_, rfl, rfl, hS⟩

theorem opn1_false {w : World} {F : Th} {b c : Nat} {x : PipeD} (hS : Sat w [blkT b (pC x), blkT c [.bool false], F]) :
    Calls Tryz.prog 49 #[ptrV b 0, ptrV c 0] w (Ret fun v w' => v = intV 0 ∧ Sat w' [blkT b (pC (addE x false 1)), blkT c [.bool false], F]) := by
  change Sat w [blkT b [strV x.d, intV x.r, intV x.w], blkT c [.bool false], F] at hS
  refine calls_enter Tryz.func49 rfl Tryz.ntmps49 rfl ?_
  refine wc_seq ?_
  refine wc_region ?_
  refine wl_assign rfl rfl ?_
  refine wl_nil ?_
  refine qs_seq ?_
  refine wc_seq ?_
  refine wc_region ?_
  refine wl_move rfl rfl ?_
  refine wl_load rfl ag_4 (by first | assumption | exact hS.cell 0 rfl rfl | exact hS.cell 1 rfl rfl) rfl ?_
  have hC1 := hS.split [0] [true, false, false] rfl; dsimp only [selF, pickA, nthA, List.cons_append, List.nil_append] at hC1
  refine wl_call cal_50 rfl (ends_false hC1) rfl ?_
  rintro e w1 ⟨_, rfl, rfl, hS1⟩; refine ⟨_, rfl, ?_⟩
  replace hS1 := hS1.join rfl; dsimp only [List.dropLast, List.cons_append, List.nil_append] at hS1; clear hC1
  refine wl_nilCheck rfl rfl ?_
  refine wl_load rfl ag_3 (by first | assumption | exact hS1.cell 0 rfl rfl | exact hS1.cell 1 rfl rfl) rfl ?_
  refine wl_addW rfl rfl rfl rfl ?_
  refine wl_nilCheck rfl rfl ?_
  first | (refine wl_store hS1 rfl rfl sz_3 (by first | rfl | assumption) (i := 0) rfl (by first | decide | exact Nat.le_of_ble_eq_true rfl | (simp; done) | omega) ?_) | (refine wl_store hS1 rfl rfl sz_3 (by first | rfl | assumption) (i := 1) rfl (by first | decide | exact Nat.le_of_ble_eq_true rfl | (simp; done) | omega) ?_)
  intro w2 hS3; dsimp only [List.set] at hS3
  clear hS1
  refine wl_nil ?_
  refine qs_seq ?_
  refine wc_seq ?_
  refine wc_region ?_
  refine wl_assign rfl rfl ?_
  refine wl_nil ?_
  refine qs_seq ?_
  refine wc_ret ?_
  refine fin1 (.inr rfl) rfl rfl ?_
  exact ⟨_, rfl, rfl, hS3⟩

theorem cls1_false {w : World} {F : Th} {b c : Nat} {x : PipeD} (hS : Sat w [blkT b (pC x), blkT c [.bool false], F]) (hr : 0 ≤ x.r ∧ x.r ≤ 9223372036854775807) (hw : 0 ≤ x.w ∧ x.w ≤ 9223372036854775807) :
    Calls Tryz.prog 53 #[ptrV b 0, ptrV c 0] w (Ret fun v w' => v = intV (if endE x false = 0 then 7 else 0) ∧ Sat w' [blkT b (pC (if endE x false = 0 then x else addE x false (-1))), blkT c [.bool false], F]) := by
  change Sat w [blkT b [strV x.d, intV x.r, intV x.w], blkT c [.bool false], F] at hS
  refine calls_enter Tryz.func53 rfl Tryz.ntmps53 rfl ?_
  refine wc_seq ?_
  refine wc_region ?_
  refine wl_assign rfl rfl ?_
  refine wl_nil ?_
  refine qs_seq ?_
  refine wc_seq ?_
  refine wc_region ?_
  refine wl_move rfl rfl ?_
  refine wl_load rfl ag_4 (by first | assumption | exact hS.cell 0 rfl rfl | exact hS.cell 1 rfl rfl) rfl ?_
  have hC1 := hS.split [0] [true, false, false] rfl; dsimp only [selF, pickA, nthA, List.cons_append, List.nil_append] at hC1
  refine wl_call cal_50 rfl (ends_false hC1) rfl ?_
  rintro e w1 ⟨_, rfl, rfl, hS1⟩; refine ⟨_, rfl, ?_⟩
  replace hS1 := hS1.join rfl; dsimp only [List.dropLast, List.cons_append, List.nil_append] at hS1; clear hC1
  refine wl_assign rfl rfl ?_
  refine wl_nil ?_
  refine qs_seq ?_
  refine wc_seq ?_
  refine wc_seq ?_
  refine wc_region ?_
  refine wl_move rfl rfl ?_
  refine wl_nilCheck rfl rfl ?_
  refine wl_load rfl ag_3 (by first | assumption | exact hS1.cell 0 rfl rfl | exact hS1.cell 1 rfl rfl) rfl ?_
  refine wl_eql rfl rfl rfl ?_
  refine wl_nil ?_
  refine qs_seq ?_
  refine wc_sub (L' := [(11, _), (4, _), (3, _)]) (.cons rfl (.cons rfl (.cons rfl .nil))) ?_
  refine wc_condD rfl (fun h2 => ?_) (fun h2 => ?_)
  · skip
    refine wc_seq ?_
    refine wc_region ?_
    refine wl_assign rfl rfl ?_
    refine wl_nil ?_
    refine qs_seq ?_
    refine wc_ret ?_
    refine qs_then_ret ?_
    refine fin1 (.inr rfl) rfl rfl ?_
    exact ⟨_, rfl, by rw [if_pos (show endE x false = 0 from by assumption)], by rw [if_pos (show endE x false = 0 from by assumption)]; exact hS1⟩
  · skip
    refine wc_skip ?_
    refine qs_seq ?_
    refine wc_seq ?_
    refine wc_region ?_
    refine wl_move rfl rfl ?_
    refine wl_nilCheck rfl rfl ?_
    refine wl_load rfl ag_3 (by first | assumption | exact hS1.cell 0 rfl rfl | exact hS1.cell 1 rfl rfl) rfl ?_
    refine wl_sub' rfl rfl (by omega) (by omega) rfl ?_
    refine wl_nilCheck rfl rfl ?_
    first | (refine wl_store hS1 rfl rfl sz_3 (by first | rfl | assumption) (i := 0) rfl (by first | decide | exact Nat.le_of_ble_eq_true rfl | (simp; done) | omega) ?_) | (refine wl_store hS1 rfl rfl sz_3 (by first | rfl | assumption) (i := 1) rfl (by first | decide | exact Nat.le_of_ble_eq_true rfl | (simp; done) | omega) ?_)
    intro w3 hS4; dsimp only [List.set] at hS4
    clear hS1
    refine wl_nil ?_
    refine qs_seq ?_
    refine wc_seq ?_
    refine wc_region ?_
    refine wl_assign rfl rfl ?_
    refine wl_nil ?_
    refine qs_seq ?_
    refine wc_ret ?_
    refine fin1 (.inr rfl) rfl rfl ?_
    exact ⟨_, rfl, by rw [if_neg (show ¬ endE x false = 0 from by assumption)], by rw [if_neg (show ¬ endE x false = 0 from by assumption), addE_val (by omega) (by omega)]; exact hS4⟩

theorem opn1_true {w : World} {F : Th} {b c : Nat} {x : PipeD} (hS : Sat w [blkT b (pC x), blkT c [.bool true], F]) :
    Calls Tryz.prog 49 #[ptrV b 0, ptrV c 0] w (Ret fun v w' => v = intV 0 ∧ Sat w' [blkT b (pC (addE x true 1)), blkT c [.bool true], F]) := by
  change Sat w [blkT b [strV x.d, intV x.r, intV x.w], blkT c [.bool true], F] at hS
  refine calls_enter Tryz.func49 rfl Tryz.ntmps49 rfl ?_
  refine wc_seq ?_
  refine wc_region ?_
  refine wl_assign rfl rfl ?_
  refine wl_nil ?_
  refine qs_seq ?_
  refine wc_seq ?_
  refine wc_region ?_
  refine wl_move rfl rfl ?_
  refine wl_load rfl ag_4 (by first | assumption | exact hS.cell 0 rfl rfl | exact hS.cell 1 rfl rfl) rfl ?_
  have hC1 := hS.split [0] [true, false, false] rfl; dsimp only [selF, pickA, nthA, List.cons_append, List.nil_append] at hC1
  refine wl_call cal_50 rfl (ends_true hC1) rfl ?_
  rintro e w1 ⟨_, rfl, rfl, hS1⟩; refine ⟨_, rfl, ?_⟩
  replace hS1 := hS1.join rfl; dsimp only [List.dropLast, List.cons_append, List.nil_append] at hS1; clear hC1
  refine wl_nilCheck rfl rfl ?_
  refine wl_load rfl ag_3 (by first | assumption | exact hS1.cell 0 rfl rfl | exact hS1.cell 1 rfl rfl) rfl ?_
  refine wl_addW rfl rfl rfl rfl ?_
  refine wl_nilCheck rfl rfl ?_
  first | (refine wl_store hS1 rfl rfl sz_3 (by first | rfl | assumption) (i := 0) rfl (by first | decide | exact Nat.le_of_ble_eq_true rfl | (simp; done) | omega) ?_) | (refine wl_store hS1 rfl rfl sz_3 (by first | rfl | assumption) (i := 1) rfl (by first | decide | exact Nat.le_of_ble_eq_true rfl | (simp; done) | omega) ?_)
  intro w2 hS3; dsimp only [List.set] at hS3
  clear hS1
  refine wl_nil ?_
  refine qs_seq ?_
  refine wc_seq ?_
  refine wc_region ?_
  refine wl_assign rfl rfl ?_
  refine wl_nil ?_
  refine qs_seq ?_
  refine wc_ret ?_
  refine fin1 (.inr rfl) rfl rfl ?_
  exact ⟨_, rfl, rfl, hS3⟩

theorem cls1_true {w : World} {F : Th} {b c : Nat} {x : PipeD} (hS : Sat w [blkT b (pC x), blkT c [.bool true], F]) (hr : 0 ≤ x.r ∧ x.r ≤ 9223372036854775807) (hw : 0 ≤ x.w ∧ x.w ≤ 9223372036854775807) :
    Calls Tryz.prog 53 #[ptrV b 0, ptrV c 0] w (Ret fun v w' => v = intV (if endE x true = 0 then 7 else 0) ∧ Sat w' [blkT b (pC (if endE x true = 0 then x else addE x true (-1))), blkT c [.bool true], F]) := by
  change Sat w [blkT b [strV x.d, intV x.r, intV x.w], blkT c [.bool true], F] at hS
  refine calls_enter Tryz.func53 rfl Tryz.ntmps53 rfl ?_
  refine wc_seq ?_
  refine wc_region ?_
  refine wl_assign rfl rfl ?_
  refine wl_nil ?_
  refine qs_seq ?_
  refine wc_seq ?_
  refine wc_region ?_
  refine wl_move rfl rfl ?_
  refine wl_load rfl ag_4 (by first | assumption | exact hS.cell 0 rfl rfl | exact hS.cell 1 rfl rfl) rfl ?_
  have hC1 := hS.split [0] [true, false, false] rfl; dsimp only [selF, pickA, nthA, List.cons_append, List.nil_append] at hC1
  refine wl_call cal_50 rfl (ends_true hC1) rfl ?_
  rintro e w1 ⟨_, rfl, rfl, hS1⟩; refine ⟨_, rfl, ?_⟩
  replace hS1 := hS1.join rfl; dsimp only [List.dropLast, List.cons_append, List.nil_append] at hS1; clear hC1
  refine wl_assign rfl rfl ?_
  refine wl_nil ?_
  refine qs_seq ?_
  refine wc_seq ?_
  refine wc_seq ?_
  refine wc_region ?_
  refine wl_move rfl rfl ?_
  refine wl_nilCheck rfl rfl ?_
  refine wl_load rfl ag_3 (by first | assumption | exact hS1.cell 0 rfl rfl | exact hS1.cell 1 rfl rfl) rfl ?_
  refine wl_eql rfl rfl rfl ?_
  refine wl_nil ?_
  refine qs_seq ?_
  refine wc_sub (L' := [(11, _), (4, _), (3, _)]) (.cons rfl (.cons rfl (.cons rfl .nil))) ?_
  refine wc_condD rfl (fun h2 => ?_) (fun h2 => ?_)
  · skip
    refine wc_seq ?_
    refine wc_region ?_
    refine wl_assign rfl rfl ?_
    refine wl_nil ?_
    refine qs_seq ?_
    refine wc_ret ?_
    refine qs_then_ret ?_
    refine fin1 (.inr rfl) rfl rfl ?_
    exact ⟨_, rfl, by rw [if_pos (show endE x true = 0 from by assumption)], by rw [if_pos (show endE x true = 0 from by assumption)]; exact hS1⟩
  · skip
    refine wc_skip ?_
    refine qs_seq ?_
    refine wc_seq ?_
    refine wc_region ?_
    refine wl_move rfl rfl ?_
    refine wl_nilCheck rfl rfl ?_
    refine wl_load rfl ag_3 (by first | assumption | exact hS1.cell 0 rfl rfl | exact hS1.cell 1 rfl rfl) rfl ?_
    refine wl_sub' rfl rfl (by omega) (by omega) rfl ?_
    refine wl_nilCheck rfl rfl ?_
    first | (refine wl_store hS1 rfl rfl sz_3 (by first | rfl | assumption) (i := 0) rfl (by first | decide | exact Nat.le_of_ble_eq_true rfl | (simp; done) | omega) ?_) | (refine wl_store hS1 rfl rfl sz_3 (by first | rfl | assumption) (i := 1) rfl (by first | decide | exact Nat.le_of_ble_eq_true rfl | (simp; done) | omega) ?_)
    intro w3 hS4; dsimp only [List.set] at hS4
    clear hS1
    refine wl_nil ?_
    refine qs_seq ?_
    refine wc_seq ?_
    refine wc_region ?_
    refine wl_assign rfl rfl ?_
    refine wl_nil ?_
    refine qs_seq ?_
    refine wc_ret ?_
    refine fin1 (.inr rfl) rfl rfl ?_
    exact ⟨_, rfl, by rw [if_neg (show ¬ endE x true = 0 from by assumption)], by rw [if_neg (show ¬ endE x true = 0 from by assumption), addE_val (by omega) (by omega)]; exact hS4⟩

theorem opn1_sp {w : World} {F : Th} {b c : Nat} {x : PipeD} {wr : Bool} (hS : Sat w [blkT b (pC x), blkT c [.bool wr], F]) :
    Calls Tryz.prog 49 #[ptrV b 0, ptrV c 0] w (Ret fun v w' => v = intV 0 ∧ Sat w' [blkT b (pC (addE x wr 1)), blkT c [.bool wr], F]) := by
  cases wr
  · exact opn1_false hS
  · exact opn1_true hS

theorem cls1_sp {w : World} {F : Th} {b c : Nat} {x : PipeD} {wr : Bool} (hS : Sat w [blkT b (pC x), blkT c [.bool wr], F]) (hr : 0 ≤ x.r ∧ x.r ≤ 9223372036854775807) (hw : 0 ≤ x.w ∧ x.w ≤ 9223372036854775807) :
    Calls Tryz.prog 53 #[ptrV b 0, ptrV c 0] w (Ret fun v w' => v = intV (if endE x wr = 0 then 7 else 0) ∧ Sat w' [blkT b (pC (if endE x wr = 0 then x else addE x wr (-1))), blkT c [.bool wr], F]) := by
  cases wr
  · exact cls1_false hS hr hw
  · exact cls1_true hS hr hw

set_option maxRecDepth 100000 in
theorem changeo_sp {w : World} {p : Nat} {W : WS} {n : Nat} {F : Th} {c : Nat} {wr : Bool} (hS : Sat w [worldT p W, blkT c [.bool wr], F]) (hG : Ent F WireG) (hP : PI W n) (hn : n ≤ 1000) (id : Bs) (hid : id.length ≤ 200) :
    Calls Tryz.prog 48 #[.iface 25 (ptrV p 0), strV id, .func (.func 49) #[] #[ptrV c 0]] w (Ret fun v w' => v = intV (openE W id) ∧ Sat w' [worldT p (openP W id wr), blkT c [.bool wr], F]) := by
  refine calls_enter Tryz.func48 rfl Tryz.ntmps48 rfl ?_
  refine wc_seq ?_
  refine wc_region ?_
  refine wl_assign rfl rfl ?_
  refine wl_nil ?_
  refine qs_seq ?_
  refine wc_seq ?_
  refine wc_region ?_
  refine wl_move rfl rfl ?_
  refine wl_move rfl rfl ?_
  have hC1 := hS.split [0] [true, false, false] rfl; dsimp only [selF, pickA, nthA, List.cons_append, List.nil_append] at hC1
  refine wl_call cal_12 rfl (pGet_sp hC1 (hG.starL 1 rfl) id (by omega) (hP.len _)) rfl ?_
  rintro e w1 ⟨_, rfl, rfl, hS1⟩; refine ⟨_, rfl, ?_⟩
  replace hS1 := hS1.join rfl; dsimp only [List.dropLast, List.cons_append, List.nil_append] at hS1; clear hC1
  refine wl_move rfl rfl ?_
  refine wl_extract rfl rfl rfl ?_
  refine wl_extract rfl rfl rfl ?_
  refine wl_alloc hS1 zr_39 rfl rfl ?_
  intro b2 w2 hS2
  clear hS1
  first | (refine wl_storeA hS2 rfl rfl sz_39 rfl (by first | rfl | (simp [allOne, Value.oneCell']; done) | assumption | exact hone) (i := 0) rfl (by first | decide | exact Nat.le_of_ble_eq_true rfl | (simp; done) | omega) ?_) | (refine wl_storeA hS2 rfl rfl sz_39 rfl (by first | rfl | (simp [allOne, Value.oneCell']; done) | assumption | exact hone) (i := 2) rfl (by first | decide | exact Nat.le_of_ble_eq_true rfl | (simp; done) | omega) ?_)
  intro w3 hS4; dsimp only [List.set] at hS4
  clear hS2
  refine wl_assign rfl rfl ?_
  refine wl_nil ?_
  refine qs_seq ?_
  refine wc_sub (L' := [(8, _), (7, _), (6, _), (0, _), (1, _), (2, _)]) (.cons rfl (.cons rfl (.cons rfl (.cons rfl (.cons rfl (.cons rfl .nil)))))) ?_
  refine wc_seq ?_
  refine wc_seq ?_
  refine wc_region ?_
  refine wl_move rfl rfl ?_
  refine wl_not rfl rfl ?_
  refine wl_nil ?_
  refine qs_seq ?_
  refine wc_cond rfl (fun h5 => ?_) (fun h5 => ?_)
  · skip
    have hx := gB_none (W := W) (id := id) (by simpa using h5)
    refine wc_seq ?_
    refine wc_region ?_
    refine wl_assign rfl rfl ?_
    refine wl_nil ?_
    refine qs_seq ?_
    refine wc_ret ?_
    refine qs_then_ret ?_
    refine fin1 (.inr rfl) rfl rfl ?_
    exact ⟨_, rfl, by unfold openE; rw [hx], by unfold openP; rw [hx]; exact hS4.pick [1, 2, 3] rfl⟩
  · skip
    obtain ⟨x, hx, hxd⟩ := gB_some (W := W) (id := id) (by simpa using h5)
    rw [hxd] at hS4
    have ho := gP_ok hx
    have hod := ho.d
    have hor := ho.r
    have how := ho.w
    have hyi := addE_in ho wr 1
    refine wc_skip ?_
    refine qs_seq ?_
    refine wc_seq ?_
    refine wc_seq ?_
    refine wc_region ?_
    refine wl_move rfl rfl ?_
    have hC6 := hS4.split [0, 2] [true, false, true, false] rfl; dsimp only [selF, pickA, nthA, List.cons_append, List.nil_append] at hC6
    refine wl_callV rfl cal_49 rfl (opn1_sp (x := x) hC6) rfl ?_
    rintro e w6 ⟨_, rfl, rfl, hS6⟩; refine ⟨_, rfl, ?_⟩
    replace hS6 := hS6.join rfl; dsimp only [List.dropLast, List.cons_append, List.nil_append] at hS6; clear hC6
    clear hS4
    refine wl_assign rfl rfl ?_
    refine wl_nil ?_
    refine qs_seq ?_
    refine wc_sub (L' := [(9, _), (7, _), (6, _), (0, _), (1, _)]) (.cons rfl (.cons rfl (.cons rfl (.cons rfl (.cons rfl .nil))))) ?_
    refine wc_seq ?_
    refine wc_region ?_
    refine wl_move rfl rfl ?_
    refine wl_neq rfl rfl rfl ?_
    refine wl_nil ?_
    refine qs_seq ?_
    refine wc_condD rfl (fun h7 => ?_) (fun h7 => ?_)
    · skip
      exact absurd rfl h7
    · skip
      refine wc_skip ?_
      refine qs_seq ?_
      refine wc_seq ?_
      refine wc_seq ?_
      refine wc_region ?_
      refine wl_fieldAddr rfl fo_39_1 rfl ?_
      refine wl_load rfl ag_3 (by first | assumption | exact hS6.cell 0 rfl rfl | exact hS6.cell 1 rfl rfl) rfl ?_
      refine wl_eql rfl rfl rfl ?_
      refine wl_move rfl rfl ?_
      refine wl_splitD 26 rfl (fun h8 => ?_) (fun h8 => ?_)
      · skip
        refine wl_guard rfl rfl (decide_eq_true h8) ?_
        refine wl_fieldAddr rfl fo_39_2 rfl ?_
        refine wl_guard rfl rfl (decide_eq_true h8) ?_
        refine wl_load rfl ag_3 (by first | assumption | exact hS6.cell 0 rfl rfl | exact hS6.cell 1 rfl rfl) rfl ?_
        refine wl_guard rfl rfl (decide_eq_true h8) ?_
        refine wl_eql rfl rfl rfl ?_
        refine wl_pickT rfl (decide_eq_true h8) rfl rfl ?_
        refine wl_nil ?_
        refine qs_seq ?_
        refine wc_sub (L' := [(30, _), (7, _), (6, _), (0, _), (1, _)]) (.cons rfl (.cons rfl (.cons rfl (.cons rfl (.cons rfl .nil))))) ?_
        refine wc_condD rfl (fun h9 => ?_) (fun h9 => ?_)
        · skip
          exact (addE_nz ho wr ⟨by assumption, by assumption⟩).elim
        · skip
          refine wc_skip ?_
          refine qs_seq ?_
          refine wc_seq ?_
          refine wc_region ?_
          refine wl_move rfl rfl ?_
          refine wl_move rfl rfl ?_
          refine wl_loadA rfl ag_39 sz_39 (by first | exact hS6.blk 0 rfl | exact hS6.blk 1 rfl) (by first | decide | exact Nat.le_of_ble_eq_true rfl | (simp; done) | omega) rfl rfl ?_
          have hC10 := hS6.split [2] [false, false, true, false] rfl; dsimp only [selF, pickA, nthA, List.cons_append, List.nil_append] at hC10
          refine wl_call cal_47 rfl (pPut_sp hC10 (hG.starL 2 rfl) id (by omega) (addE x wr 1) hyi.1 hyi.2.1 hyi.2.2) rfl ?_
          rintro e w10 ⟨_, rfl, rfl, hS10⟩; refine ⟨_, rfl, ?_⟩
          replace hS10 := hS10.join rfl; dsimp only [List.dropLast, List.cons_append, List.nil_append] at hS10; clear hC10
          clear hS6
          refine wl_nil ?_
          refine qs_seq ?_
          refine wc_seq ?_
          refine wc_region ?_
          refine wl_assign rfl rfl ?_
          refine wl_nil ?_
          refine qs_seq ?_
          refine wc_ret ?_
          refine fin1 (.inr rfl) rfl rfl ?_
          exact ⟨_, rfl, by unfold openE; rw [hx], by unfold openP; rw [hx]; exact hS10.pick [0, 2, 3] rfl⟩
      · skip
        refine wl_unwanted rfl rfl (decide_eq_false h8) rfl ?_
        refine wl_unwanted rfl rfl (decide_eq_false h8) rfl ?_
        refine wl_unwanted rfl rfl (decide_eq_false h8) rfl ?_
        refine wl_pickF rfl (decide_eq_false h8) rfl rfl ?_
        refine wl_nil ?_
        refine qs_seq ?_
        refine wc_sub (L' := [(30, _), (7, _), (6, _), (0, _), (1, _)]) (.cons rfl (.cons rfl (.cons rfl (.cons rfl (.cons rfl .nil))))) ?_
        refine wc_condF rfl ?_
        refine wc_skip ?_
        refine qs_seq ?_
        refine wc_seq ?_
        refine wc_region ?_
        refine wl_move rfl rfl ?_
        refine wl_move rfl rfl ?_
        refine wl_loadA rfl ag_39 sz_39 (by first | exact hS6.blk 0 rfl | exact hS6.blk 1 rfl) (by first | decide | exact Nat.le_of_ble_eq_true rfl | (simp; done) | omega) rfl rfl ?_
        have hC11 := hS6.split [2] [false, false, true, false] rfl; dsimp only [selF, pickA, nthA, List.cons_append, List.nil_append] at hC11
        refine wl_call cal_47 rfl (pPut_sp hC11 (hG.starL 2 rfl) id (by omega) (addE x wr 1) hyi.1 hyi.2.1 hyi.2.2) rfl ?_
        rintro e w11 ⟨_, rfl, rfl, hS11⟩; refine ⟨_, rfl, ?_⟩
        replace hS11 := hS11.join rfl; dsimp only [List.dropLast, List.cons_append, List.nil_append] at hS11; clear hC11
        clear hS6
        refine wl_nil ?_
        refine qs_seq ?_
        refine wc_seq ?_
        refine wc_region ?_
        refine wl_assign rfl rfl ?_
        refine wl_nil ?_
        refine qs_seq ?_
        refine wc_ret ?_
        refine fin1 (.inr rfl) rfl rfl ?_
        exact ⟨_, rfl, by unfold openE; rw [hx], by unfold openP; rw [hx]; exact hS11.pick [0, 2, 3] rfl⟩

theorem pOpen_sp {w : World} {p : Nat} {W : WS} {n : Nat} {F : Th} (hS : Sat w [worldT p W, F]) (hG : Ent F WireG) (hP : PI W n) (hn : n ≤ 1000) (id : Bs) (hid : id.length ≤ 200) (wr : Bool) :
    Calls Tryz.prog 20 #[.iface 25 (ptrV p 0), strV id, .bool wr] w (Ret fun v w' => v = intV (openE W id) ∧ Sat w' [worldT p (openP W id wr), F]) := by
  refine calls_enter Tryz.func20 rfl Tryz.ntmps20 rfl ?_
  refine wc_seq ?_
  refine wc_region ?_
  refine wl_box hS rfl rfl rfl ?_
  intro b1 w1 hS1
  refine wl_assign rfl rfl ?_
  refine wl_nil ?_
  refine qs_seq ?_
  refine wc_seq ?_
  refine wc_region ?_
  refine wl_move rfl rfl ?_
  refine wl_move rfl rfl ?_
  refine wl_makeFunc rfl rfl ?_
  have hC2 := hS1.split [1, 0] [true, true, false] rfl; dsimp only [selF, pickA, nthA, List.cons_append, List.nil_append] at hC2
  refine wl_call cal_48 rfl (changeo_sp hC2 (hG.starL 0 rfl) hP hn id hid) rfl ?_
  rintro e w2 ⟨_, rfl, rfl, hS2⟩; refine ⟨_, rfl, ?_⟩
  replace hS2 := hS2.join rfl; dsimp only [List.dropLast, List.cons_append, List.nil_append] at hS2; clear hC2
  clear hS1
  refine wl_assign rfl rfl ?_
  refine wl_nil ?_
  refine qs_seq ?_
  refine wc_ret ?_
  refine fin1 (.inr rfl) rfl rfl ?_
  exact ⟨_, rfl, rfl, hS2.pick [0, 2] rfl⟩

set_option maxRecDepth 100000 in
theorem changec_sp {w : World} {p : Nat} {W : WS} {n : Nat} {F : Th} {c : Nat} {wr : Bool} (hS : Sat w [worldT p W, blkT c [.bool wr], F]) (hG : Ent F WireG) (hP : PI W n) (hn : n ≤ 1000) (id : Bs) (hid : id.length ≤ 200) :
    Calls Tryz.prog 48 #[.iface 25 (ptrV p 0), strV id, .func (.func 53) #[] #[ptrV c 0]] w (Ret fun v w' => v = intV (closeE W id wr) ∧ Sat w' [worldT p (closeP W id wr), blkT c [.bool wr], F]) := by
  refine calls_enter Tryz.func48 rfl Tryz.ntmps48 rfl ?_
  refine wc_seq ?_
  refine wc_region ?_
  refine wl_assign rfl rfl ?_
  refine wl_nil ?_
  refine qs_seq ?_
  refine wc_seq ?_
  refine wc_region ?_
  refine wl_move rfl rfl ?_
  refine wl_move rfl rfl ?_
  have hC1 := hS.split [0] [true, false, false] rfl; dsimp only [selF, pickA, nthA, List.cons_append, List.nil_append] at hC1
  refine wl_call cal_12 rfl (pGet_sp hC1 (hG.starL 1 rfl) id (by omega) (hP.len _)) rfl ?_
  rintro e w1 ⟨_, rfl, rfl, hS1⟩; refine ⟨_, rfl, ?_⟩
  replace hS1 := hS1.join rfl; dsimp only [List.dropLast, List.cons_append, List.nil_append] at hS1; clear hC1
  refine wl_move rfl rfl ?_
  refine wl_extract rfl rfl rfl ?_
  refine wl_extract rfl rfl rfl ?_
  refine wl_alloc hS1 zr_39 rfl rfl ?_
  intro b2 w2 hS2
  clear hS1
  first | (refine wl_storeA hS2 rfl rfl sz_39 rfl (by first | rfl | (simp [allOne, Value.oneCell']; done) | assumption | exact hone) (i := 0) rfl (by first | decide | exact Nat.le_of_ble_eq_true rfl | (simp; done) | omega) ?_) | (refine wl_storeA hS2 rfl rfl sz_39 rfl (by first | rfl | (simp [allOne, Value.oneCell']; done) | assumption | exact hone) (i := 2) rfl (by first | decide | exact Nat.le_of_ble_eq_true rfl | (simp; done) | omega) ?_)
  intro w3 hS4; dsimp only [List.set] at hS4
  clear hS2
  refine wl_assign rfl rfl ?_
  refine wl_nil ?_
  refine qs_seq ?_
  refine wc_sub (L' := [(8, _), (7, _), (6, _), (0, _), (1, _), (2, _)]) (.cons rfl (.cons rfl (.cons rfl (.cons rfl (.cons rfl (.cons rfl .nil)))))) ?_
  refine wc_seq ?_
  refine wc_seq ?_
  refine wc_region ?_
  refine wl_move rfl rfl ?_
  refine wl_not rfl rfl ?_
  refine wl_nil ?_
  refine qs_seq ?_
  refine wc_cond rfl (fun h5 => ?_) (fun h5 => ?_)
  · skip
    have hx := gB_none (W := W) (id := id) (by simpa using h5)
    refine wc_seq ?_
    refine wc_region ?_
    refine wl_assign rfl rfl ?_
    refine wl_nil ?_
    refine qs_seq ?_
    refine wc_ret ?_
    refine qs_then_ret ?_
    refine fin1 (.inr rfl) rfl rfl ?_
    exact ⟨_, rfl, by unfold closeE; rw [hx], by unfold closeP; rw [hx]; exact hS4.pick [1, 2, 3] rfl⟩
  · skip
    obtain ⟨x, hx, hxd⟩ := gB_some (W := W) (id := id) (by simpa using h5)
    rw [hxd] at hS4
    have ho := gP_ok hx
    have hod := ho.d
    have hor := ho.r
    have how := ho.w
    have hyi := addE_in ho wr (-1)
    refine wc_skip ?_
    refine qs_seq ?_
    refine wc_seq ?_
    refine wc_seq ?_
    refine wc_region ?_
    refine wl_move rfl rfl ?_
    have hC6 := hS4.split [0, 2] [true, false, true, false] rfl; dsimp only [selF, pickA, nthA, List.cons_append, List.nil_append] at hC6
    refine wl_callV rfl cal_53 rfl (cls1_sp (x := x) hC6 ho.r ho.w) rfl ?_
    rintro e w6 ⟨_, rfl, rfl, hS6⟩; refine ⟨_, rfl, ?_⟩
    replace hS6 := hS6.join rfl; dsimp only [List.dropLast, List.cons_append, List.nil_append] at hS6; clear hC6
    clear hS4
    refine wl_assign rfl rfl ?_
    refine wl_nil ?_
    refine qs_seq ?_
    refine wc_sub (L' := [(9, _), (7, _), (6, _), (0, _), (1, _)]) (.cons rfl (.cons rfl (.cons rfl (.cons rfl (.cons rfl .nil))))) ?_
    refine wc_seq ?_
    refine wc_region ?_
    refine wl_move rfl rfl ?_
    refine wl_neq rfl rfl rfl ?_
    refine wl_nil ?_
    refine qs_seq ?_
    refine wc_condD rfl (fun h7 => ?_) (fun h7 => ?_)
    · skip
      have h0 : endE x wr = 0 := Decidable.byContradiction fun q => h7 (by rw [if_neg q])
      refine wc_seq ?_
      refine wc_region ?_
      refine wl_move rfl rfl ?_
      refine wl_assign rfl rfl ?_
      refine wl_nil ?_
      refine qs_seq ?_
      refine wc_ret ?_
      refine qs_then_ret ?_
      refine fin1 (.inr rfl) rfl rfl ?_
      exact ⟨_, rfl, by unfold closeE; rw [hx], by unfold closeP; rw [hx]; dsimp only; rw [if_pos h0]; exact hS6.pick [2, 1, 3] rfl⟩
    · skip
      have h0 : ¬ endE x wr = 0 := fun q => absurd h7 (by rw [if_pos q]; decide)
      rw [if_neg h0] at hS6
      refine wc_skip ?_
      refine qs_seq ?_
      refine wc_seq ?_
      refine wc_seq ?_
      refine wc_region ?_
      refine wl_fieldAddr rfl fo_39_1 rfl ?_
      refine wl_load rfl ag_3 (by first | assumption | exact hS6.cell 0 rfl rfl | exact hS6.cell 1 rfl rfl) rfl ?_
      refine wl_eql rfl rfl rfl ?_
      refine wl_move rfl rfl ?_
      refine wl_splitD 26 rfl (fun h8 => ?_) (fun h8 => ?_)
      · skip
        refine wl_guard rfl rfl (decide_eq_true h8) ?_
        refine wl_fieldAddr rfl fo_39_2 rfl ?_
        refine wl_guard rfl rfl (decide_eq_true h8) ?_
        refine wl_load rfl ag_3 (by first | assumption | exact hS6.cell 0 rfl rfl | exact hS6.cell 1 rfl rfl) rfl ?_
        refine wl_guard rfl rfl (decide_eq_true h8) ?_
        refine wl_eql rfl rfl rfl ?_
        refine wl_pickT rfl (decide_eq_true h8) rfl rfl ?_
        refine wl_nil ?_
        refine qs_seq ?_
        refine wc_sub (L' := [(30, _), (7, _), (6, _), (0, _), (1, _)]) (.cons rfl (.cons rfl (.cons rfl (.cons rfl (.cons rfl .nil))))) ?_
        refine wc_condD rfl (fun h9 => ?_) (fun h9 => ?_)
        · skip
          refine wc_seq ?_
          refine wc_region ?_
          refine wl_move rfl rfl ?_
          refine wl_move rfl rfl ?_
          refine wl_concat rfl rfl (by first | omega | (simp; omega)) rfl ?_
          have hC10 := hS6.split [2] [false, false, true, false] rfl; dsimp only [selF, pickA, nthA, List.cons_append, List.nil_append] at hC10
          refine wl_invoke (vs := [strV (kP id), strV []]) rfl (imeth_Put p) cal_8 rfl (put_sp hC10 (kP id) [] (by rw [kP_len]; omega) (by simp)) rfl ?_
          rintro e w10 ⟨_, rfl, rfl, hS10⟩; refine ⟨_, rfl, ?_⟩
          replace hS10 := hS10.join rfl; dsimp only [List.dropLast, List.cons_append, List.nil_append] at hS10; clear hC10
          clear hS6
          refine wl_nil ?_
          refine qs_seq ?_
          refine wc_seq ?_
          refine wc_region ?_
          refine wl_assign rfl rfl ?_
          refine wl_nil ?_
          refine qs_seq ?_
          refine wc_ret ?_
          refine qs_then_ret ?_
          refine fin1 (.inr rfl) rfl rfl ?_
          exact ⟨_, rfl, by unfold closeE; rw [hx]; dsimp only; rw [if_neg h0], by unfold closeP; rw [hx]; dsimp only; rw [if_neg h0, if_pos ⟨by assumption, by assumption⟩]; exact hS10.pick [0, 2, 3] rfl⟩
        · skip
          refine wc_skip ?_
          refine qs_seq ?_
          refine wc_seq ?_
          refine wc_region ?_
          refine wl_move rfl rfl ?_
          refine wl_move rfl rfl ?_
          refine wl_loadA rfl ag_39 sz_39 (by first | exact hS6.blk 0 rfl | exact hS6.blk 1 rfl) (by first | decide | exact Nat.le_of_ble_eq_true rfl | (simp; done) | omega) rfl rfl ?_
          have hC11 := hS6.split [2] [false, false, true, false] rfl; dsimp only [selF, pickA, nthA, List.cons_append, List.nil_append] at hC11
          refine wl_call cal_47 rfl (pPut_sp hC11 (hG.starL 2 rfl) id (by omega) (addE x wr (-1)) hyi.1 hyi.2.1 hyi.2.2) rfl ?_
          rintro e w11 ⟨_, rfl, rfl, hS11⟩; refine ⟨_, rfl, ?_⟩
          replace hS11 := hS11.join rfl; dsimp only [List.dropLast, List.cons_append, List.nil_append] at hS11; clear hC11
          clear hS6
          refine wl_nil ?_
          refine qs_seq ?_
          refine wc_seq ?_
          refine wc_region ?_
          refine wl_assign rfl rfl ?_
          refine wl_nil ?_
          refine qs_seq ?_
          refine wc_ret ?_
          refine fin1 (.inr rfl) rfl rfl ?_
          exact ⟨_, rfl, by unfold closeE; rw [hx]; dsimp only; rw [if_neg h0], by unfold closeP; rw [hx]; dsimp only; rw [if_neg h0, if_neg (by rintro ⟨q1, q2⟩; first | omega | contradiction)]; exact hS11.pick [0, 2, 3] rfl⟩
      · skip
        refine wl_unwanted rfl rfl (decide_eq_false h8) rfl ?_
        refine wl_unwanted rfl rfl (decide_eq_false h8) rfl ?_
        refine wl_unwanted rfl rfl (decide_eq_false h8) rfl ?_
        refine wl_pickF rfl (decide_eq_false h8) rfl rfl ?_
        refine wl_nil ?_
        refine qs_seq ?_
        refine wc_sub (L' := [(30, _), (7, _), (6, _), (0, _), (1, _)]) (.cons rfl (.cons rfl (.cons rfl (.cons rfl (.cons rfl .nil))))) ?_
        refine wc_condF rfl ?_
        refine wc_skip ?_
        refine qs_seq ?_
        refine wc_seq ?_
        refine wc_region ?_
        refine wl_move rfl rfl ?_
        refine wl_move rfl rfl ?_
        refine wl_loadA rfl ag_39 sz_39 (by first | exact hS6.blk 0 rfl | exact hS6.blk 1 rfl) (by first | decide | exact Nat.le_of_ble_eq_true rfl | (simp; done) | omega) rfl rfl ?_
        have hC12 := hS6.split [2] [false, false, true, false] rfl; dsimp only [selF, pickA, nthA, List.cons_append, List.nil_append] at hC12
        refine wl_call cal_47 rfl (pPut_sp hC12 (hG.starL 2 rfl) id (by omega) (addE x wr (-1)) hyi.1 hyi.2.1 hyi.2.2) rfl ?_
        rintro e w12 ⟨_, rfl, rfl, hS12⟩; refine ⟨_, rfl, ?_⟩
        replace hS12 := hS12.join rfl; dsimp only [List.dropLast, List.cons_append, List.nil_append] at hS12; clear hC12
        clear hS6
        refine wl_nil ?_
        refine qs_seq ?_
        refine wc_seq ?_
        refine wc_region ?_
        refine wl_assign rfl rfl ?_
        refine wl_nil ?_
        refine qs_seq ?_
        refine wc_ret ?_
        refine fin1 (.inr rfl) rfl rfl ?_
        exact ⟨_, rfl, by unfold closeE; rw [hx]; dsimp only; rw [if_neg h0], by unfold closeP; rw [hx]; dsimp only; rw [if_neg h0, if_neg (by rintro ⟨q1, q2⟩; first | omega | contradiction)]; exact hS12.pick [0, 2, 3] rfl⟩

theorem pClose_sp {w : World} {p : Nat} {W : WS} {n : Nat} {F : Th} (hS : Sat w [worldT p W, F]) (hG : Ent F WireG) (hP : PI W n) (hn : n ≤ 1000) (id : Bs) (hid : id.length ≤ 200) (wr : Bool) :
    Calls Tryz.prog 25 #[.iface 25 (ptrV p 0), strV id, .bool wr] w (Ret fun v w' => v = intV (closeE W id wr) ∧ Sat w' [worldT p (closeP W id wr), F]) := by
  refine calls_enter Tryz.func25 rfl Tryz.ntmps25 rfl ?_
  refine wc_seq ?_
  refine wc_region ?_
  refine wl_box hS rfl rfl rfl ?_
  intro b1 w1 hS1
  refine wl_assign rfl rfl ?_
  refine wl_nil ?_
  refine qs_seq ?_
  refine wc_seq ?_
  refine wc_region ?_
  refine wl_move rfl rfl ?_
  refine wl_move rfl rfl ?_
  refine wl_makeFunc rfl rfl ?_
  have hC2 := hS1.split [1, 0] [true, true, false] rfl; dsimp only [selF, pickA, nthA, List.cons_append, List.nil_append] at hC2
  refine wl_call cal_48 rfl (changec_sp hC2 (hG.starL 0 rfl) hP hn id hid) rfl ?_
  rintro e w2 ⟨_, rfl, rfl, hS2⟩; refine ⟨_, rfl, ?_⟩
  replace hS2 := hS2.join rfl; dsimp only [List.dropLast, List.cons_append, List.nil_append] at hS2; clear hC2
  clear hS1
  refine wl_assign rfl rfl ?_
  refine wl_nil ?_
  refine qs_seq ?_
  refine wc_ret ?_
  refine fin1 (.inr rfl) rfl rfl ?_
  exact ⟨_, rfl, rfl, hS2.pick [0, 2] rfl⟩

end Go.Proofs.YtgnhfhhmipcgcaaGreatDoor
