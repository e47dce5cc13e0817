/- names: Parent -/
import Derived.Test.YtkaikhcpcbjkcaaGreatDoorNm4
import Derived.Test.YtkaikhcpcbjkcaaGreatDoorMap
import Derived.Test.YtkaikhcpcbjkcaaGreatDoorNm1
import Derived.Test.YtkaikhcpcbjkcaaGreatDoorRng
import Derived.Test.YtkaikhcpcbjkcaaGreatDoorWm
namespace Go.Proofs.YtkaikhcpcbjkcaaGreatDoor
open Go.RowKit M
set_option linter.unusedVariables false
def lastP (path : Bs) : Bs := (partsL path).getLast?.getD []
theorem lastP_len (path : Bs) : (lastP path).length ≤ path.length := by
  unfold lastP
  cases h : (partsL path).getLast? with
  | none => simp
  | some x => exact splitB_len (List.mem_filter.1 (List.mem_of_getLast? h)).1
def walkP (W : WS) : Bs → Bs → List Bs → Bs × Bs × Int
  | d, nm, [] => (d, nm, 0)
  | d, nm, p :: ps => if nm ≠ [] then (if (stepV W d nm).2 ≠ 0 then ([], [], (stepV W d nm).2) else walkP W (stepV W d nm).1 p ps) else walkP W d p ps
theorem walkP_app (W : WS) : ∀ (ps qs : List Bs) (d nm : Bs), walkP W d nm (ps ++ qs) = if (walkP W d nm ps).2.2 ≠ 0 then ([], [], (walkP W d nm ps).2.2) else walkP W (walkP W d nm ps).1 (walkP W d nm ps).2.1 qs
  | [], qs, d, nm => by simp [walkP]
  | p :: ps, qs, d, nm => by
    rw [List.cons_append, walkP, walkP]
    by_cases h : nm ≠ []
    · rw [if_pos h, if_pos h]
      by_cases h2 : (stepV W d nm).2 ≠ 0
      · rw [if_pos h2, if_pos h2]; simp [h2]
      · rw [if_neg h2, if_neg h2]; exact walkP_app W ps qs _ _
    · rw [if_neg h, if_neg h]; exact walkP_app W ps qs _ _
theorem list_cut {xs : List Bs} {i : Nat} {x : Bs} (hx : xs[i]? = some x) : xs = xs.take i ++ x :: xs.drop (i + 1) := by
  have hi := (List.getElem?_eq_some_iff.1 hx).1
  rw [List.getElem?_eq_getElem hi] at hx
  cases hx
  rw [← List.drop_eq_getElem_cons hi, List.take_append_drop]
theorem walkP_take {W : WS} {d nm : Bs} {xs : List Bs} {i : Nat} {x : Bs} (hx : xs[i]? = some x) (h0 : (walkP W d nm (xs.take i)).2.2 = 0) :
    walkP W d nm (xs.take (i + 1)) = walkP W (walkP W d nm (xs.take i)).1 (walkP W d nm (xs.take i)).2.1 [x] := by
  rw [List.take_add_one, hx, Option.toList_some, walkP_app, if_neg (by simp [h0])]
theorem walkP_err {W : WS} {d nm : Bs} {xs : List Bs} {i : Nat} {x : Bs} (hx : xs[i]? = some x) (h0 : (walkP W d nm (xs.take i)).2.2 = 0) (hn : (walkP W d nm (xs.take i)).2.1 ≠ []) (hs : (stepV W (walkP W d nm (xs.take i)).1 (walkP W d nm (xs.take i)).2.1).2 ≠ 0) :
    walkP W d nm xs = ([], [], (stepV W (walkP W d nm (xs.take i)).1 (walkP W d nm (xs.take i)).2.1).2) := by
  conv => lhs; rw [list_cut hx]
  rw [walkP_app, if_neg (by simp [h0]), walkP, if_pos hn, if_pos hs]
theorem walkP_len {W : WS} {m : Nat} (h : PI W m) : ∀ {ps : List Bs} {d nm : Bs}, d.length ≤ 900 → (walkP W d nm ps).1.length ≤ 900
  | [], d, nm, hd => hd
  | p :: ps, d, nm, hd => by
    unfold walkP
    split
    · split
      · simp
      · exact walkP_len h (stepV_len h hd)
    · exact walkP_len h hd
theorem walkP_nm {W : WS} {M : Nat} : ∀ {ps : List Bs} {d nm : Bs}, nm.length ≤ M → (∀ p ∈ ps, p.length ≤ M) → (walkP W d nm ps).2.1.length ≤ M
  | [], d, nm, hn, _ => hn
  | p :: ps, d, nm, hn, hp => by
    unfold walkP
    split
    · split
      · simp
      · exact walkP_nm (hp p (by simp)) fun q hq => hp q (List.mem_cons_of_mem _ hq)
    · exact walkP_nm (hp p (by simp)) fun q hq => hp q (List.mem_cons_of_mem _ hq)
theorem partsL_le {path x : Bs} (h : x ∈ partsL path) : x.length ≤ path.length := splitB_len (List.mem_filter.1 h).1
def parV (W : WS) (cwd path : Bs) : Bs × Bs × Int :=
  if begE path ≠ 0 then ([], [], begE path) else if nameB (lastP path) = false then ([], [], 16) else
    if (walkP W (begS cwd path) [] (partsL path)).2.2 ≠ 0 then ([], [], (walkP W (begS cwd path) [] (partsL path)).2.2) else
      if dirE W (walkP W (begS cwd path) [] (partsL path)).1 ≠ 0 then ([], [], dirE W (walkP W (begS cwd path) [] (partsL path)).1) else ((walkP W (begS cwd path) [] (partsL path)).1, (walkP W (begS cwd path) [] (partsL path)).2.1, 0)
def pzT (bd bn be : Nat) (e : Int) : Th := exT fun q : Bs × Bs => starL [blkT bd [strV q.1], blkT bn [strV q.2], blkT be [intV e]]
theorem pzT_open {w : World} {bd bn be : Nat} {e : Int} {As : List Th} (h : Sat w (pzT bd bn be e :: As)) : ∃ d n, Sat w (blkT bd [strV d] :: blkT bn [strV n] :: blkT be [intV e] :: As) := by
  obtain ⟨q, h⟩ := h.ex
  exact ⟨q.1, q.2, h.flat⟩
theorem pzT_shut {w : World} {bd bn be : Nat} {e : Int} {d n : Bs} {As : List Th} (h : Sat w (blkT bd [strV d] :: blkT bn [strV n] :: blkT be [intV e] :: As)) : Sat w (pzT bd bn be e :: As) :=
  Sat.ex_intro (f := fun q : Bs × Bs => starL [blkT bd [strV q.1], blkT bn [strV q.2], blkT be [intV e]]) (d, n) (Sat.fold (As := [blkT bd [strV d], blkT bn [strV n], blkT be [intV e]]) h)
set_option maxRecDepth 100000 in
theorem pback_sp {w : World} {be bd bn : Nat} {e : Int} {d nm : Bs} {F : Th} (hS : Sat w [blkT be [intV e], blkT bd [strV d], blkT bn [strV nm], F]) :
    CallsDIn Fence.wide 0 Tryz.prog 51 #[ptrV be 0, ptrV bd 0, ptrV bn 0] .returning w (fun e' u' w' => u' = .returning ∧ Ret (fun v w' => Sat w' [blkT be [intV e], blkT bd [strV (if e = 0 then d else [])], blkT bn [strV (if e = 0 then nm else [])], F]) e' w') := by
  refine callsDIn_enter Tryz.func51 rfl Tryz.ntmps51 rfl ?_
  refine wc_seq ?_
  refine wc_region ?_
  refine wl_load rfl ag_27 (by first | assumption | exact hS.cell 0 rfl rfl | exact hS.cell 1 rfl rfl | exact hS.cell 2 rfl rfl) rfl ?_
  refine wl_neq rfl rfl rfl ?_
  refine wl_nil ?_
  refine qs_seq ?_
  refine wc_condD rfl (fun h1 => ?_) (fun h1 => ?_)
  · skip
    refine wc_region ?_
    first | (refine wl_store hS rfl rfl sz_9 (by first | rfl | assumption) (i := 0) rfl (by first | decide | exact Nat.le_of_ble_eq_true rfl | (simp; done) | omega) ?_) | (refine wl_store hS rfl rfl sz_9 (by first | rfl | assumption) (i := 1) rfl (by first | decide | exact Nat.le_of_ble_eq_true rfl | (simp; done) | omega) ?_) | (refine wl_store hS rfl rfl sz_9 (by first | rfl | assumption) (i := 2) rfl (by first | decide | exact Nat.le_of_ble_eq_true rfl | (simp; done) | omega) ?_)
    intro w2 hS3; dsimp only [List.set] at hS3
    first | (refine wl_store hS3 rfl rfl sz_9 (by first | rfl | assumption) (i := 0) rfl (by first | decide | exact Nat.le_of_ble_eq_true rfl | (simp; done) | omega) ?_) | (refine wl_store hS3 rfl rfl sz_9 (by first | rfl | assumption) (i := 1) rfl (by first | decide | exact Nat.le_of_ble_eq_true rfl | (simp; done) | omega) ?_) | (refine wl_store hS3 rfl rfl sz_9 (by first | rfl | assumption) (i := 2) rfl (by first | decide | exact Nat.le_of_ble_eq_true rfl | (simp; done) | omega) ?_)
    intro w4 hS5; dsimp only [List.set] at hS5
    clear hS3
    refine wl_nil ?_
    refine fin0 (.inl rfl) rfl ?_
    exact ⟨_, rfl, by rw [if_neg (by assumption), if_neg (by assumption)]; exact hS5⟩
  refine wc_skip ?_
  refine fin0 (.inl rfl) rfl ?_
  exact ⟨_, rfl, by rw [if_pos (Decidable.not_not.1 (by assumption)), if_pos (Decidable.not_not.1 (by assumption))]; exact hS⟩
set_option maxRecDepth 100000 in
set_option maxHeartbeats 3200000 in
theorem parent_sp {w : World} {p : Nat} {W : WS} {m : Nat} {F : Th} (hS : Sat w [worldT p W, F]) (hG : Ent F WireG) (hP : PI W m) (hm : m ≤ 900) (cwd path : Bs) (hc : cwd.length ≤ 900) (hp : path.length ≤ 3000000) :
    Calls Tryz.prog 12 #[.iface 25 (ptrV p 0), strV cwd, strV path] w (Ret fun v w' => v = .tuple #[strV (parV W cwd path).1, strV (parV W cwd path).2.1, intV (parV W cwd path).2.2] ∧ Sat w' [worldT p W, F]) := by
 refine calls_enterM Tryz.func12 rfl Tryz.ntmps12 rfl ?_
 refine wc_seq (wc_region ?_)
 refine wl_box hS rfl rfl rfl ?_
 intro bw wbw hSbw
 refine wl_alloc hSbw zr_9 rfl rfl ?_
 intro bd w1 hS1
 clear hSbw
 refine wl_alloc hS1 zr_9 rfl rfl ?_
 intro bn w2 hS2
 clear hS1
 refine wl_alloc hS2 zr_27 rfl rfl ?_
 intro be w3 hS3
 clear hS2
 refine wl_nil (qs_seq (wc_seq (wc_region ?_)))
 refine wl_makeFunc rfl rfl ?_
 refine wl_defer rfl ?_
 refine qsD_seq ?_
 refine wcD_seq ?_
 refine wcD_seq ?_
 refine wcD_region ?_
 refine wl_move rfl rfl (wl_move rfl rfl ?_)
 have hC4 := hS3.split [] [false, false, false, false, false, false] rfl; dsimp only [selF, pickA, nthA, List.cons_append, List.nil_append] at hC4
 refine wl_call cal_48 rfl (begin_sp hC4 cwd path (by omega)) rfl ?_
 rintro e w4 ⟨_, rfl, rfl, hS4⟩; refine ⟨_, rfl, ?_⟩
 replace hS4 := hS4.join rfl; dsimp only [List.dropLast, List.cons_append, List.nil_append] at hS4; clear hC4
 clear hS3
 refine wl_move rfl rfl (wl_extract rfl rfl rfl (wl_extract rfl rfl rfl ?_))
 first | (refine wl_store hS4 rfl rfl sz_9 (by first | rfl | assumption) (i := 0) rfl (by first | decide | exact Nat.le_of_ble_eq_true rfl | (simp; done) | omega) ?_) | (refine wl_store hS4 rfl rfl sz_9 (by first | rfl | assumption) (i := 1) rfl (by first | decide | exact Nat.le_of_ble_eq_true rfl | (simp; done) | omega) ?_) | (refine wl_store hS4 rfl rfl sz_9 (by first | rfl | assumption) (i := 2) rfl (by first | decide | exact Nat.le_of_ble_eq_true rfl | (simp; done) | omega) ?_) | (refine wl_store hS4 rfl rfl sz_9 (by first | rfl | assumption) (i := 3) rfl (by first | decide | exact Nat.le_of_ble_eq_true rfl | (simp; done) | omega) ?_)
 intro w5 hS6; dsimp only [List.set] at hS6
 clear hS4
 first | (refine wl_store hS6 rfl rfl sz_27 (by first | rfl | assumption) (i := 0) rfl (by first | decide | exact Nat.le_of_ble_eq_true rfl | (simp; done) | omega) ?_) | (refine wl_store hS6 rfl rfl sz_27 (by first | rfl | assumption) (i := 1) rfl (by first | decide | exact Nat.le_of_ble_eq_true rfl | (simp; done) | omega) ?_) | (refine wl_store hS6 rfl rfl sz_27 (by first | rfl | assumption) (i := 2) rfl (by first | decide | exact Nat.le_of_ble_eq_true rfl | (simp; done) | omega) ?_) | (refine wl_store hS6 rfl rfl sz_27 (by first | rfl | assumption) (i := 3) rfl (by first | decide | exact Nat.le_of_ble_eq_true rfl | (simp; done) | omega) ?_)
 intro w7 hS8; dsimp only [List.set] at hS8
 clear hS6
 refine wl_nil ?_
 refine qsD_of ?_
 refine qsD_seq ?_
 refine wcD_sub (L' := [(8, _), (7, _), (6, _), (3, _), (2, _)]) (.cons rfl (.cons rfl (.cons rfl (.cons rfl (.cons rfl .nil))))) ?_
 refine wcD_seq ?_
 refine wcD_region ?_
 refine wl_load rfl ag_27 (by first | assumption | exact hS8.cell 0 rfl rfl | exact hS8.cell 1 rfl rfl | exact hS8.cell 2 rfl rfl | exact hS8.cell 3 rfl rfl) rfl ?_
 refine wl_neq rfl rfl rfl ?_
 refine wl_nil ?_
 refine qsD_of ?_
 refine qsD_seq ?_
 refine wcD_condD rfl (fun h9 => ?_) (fun h9 => ?_)
 ·have hbt : begE path ≠ 0 := h9
  refine wcD_seq ?_
  have hS10 := hS8.drew
  refine wcD_draws mix ?_
  refine dr_vc (sp := [3, 4, 5]) [0, 1, 2, 3, 4, 5] (by kernel_rfl) ?_
  refine vc_q rfl rfl rfl (ev_load rfl ag_9 (by first | assumption | exact hS10.cell 0 rfl rfl | exact hS10.cell 1 rfl rfl | exact hS10.cell 2 rfl rfl | exact hS10.cell 3 rfl rfl)) ?_
  refine vc_q rfl rfl rfl (ev_load rfl ag_9 (by first | assumption | exact hS10.cell 0 rfl rfl | exact hS10.cell 1 rfl rfl | exact hS10.cell 2 rfl rfl | exact hS10.cell 3 rfl rfl)) ?_
  refine vc_q rfl rfl rfl (ev_load rfl ag_27 (by first | assumption | exact hS10.cell 0 rfl rfl | exact hS10.cell 1 rfl rfl | exact hS10.cell 2 rfl rfl | exact hS10.cell 3 rfl rfl)) ?_
  refine vc_s rfl rfl rfl rfl rfl rfl ?_
  first | (refine wl_store hS10 rfl rfl sz_9 (by first | rfl | assumption) (i := 0) rfl (by first | decide | exact Nat.le_of_ble_eq_true rfl | (simp; done) | omega) ?_) | (refine wl_store hS10 rfl rfl sz_9 (by first | rfl | assumption) (i := 1) rfl (by first | decide | exact Nat.le_of_ble_eq_true rfl | (simp; done) | omega) ?_) | (refine wl_store hS10 rfl rfl sz_9 (by first | rfl | assumption) (i := 2) rfl (by first | decide | exact Nat.le_of_ble_eq_true rfl | (simp; done) | omega) ?_) | (refine wl_store hS10 rfl rfl sz_9 (by first | rfl | assumption) (i := 3) rfl (by first | decide | exact Nat.le_of_ble_eq_true rfl | (simp; done) | omega) ?_)
  intro w11 hS12; dsimp only [List.set] at hS12
  clear hS10
  refine vc_e0 (.cons (.inl ⟨rfl, (ev_load rfl ag_27 (by first | assumption | exact hS12.cell 0 rfl rfl | exact hS12.cell 1 rfl rfl | exact hS12.cell 2 rfl rfl | exact hS12.cell 3 rfl rfl))⟩) (.cons (.inl ⟨rfl, (ev_load rfl ag_9 (by first | assumption | exact hS12.cell 0 rfl rfl | exact hS12.cell 1 rfl rfl | exact hS12.cell 2 rfl rfl | exact hS12.cell 3 rfl rfl))⟩) (.skip (by kernel_rfl) .nil))) ?_
  refine vc_s rfl rfl rfl rfl rfl rfl ?_
  first | (refine wl_store hS12 rfl rfl sz_9 (by first | rfl | assumption) (i := 0) rfl (by first | decide | exact Nat.le_of_ble_eq_true rfl | (simp; done) | omega) ?_) | (refine wl_store hS12 rfl rfl sz_9 (by first | rfl | assumption) (i := 1) rfl (by first | decide | exact Nat.le_of_ble_eq_true rfl | (simp; done) | omega) ?_) | (refine wl_store hS12 rfl rfl sz_9 (by first | rfl | assumption) (i := 2) rfl (by first | decide | exact Nat.le_of_ble_eq_true rfl | (simp; done) | omega) ?_) | (refine wl_store hS12 rfl rfl sz_9 (by first | rfl | assumption) (i := 3) rfl (by first | decide | exact Nat.le_of_ble_eq_true rfl | (simp; done) | omega) ?_)
  intro w13 hS14; dsimp only [List.set] at hS14
  clear hS12
  refine vc_e0 (.cons (.inl ⟨rfl, (ev_load rfl ag_27 (by first | assumption | exact hS14.cell 0 rfl rfl | exact hS14.cell 1 rfl rfl | exact hS14.cell 2 rfl rfl | exact hS14.cell 3 rfl rfl))⟩) (.skip (by kernel_rfl) (.skip (by kernel_rfl) .nil))) ?_
  refine vc_s rfl rfl rfl rfl rfl rfl ?_
  first | (refine wl_store hS14 rfl rfl sz_27 (by first | rfl | assumption) (i := 0) rfl (by first | decide | exact Nat.le_of_ble_eq_true rfl | (simp; done) | omega) ?_) | (refine wl_store hS14 rfl rfl sz_27 (by first | rfl | assumption) (i := 1) rfl (by first | decide | exact Nat.le_of_ble_eq_true rfl | (simp; done) | omega) ?_) | (refine wl_store hS14 rfl rfl sz_27 (by first | rfl | assumption) (i := 2) rfl (by first | decide | exact Nat.le_of_ble_eq_true rfl | (simp; done) | omega) ?_) | (refine wl_store hS14 rfl rfl sz_27 (by first | rfl | assumption) (i := 3) rfl (by first | decide | exact Nat.le_of_ble_eq_true rfl | (simp; done) | omega) ?_)
  intro w15 hS16; dsimp only [List.set] at hS16
  clear hS14
  refine vc_e0 (.skip (by kernel_rfl) (.skip (by kernel_rfl) (.skip (by kernel_rfl) .nil))) ?_
  refine VC.nil ?_
  refine qsD_of ?_
  refine qsD_seq ?_
  refine wcD_ret ?_
  refine qsD_then_ret ?_
  refine finP (.inr rfl) (fun a9 ha9 => ?_)
  have hC9 := hS16.split [0, 2, 1] [true, true, true, false, false, false] rfl; dsimp only [selF, pickA, nthA, List.cons_append, List.nil_append] at hC9
  refine leavesM_fn cal_51 (pback_sp hC9) ?_
  rintro v0 w9 hq9
  replace hq9 := hq9.join rfl; dsimp only [List.dropLast, List.cons_append, List.nil_append] at hq9
  refine ⟨_, res_three rfl (resC rfl ag_9 (hq9.cell 1 rfl rfl)) (resC rfl ag_9 (hq9.cell 2 rfl rfl)) (resC rfl ag_27 (hq9.cell 0 rfl rfl)) { tmps := a9.tmps, defers := [] } ⟨ha9.size, rfl, ha9.get⟩, ?_⟩
  exact ⟨_, rfl, by unfold parV; rw [if_neg hbt, if_neg hbt, if_pos hbt], hq9.pick [4, 5] rfl⟩
 have hb0 : begE path = 0 := Decidable.not_not.1 h9
 refine wcD_skip ?_
 refine qsD_seq ?_
 refine wcD_seq ?_
 refine wcD_seq ?_
 refine wcD_region ?_
 refine wl_move rfl rfl ?_
 have hC17 := hS8.split [] [false, false, false, false, false, false] rfl; dsimp only [selF, pickA, nthA, List.cons_append, List.nil_append] at hC17
 refine wl_call cal_49 rfl (parts_sp hC17 path) rfl ?_
 rintro e w17 ⟨_, rfl, c, rfl, hS17⟩; refine ⟨_, rfl, ?_⟩
 replace hS17 := hS17.join rfl; dsimp only [List.dropLast, List.cons_append, List.nil_append] at hS17; clear hC17
 clear hS8
 refine wl_nil ?_
 refine qsD_of ?_
 refine qsD_seq ?_
 refine wcD_block ?_
 refine wcD_rangeFuncB (caps := [ptrV c 0]) rfl cal_89 ?_
 intro rec hr1 hr2 hr3 hr4 hr5 htn htf
 have hE := hS17.enter_loop rec
 have hE2 := hE.split [0, 1, 4, 2] [true, true, true, false, true, false, false, false, false] rfl; dsimp only [selF, pickA, nthA, List.cons_append, List.nil_append] at hE2
 have hE3 := Sat.fold (As := [loopT (w17.heap.size + 1) rec, deferT w17.heap.size, blkT bn [strV (((partsL path).take 0).getLast?.getD [])]]) hE2
 refine (parts_it (J := fun i : Nat => starL [loopT (w17.heap.size + 1) rec, deferT w17.heap.size, blkT bn [strV (((partsL path).take i).getLast?.getD [])]]) (Z := pureT False) hE3 (by omega) ?_).mono ?_
 rotate_left
 ·rintro e w3 ⟨v0, rfl, hq3⟩
  rcases hq3 with ⟨hw3⟩ | ⟨hw3⟩
  ·have hw4 := (hw3.join rfl); dsimp only [List.dropLast, List.cons_append, List.nil_append] at hw4
   have hw4 := hw4.flat; dsimp only [List.cons_append, List.nil_append] at hw4
   refine ⟨⟨v0, rfl⟩, rec, hw4.loop 0 rfl, by rw [hr1]; simp, .inl ⟨hr2, ?_⟩⟩
   have hw5 := hw4.loop_put 0 rfl (rec' := { (rec : Go.Loop) with state := .exhausted }); dsimp only [List.set] at hw5
   rw [List.take_length] at hw5
   refine qsD_block_normal ?_
   refine qsD_seq ?_
   refine wcD_seq ?_
   refine wcD_seq ?_
   refine wcD_region ?_
   refine wl_load rfl ag_9 (by first | assumption | exact hw5.cell 2 rfl rfl | exact hw5.cell 3 rfl rfl | exact hw5.cell 4 rfl rfl | exact hw5.cell 5 rfl rfl | exact hw5.cell 6 rfl rfl) rfl ?_
   have hC18 := hw5.split [] [false, false, false, false, false, false, false, false, false] rfl; dsimp only [selF, pickA, nthA, List.cons_append, List.nil_append] at hC18
   refine wl_call cal_13 rfl (name_sp hC18 (lastP path) (by have := lastP_len path; omega)) rfl ?_
   rintro e w18 ⟨_, rfl, rfl, hS18⟩; refine ⟨_, rfl, ?_⟩
   replace hS18 := hS18.join rfl; dsimp only [List.dropLast, List.cons_append, List.nil_append] at hS18; clear hC18
   clear hw5
   refine wl_not rfl rfl ?_
   refine wl_nil ?_
   refine qsD_of ?_
   refine qsD_seq ?_
   refine wcD_sub (L' := [(29, _), (8, _), (7, _), (6, _), (3, _), (2, _)]) (.cons rfl (.cons rfl (.cons rfl (.cons rfl (.cons rfl (.cons rfl .nil)))))) ?_
   refine wcD_cond rfl (fun h19 => ?_) (fun h19 => ?_)
   ·have hbn : nameB (lastP path) = false := by simpa using h19
    refine wcD_seq ?_
    have hS20 := hS18.drew
    refine wcD_draws mix ?_
    refine dr_vc (sp := [2, 3, 4]) [0, 1, 2, 3, 4] (by kernel_rfl) ?_
    refine vc_q rfl rfl rfl (ev_load rfl ag_9 (by first | assumption | exact hS20.cell 2 rfl rfl | exact hS20.cell 3 rfl rfl | exact hS20.cell 4 rfl rfl | exact hS20.cell 5 rfl rfl | exact hS20.cell 6 rfl rfl)) ?_
    refine vc_q rfl rfl rfl (ev_load rfl ag_9 (by first | assumption | exact hS20.cell 2 rfl rfl | exact hS20.cell 3 rfl rfl | exact hS20.cell 4 rfl rfl | exact hS20.cell 5 rfl rfl | exact hS20.cell 6 rfl rfl)) ?_
    refine vc_s rfl rfl rfl rfl rfl rfl ?_
    first | (refine wl_store hS20 rfl rfl sz_9 (by first | rfl | assumption) (i := 2) rfl (by first | decide | exact Nat.le_of_ble_eq_true rfl | (simp; done) | omega) ?_) | (refine wl_store hS20 rfl rfl sz_9 (by first | rfl | assumption) (i := 3) rfl (by first | decide | exact Nat.le_of_ble_eq_true rfl | (simp; done) | omega) ?_) | (refine wl_store hS20 rfl rfl sz_9 (by first | rfl | assumption) (i := 4) rfl (by first | decide | exact Nat.le_of_ble_eq_true rfl | (simp; done) | omega) ?_) | (refine wl_store hS20 rfl rfl sz_9 (by first | rfl | assumption) (i := 5) rfl (by first | decide | exact Nat.le_of_ble_eq_true rfl | (simp; done) | omega) ?_) | (refine wl_store hS20 rfl rfl sz_9 (by first | rfl | assumption) (i := 6) rfl (by first | decide | exact Nat.le_of_ble_eq_true rfl | (simp; done) | omega) ?_)
    intro w21 hS22; dsimp only [List.set] at hS22
    clear hS20
    refine vc_e0 (.cons (.inl ⟨rfl, (ev_load rfl ag_9 (by first | assumption | exact hS22.cell 2 rfl rfl | exact hS22.cell 3 rfl rfl | exact hS22.cell 4 rfl rfl | exact hS22.cell 5 rfl rfl | exact hS22.cell 6 rfl rfl))⟩) (.skip (by kernel_rfl) .nil)) ?_
    refine vc_s rfl rfl rfl rfl rfl rfl ?_
    first | (refine wl_store hS22 rfl rfl sz_9 (by first | rfl | assumption) (i := 2) rfl (by first | decide | exact Nat.le_of_ble_eq_true rfl | (simp; done) | omega) ?_) | (refine wl_store hS22 rfl rfl sz_9 (by first | rfl | assumption) (i := 3) rfl (by first | decide | exact Nat.le_of_ble_eq_true rfl | (simp; done) | omega) ?_) | (refine wl_store hS22 rfl rfl sz_9 (by first | rfl | assumption) (i := 4) rfl (by first | decide | exact Nat.le_of_ble_eq_true rfl | (simp; done) | omega) ?_) | (refine wl_store hS22 rfl rfl sz_9 (by first | rfl | assumption) (i := 5) rfl (by first | decide | exact Nat.le_of_ble_eq_true rfl | (simp; done) | omega) ?_) | (refine wl_store hS22 rfl rfl sz_9 (by first | rfl | assumption) (i := 6) rfl (by first | decide | exact Nat.le_of_ble_eq_true rfl | (simp; done) | omega) ?_)
    intro w23 hS24; dsimp only [List.set] at hS24
    clear hS22
    refine vc_e0 (.skip (by kernel_rfl) (.skip (by kernel_rfl) .nil)) ?_
    refine vc_s rfl rfl rfl rfl rfl rfl ?_
    first | (refine wl_store hS24 rfl rfl sz_27 (by first | rfl | assumption) (i := 2) rfl (by first | decide | exact Nat.le_of_ble_eq_true rfl | (simp; done) | omega) ?_) | (refine wl_store hS24 rfl rfl sz_27 (by first | rfl | assumption) (i := 3) rfl (by first | decide | exact Nat.le_of_ble_eq_true rfl | (simp; done) | omega) ?_) | (refine wl_store hS24 rfl rfl sz_27 (by first | rfl | assumption) (i := 4) rfl (by first | decide | exact Nat.le_of_ble_eq_true rfl | (simp; done) | omega) ?_) | (refine wl_store hS24 rfl rfl sz_27 (by first | rfl | assumption) (i := 5) rfl (by first | decide | exact Nat.le_of_ble_eq_true rfl | (simp; done) | omega) ?_) | (refine wl_store hS24 rfl rfl sz_27 (by first | rfl | assumption) (i := 6) rfl (by first | decide | exact Nat.le_of_ble_eq_true rfl | (simp; done) | omega) ?_)
    intro w25 hS26; dsimp only [List.set] at hS26
    clear hS24
    refine vc_e0 (.skip (by kernel_rfl) (.skip (by kernel_rfl) .nil)) ?_
    refine VC.nil ?_
    refine qsD_of ?_
    refine qsD_seq ?_
    refine wcD_ret ?_
    refine qsD_then_ret ?_
    refine finP (.inr rfl) (fun a9 ha9 => ?_)
    obtain ⟨hD27, hZ27⟩ := hS26.defer_put (o := .deferred none) 1 rfl
    dsimp only [List.eraseIdx] at hZ27
    refine leavesM_mark hD27 ?_
    have hC9 := hZ27.split [3, 4, 1] [false, true, false, true, true, false, false, false] rfl; dsimp only [selF, pickA, nthA, List.cons_append, List.nil_append] at hC9
    refine leavesM_fn cal_51 (pback_sp hC9) ?_
    rintro v0 w9 hq9
    replace hq9 := hq9.join rfl; dsimp only [List.dropLast, List.cons_append, List.nil_append] at hq9
    refine ⟨_, res_three rfl (resC rfl ag_9 (hq9.cell 1 rfl rfl)) (resC rfl ag_9 (hq9.cell 2 rfl rfl)) (resC rfl ag_27 (hq9.cell 0 rfl rfl)) { tmps := a9.tmps, defers := [] } ⟨ha9.size, rfl, ha9.get⟩, ?_⟩
    exact ⟨_, rfl, by unfold parV; rw [if_neg (show ¬ (16 : Int) = 0 by decide), if_neg (show ¬ (16 : Int) = 0 by decide), if_neg (show ¬ begE path ≠ 0 by simp [hb0]), if_pos hbn], hq9.pick [6, 7] rfl⟩
   have hbn : nameB (lastP path) = true := by simpa using h19
   refine wcD_skip ?_
   refine qsD_seq ?_
   refine wcD_seq ?_
   refine wcD_region ?_
   first | (refine wl_store hS18 rfl rfl sz_9 (by first | rfl | assumption) (i := 2) rfl (by first | decide | exact Nat.le_of_ble_eq_true rfl | (simp; done) | omega) ?_) | (refine wl_store hS18 rfl rfl sz_9 (by first | rfl | assumption) (i := 3) rfl (by first | decide | exact Nat.le_of_ble_eq_true rfl | (simp; done) | omega) ?_) | (refine wl_store hS18 rfl rfl sz_9 (by first | rfl | assumption) (i := 4) rfl (by first | decide | exact Nat.le_of_ble_eq_true rfl | (simp; done) | omega) ?_) | (refine wl_store hS18 rfl rfl sz_9 (by first | rfl | assumption) (i := 5) rfl (by first | decide | exact Nat.le_of_ble_eq_true rfl | (simp; done) | omega) ?_) | (refine wl_store hS18 rfl rfl sz_9 (by first | rfl | assumption) (i := 6) rfl (by first | decide | exact Nat.le_of_ble_eq_true rfl | (simp; done) | omega) ?_)
   intro w28 hS29; dsimp only [List.set] at hS29
   clear hS18
   refine wl_nil ?_
   refine qsD_of ?_
   refine qsD_seq ?_
   refine wcD_seq ?_
   refine wcD_seq ?_
   refine wcD_region ?_
   refine wl_move rfl rfl ?_
   have hC30 := hS29.split [] [false, false, false, false, false, false, false, false, false] rfl; dsimp only [selF, pickA, nthA, List.cons_append, List.nil_append] at hC30
   refine wl_call cal_49 rfl (parts_sp hC30 path) rfl ?_
   rintro e w30 ⟨_, rfl, c, rfl, hS30⟩; refine ⟨_, rfl, ?_⟩
   replace hS30 := hS30.join rfl; dsimp only [List.dropLast, List.cons_append, List.nil_append] at hS30; clear hC30
   clear hS29
   refine wl_nil ?_
   refine qsD_of ?_
   refine qsD_seq ?_
   refine wcD_block ?_
   refine wcD_rangeFuncB (caps := [ptrV c 0]) rfl cal_89 ?_
   intro rec hr1 hr2 hr3 hr4 hr5 htn htf
   have hE := hS30.enter_loop rec
   have hE2 := hE.split [0, 1, 8, 5, 7, 9, 10, 11, 2] [true, true, true, false, false, true, false, true, true, true, true, true] rfl; dsimp only [selF, pickA, nthA, List.cons_append, List.nil_append] at hE2
   rw [hb0] at hE2
   have hE2 := (Sat.pure_intro (φ := (walkP W (begS cwd path) [] ((partsL path).take 0)).2.2 = 0) (by rfl) hE2).reorder [1, 2, 0, 3, 4, 5, 6, 7, 8, 9, 10] rfl; dsimp only [pickA, nthA] at hE2
   have hE3 := Sat.fold (As := [loopT (w30.heap.size + 1) rec, deferT w30.heap.size, pureT ((walkP W (begS cwd path) [] ((partsL path).take 0)).2.2 = 0), blkT bd [strV (walkP W (begS cwd path) [] ((partsL path).take 0)).1], blkT bn [strV (walkP W (begS cwd path) [] ((partsL path).take 0)).2.1], blkT be [intV 0], blkT bw [.iface 25 (ptrV p 0)], worldT p W, F]) hE2
   refine (parts_it (J := fun i : Nat => starL [loopT (w30.heap.size + 1) rec, deferT w30.heap.size, pureT ((walkP W (begS cwd path) [] ((partsL path).take i)).2.2 = 0), blkT bd [strV (walkP W (begS cwd path) [] ((partsL path).take i)).1], blkT bn [strV (walkP W (begS cwd path) [] ((partsL path).take i)).2.1], blkT be [intV 0], blkT bw [.iface 25 (ptrV p 0)], worldT p W, F]) (Z := starL [loopT (w30.heap.size + 1) { rec with state := .done, pending := some .ret }, deferT w30.heap.size, pureT ((walkP W (begS cwd path) [] (partsL path)).2.2 ≠ 0), pzT bd bn be (walkP W (begS cwd path) [] (partsL path)).2.2, worldT p W, F]) hE3 (by omega) ?_).mono ?_
   rotate_left
   ·rintro e w3 ⟨v0, rfl, hq3⟩
    rcases hq3 with ⟨hw3⟩ | ⟨hw3⟩
    ·have hw4 := (hw3.join rfl); dsimp only [List.dropLast, List.cons_append, List.nil_append] at hw4
     have hw4 := hw4.flat; dsimp only [List.cons_append, List.nil_append] at hw4
     refine ⟨⟨v0, rfl⟩, rec, hw4.loop 0 rfl, by rw [hr1]; simp, .inl ⟨hr2, ?_⟩⟩
     have hw5 := hw4.loop_put 0 rfl (rec' := { (rec : Go.Loop) with state := .exhausted }); dsimp only [List.set] at hw5
     have hpu2 := (hw5.pull 2 rfl).pure_elim.1
     rw [List.take_length] at hpu2 hw5
     refine qsD_block_normal ?_
     refine qsD_seq ?_
     refine wcD_seq ?_
     have hS31 := hw5.drew
     refine wcD_draws mix ?_
     refine dr_vc (sp := [4, 5, 6, 7]) [0, 1, 2, 3, 4, 5, 6, 7] (by kernel_rfl) ?_
     refine vc_q rfl rfl rfl (ev_load rfl ag_9 (by first | assumption | exact hS31.cell 3 rfl rfl | exact hS31.cell 4 rfl rfl | exact hS31.cell 5 rfl rfl | exact hS31.cell 6 rfl rfl | exact hS31.cell 9 rfl rfl | exact hS31.cell 12 rfl rfl)) ?_
     refine vc_q rfl rfl rfl (ev_load rfl ag_9 (by first | assumption | exact hS31.cell 3 rfl rfl | exact hS31.cell 4 rfl rfl | exact hS31.cell 5 rfl rfl | exact hS31.cell 6 rfl rfl | exact hS31.cell 9 rfl rfl | exact hS31.cell 12 rfl rfl)) ?_
     refine vc_q rfl rfl rfl (ev_load rfl ag_82 (by first | assumption | exact hS31.cell 3 rfl rfl | exact hS31.cell 4 rfl rfl | exact hS31.cell 5 rfl rfl | exact hS31.cell 6 rfl rfl | exact hS31.cell 9 rfl rfl | exact hS31.cell 12 rfl rfl)) ?_
     refine vc_q rfl rfl rfl (ev_load rfl ag_9 (by first | assumption | exact hS31.cell 3 rfl rfl | exact hS31.cell 4 rfl rfl | exact hS31.cell 5 rfl rfl | exact hS31.cell 6 rfl rfl | exact hS31.cell 9 rfl rfl | exact hS31.cell 12 rfl rfl)) ?_
     refine vc_s rfl rfl rfl rfl rfl rfl ?_
     have hC32 := hS31.split [7] [false, false, false, false, false, false, false, true, false, false, false, false, false] rfl; dsimp only [selF, pickA, nthA, List.cons_append, List.nil_append] at hC32
     refine wl_call cal_52 rfl (dir_sp hC32 (hG.starL 7 rfl) hP.tb (walkP W (begS cwd path) [] (partsL path)).1 (by have := walkP_len hP (ps := (partsL path)) (nm := []) (begS_len (path := path) hc); omega)) rfl ?_
     rintro e w32 ⟨_, rfl, rfl, hS32⟩; refine ⟨_, rfl, ?_⟩
     replace hS32 := hS32.join rfl; dsimp only [List.dropLast, List.cons_append, List.nil_append] at hS32; clear hC32
     clear hS31
     refine vc_e (.skip (by kernel_rfl) (.skip (by kernel_rfl) (.cons (.inl ⟨rfl, (ev_load rfl ag_9 (by first | assumption | exact hS32.cell 4 rfl rfl | exact hS32.cell 5 rfl rfl | exact hS32.cell 6 rfl rfl | exact hS32.cell 7 rfl rfl | exact hS32.cell 9 rfl rfl | exact hS32.cell 12 rfl rfl))⟩) (.cons (.inl ⟨rfl, (ev_load rfl ag_9 (by first | assumption | exact hS32.cell 4 rfl rfl | exact hS32.cell 5 rfl rfl | exact hS32.cell 6 rfl rfl | exact hS32.cell 7 rfl rfl | exact hS32.cell 9 rfl rfl | exact hS32.cell 12 rfl rfl))⟩) .nil)))) ?_
     refine vc_s rfl rfl rfl rfl rfl rfl ?_
     first | (refine wl_store hS32 rfl rfl sz_9 (by first | rfl | assumption) (i := 4) rfl (by first | decide | exact Nat.le_of_ble_eq_true rfl | (simp; done) | omega) ?_) | (refine wl_store hS32 rfl rfl sz_9 (by first | rfl | assumption) (i := 5) rfl (by first | decide | exact Nat.le_of_ble_eq_true rfl | (simp; done) | omega) ?_) | (refine wl_store hS32 rfl rfl sz_9 (by first | rfl | assumption) (i := 6) rfl (by first | decide | exact Nat.le_of_ble_eq_true rfl | (simp; done) | omega) ?_) | (refine wl_store hS32 rfl rfl sz_9 (by first | rfl | assumption) (i := 7) rfl (by first | decide | exact Nat.le_of_ble_eq_true rfl | (simp; done) | omega) ?_) | (refine wl_store hS32 rfl rfl sz_9 (by first | rfl | assumption) (i := 9) rfl (by first | decide | exact Nat.le_of_ble_eq_true rfl | (simp; done) | omega) ?_) | (refine wl_store hS32 rfl rfl sz_9 (by first | rfl | assumption) (i := 12) rfl (by first | decide | exact Nat.le_of_ble_eq_true rfl | (simp; done) | omega) ?_)
     intro w33 hS34; dsimp only [List.set] at hS34
     clear hS32
     refine vc_e0 (.skip (by kernel_rfl) (.skip (by kernel_rfl) (.cons (.inl ⟨rfl, (ev_load rfl ag_9 (by first | assumption | exact hS34.cell 4 rfl rfl | exact hS34.cell 5 rfl rfl | exact hS34.cell 6 rfl rfl | exact hS34.cell 7 rfl rfl | exact hS34.cell 9 rfl rfl | exact hS34.cell 12 rfl rfl))⟩) (.skip (by kernel_rfl) .nil)))) ?_
     refine vc_s rfl rfl rfl rfl rfl rfl ?_
     first | (refine wl_store hS34 rfl rfl sz_9 (by first | rfl | assumption) (i := 4) rfl (by first | decide | exact Nat.le_of_ble_eq_true rfl | (simp; done) | omega) ?_) | (refine wl_store hS34 rfl rfl sz_9 (by first | rfl | assumption) (i := 5) rfl (by first | decide | exact Nat.le_of_ble_eq_true rfl | (simp; done) | omega) ?_) | (refine wl_store hS34 rfl rfl sz_9 (by first | rfl | assumption) (i := 6) rfl (by first | decide | exact Nat.le_of_ble_eq_true rfl | (simp; done) | omega) ?_) | (refine wl_store hS34 rfl rfl sz_9 (by first | rfl | assumption) (i := 7) rfl (by first | decide | exact Nat.le_of_ble_eq_true rfl | (simp; done) | omega) ?_) | (refine wl_store hS34 rfl rfl sz_9 (by first | rfl | assumption) (i := 9) rfl (by first | decide | exact Nat.le_of_ble_eq_true rfl | (simp; done) | omega) ?_) | (refine wl_store hS34 rfl rfl sz_9 (by first | rfl | assumption) (i := 12) rfl (by first | decide | exact Nat.le_of_ble_eq_true rfl | (simp; done) | omega) ?_)
     intro w35 hS36; dsimp only [List.set] at hS36
     clear hS34
     refine vc_e0 (.skip (by kernel_rfl) (.skip (by kernel_rfl) (.skip (by kernel_rfl) (.skip (by kernel_rfl) .nil)))) ?_
     refine vc_s rfl rfl rfl rfl rfl rfl ?_
     first | (refine wl_store hS36 rfl rfl sz_27 (by first | rfl | assumption) (i := 4) rfl (by first | decide | exact Nat.le_of_ble_eq_true rfl | (simp; done) | omega) ?_) | (refine wl_store hS36 rfl rfl sz_27 (by first | rfl | assumption) (i := 5) rfl (by first | decide | exact Nat.le_of_ble_eq_true rfl | (simp; done) | omega) ?_) | (refine wl_store hS36 rfl rfl sz_27 (by first | rfl | assumption) (i := 6) rfl (by first | decide | exact Nat.le_of_ble_eq_true rfl | (simp; done) | omega) ?_) | (refine wl_store hS36 rfl rfl sz_27 (by first | rfl | assumption) (i := 7) rfl (by first | decide | exact Nat.le_of_ble_eq_true rfl | (simp; done) | omega) ?_) | (refine wl_store hS36 rfl rfl sz_27 (by first | rfl | assumption) (i := 9) rfl (by first | decide | exact Nat.le_of_ble_eq_true rfl | (simp; done) | omega) ?_) | (refine wl_store hS36 rfl rfl sz_27 (by first | rfl | assumption) (i := 12) rfl (by first | decide | exact Nat.le_of_ble_eq_true rfl | (simp; done) | omega) ?_)
     intro w37 hS38; dsimp only [List.set] at hS38
     clear hS36
     refine vc_e0 (.skip (by kernel_rfl) (.skip (by kernel_rfl) (.skip (by kernel_rfl) (.skip (by kernel_rfl) .nil)))) ?_
     refine VC.nil ?_
     refine qsD_of ?_
     refine qsD_seq ?_
     refine wcD_sub (L' := [(8, _), (7, _), (6, _)]) (.cons rfl (.cons rfl (.cons rfl .nil))) ?_
     refine wcD_ret ?_
     refine finP (.inr rfl) (fun a9 ha9 => ?_)
     obtain ⟨hD39, hZ39⟩ := hS38.defer_put (o := .deferred none) 2 rfl
     dsimp only [List.eraseIdx] at hZ39
     refine leavesM_mark hD39 ?_
     obtain ⟨hD40, hZ40⟩ := hZ39.defer_put (o := .deferred none) 10 rfl
     dsimp only [List.eraseIdx] at hZ40
     refine leavesM_mark hD40 ?_
     have hC9 := hZ40.split [5, 3, 4] [false, false, false, true, true, true, false, false, false, false, false] rfl; dsimp only [selF, pickA, nthA, List.cons_append, List.nil_append] at hC9
     refine leavesM_fn cal_51 (pback_sp hC9) ?_
     rintro v0 w9 hq9
     replace hq9 := hq9.join rfl; dsimp only [List.dropLast, List.cons_append, List.nil_append] at hq9
     refine ⟨_, res_three rfl (resC rfl ag_9 (hq9.cell 1 rfl rfl)) (resC rfl ag_9 (hq9.cell 2 rfl rfl)) (resC rfl ag_27 (hq9.cell 0 rfl rfl)) { tmps := a9.tmps, defers := [] } ⟨ha9.size, rfl, ha9.get⟩, ?_⟩
     by_cases hde : dirE W (walkP W (begS cwd path) [] (partsL path)).1 = 0
     ·exact ⟨_, rfl, by unfold parV; rw [if_pos hde, if_pos hde, if_neg (show ¬ begE path ≠ 0 by simp [hb0]), if_neg (show ¬ nameB (lastP path) = false by simp [hbn]), if_neg (show ¬ (walkP W (begS cwd path) [] (partsL path)).2.2 ≠ 0 by simp [hpu2]), if_neg (show ¬ dirE W (walkP W (begS cwd path) [] (partsL path)).1 ≠ 0 by simp [hde]), hde], hq9.pick [3, 7] rfl⟩
     ·exact ⟨_, rfl, by unfold parV; rw [if_neg hde, if_neg hde, if_neg (show ¬ begE path ≠ 0 by simp [hb0]), if_neg (show ¬ nameB (lastP path) = false by simp [hbn]), if_neg (show ¬ (walkP W (begS cwd path) [] (partsL path)).2.2 ≠ 0 by simp [hpu2]), if_pos hde], hq9.pick [3, 7] rfl⟩
    have hw4 := (hw3.join rfl); dsimp only [List.dropLast, List.cons_append, List.nil_append] at hw4
    have hw4 := hw4.flat; dsimp only [List.cons_append, List.nil_append] at hw4
    refine ⟨⟨v0, rfl⟩, { rec with state := .done, pending := some .ret }, hw4.loop 0 rfl, by simp, .inr ⟨rfl, ?_⟩⟩
    have hw5 := hw4.loop_put 0 rfl (rec' := { ({ rec with state := .done, pending := some .ret } : Go.Loop) with state := .exhausted }); dsimp only [List.set] at hw5
    have hpu2 := (hw5.pull 2 rfl).pure_elim.1
    obtain ⟨dq, nq, hw6⟩ := pzT_open (hw5.pull 3 rfl)
    dsimp only [List.eraseIdx] at hw6
    refine qsD_block_ret ?_
    refine qsD_then_ret ?_
    refine finP (.inr rfl) (fun a9 ha9 => ?_)
    obtain ⟨hD41, hZ41⟩ := hw6.defer_put (o := .deferred none) 4 rfl
    dsimp only [List.eraseIdx] at hZ41
    refine leavesM_mark hD41 ?_
    obtain ⟨hD42, hZ42⟩ := hZ41.defer_put (o := .deferred none) 9 rfl
    dsimp only [List.eraseIdx] at hZ42
    refine leavesM_mark hD42 ?_
    have hC9 := hZ42.split [2, 0, 1] [true, true, true, false, false, false, false, false, false, false] rfl; dsimp only [selF, pickA, nthA, List.cons_append, List.nil_append] at hC9
    refine leavesM_fn cal_51 (pback_sp hC9) ?_
    rintro v0 w9 hq9
    replace hq9 := hq9.join rfl; dsimp only [List.dropLast, List.cons_append, List.nil_append] at hq9
    refine ⟨_, res_three rfl (resC rfl ag_9 (hq9.cell 1 rfl rfl)) (resC rfl ag_9 (hq9.cell 2 rfl rfl)) (resC rfl ag_27 (hq9.cell 0 rfl rfl)) { tmps := a9.tmps, defers := [] } ⟨ha9.size, rfl, ha9.get⟩, ?_⟩
    exact ⟨_, rfl, by unfold parV; rw [if_neg hpu2, if_neg hpu2, if_neg (show ¬ begE path ≠ 0 by simp [hb0]), if_neg (show ¬ nameB (lastP path) = false by simp [hbn]), if_pos hpu2], hq9.pick [5, 6] rfl⟩
   intro i x R w2 hx hw2
   have hw4 := hw2.flat; dsimp only [List.cons_append, List.nil_append] at hw4
   have hpu := (hw4.pull 2 rfl).pure_elim.1
   refine yield1G (hw4.loop 0 rfl) hr3 hr4 hr5 htn htf rfl ?_
   refine wcI_region (by rintro ⟨_, _, q⟩; exact q) rfl ?_
   refine wl_assign rfl rfl (wl_nil ?_)
   refine qsI_beginB (hw4.loop 0 rfl) hr1 ?_
   have hw7 := hw4.loop_put 0 rfl (rec' := { rec with state := .busy }); dsimp only [List.set] at hw7
   refine wcI_block ?_
   refine wcI_seq ?_
   refine wcI_seq ?_
   refine wcI_region (by rintro ⟨_, _, q⟩; exact q) rfl ?_
   refine wl_load rfl ag_9 (by first | assumption | exact hw7.cell 3 rfl rfl | exact hw7.cell 4 rfl rfl | exact hw7.cell 5 rfl rfl | exact hw7.cell 6 rfl rfl) rfl ?_
   refine wl_neqS rfl rfl rfl ?_
   refine wl_nil ?_
   refine qsI_seq ?_
   refine wcI_sub (L' := [(36, _), (10, _), (8, _), (7, _), (6, _), (3, _)]) (.cons rfl (.cons rfl (.cons rfl (.cons rfl (.cons rfl (.cons rfl .nil)))))) ?_
   refine wcI_condD rfl (fun h43 => ?_) (fun h43 => ?_)
   ·have hnm : (walkP W (begS cwd path) [] ((partsL path).take i)).2.1 ≠ [] := h43
    refine wcI_seq ?_
    refine wcI_region (by rintro ⟨_, _, q⟩; exact q) rfl ?_
    refine wl_load rfl ag_82 (by first | assumption | exact hw7.cell 3 rfl rfl | exact hw7.cell 4 rfl rfl | exact hw7.cell 5 rfl rfl | exact hw7.cell 6 rfl rfl) rfl ?_
    refine wl_load rfl ag_9 (by first | assumption | exact hw7.cell 3 rfl rfl | exact hw7.cell 4 rfl rfl | exact hw7.cell 5 rfl rfl | exact hw7.cell 6 rfl rfl) rfl ?_
    refine wl_load rfl ag_9 (by first | assumption | exact hw7.cell 3 rfl rfl | exact hw7.cell 4 rfl rfl | exact hw7.cell 5 rfl rfl | exact hw7.cell 6 rfl rfl) rfl ?_
    have hC44 := hw7.split [7] [false, false, false, false, false, false, false, true, false, false] rfl; dsimp only [selF, pickA, nthA, List.cons_append, List.nil_append] at hC44
    refine wl_call cal_50 rfl (step_sp hC44 (hG.starL 7 rfl) hP.tb (walkP W (begS cwd path) [] ((partsL path).take i)).1 (walkP W (begS cwd path) [] ((partsL path).take i)).2.1 (by have := walkP_len hP (ps := (partsL path).take i) (nm := []) (begS_len (path := path) hc); omega) (by have := walkP_nm (W := W) (M := path.length) (d := (begS cwd path)) (nm := []) (ps := (partsL path).take i) (by simp) (fun q hq => partsL_le (List.mem_of_mem_take hq)); omega)) rfl ?_
    rintro e w44 ⟨_, rfl, rfl, hS44⟩; refine ⟨_, rfl, ?_⟩
    replace hS44 := hS44.join rfl; dsimp only [List.dropLast, List.cons_append, List.nil_append] at hS44; clear hC44
    clear hw7
    refine wl_move rfl rfl (wl_extract rfl rfl rfl (wl_extract rfl rfl rfl ?_))
    first | (refine wl_store hS44 rfl rfl sz_9 (by first | rfl | assumption) (i := 4) rfl (by first | decide | exact Nat.le_of_ble_eq_true rfl | (simp; done) | omega) ?_) | (refine wl_store hS44 rfl rfl sz_9 (by first | rfl | assumption) (i := 5) rfl (by first | decide | exact Nat.le_of_ble_eq_true rfl | (simp; done) | omega) ?_) | (refine wl_store hS44 rfl rfl sz_9 (by first | rfl | assumption) (i := 6) rfl (by first | decide | exact Nat.le_of_ble_eq_true rfl | (simp; done) | omega) ?_) | (refine wl_store hS44 rfl rfl sz_9 (by first | rfl | assumption) (i := 7) rfl (by first | decide | exact Nat.le_of_ble_eq_true rfl | (simp; done) | omega) ?_)
    intro w45 hS46; dsimp only [List.set] at hS46
    clear hS44
    first | (refine wl_store hS46 rfl rfl sz_27 (by first | rfl | assumption) (i := 4) rfl (by first | decide | exact Nat.le_of_ble_eq_true rfl | (simp; done) | omega) ?_) | (refine wl_store hS46 rfl rfl sz_27 (by first | rfl | assumption) (i := 5) rfl (by first | decide | exact Nat.le_of_ble_eq_true rfl | (simp; done) | omega) ?_) | (refine wl_store hS46 rfl rfl sz_27 (by first | rfl | assumption) (i := 6) rfl (by first | decide | exact Nat.le_of_ble_eq_true rfl | (simp; done) | omega) ?_) | (refine wl_store hS46 rfl rfl sz_27 (by first | rfl | assumption) (i := 7) rfl (by first | decide | exact Nat.le_of_ble_eq_true rfl | (simp; done) | omega) ?_)
    intro w47 hS48; dsimp only [List.set] at hS48
    clear hS46
    refine wl_nil ?_
    refine qsI_seq ?_
    refine wcI_sub (L' := [(10, _), (8, _), (7, _), (6, _)]) (.cons rfl (.cons rfl (.cons rfl (.cons rfl .nil)))) ?_
    refine wcI_seq ?_
    refine wcI_region (by rintro ⟨_, _, q⟩; exact q) rfl ?_
    refine wl_load rfl ag_27 (by first | assumption | exact hS48.cell 4 rfl rfl | exact hS48.cell 5 rfl rfl | exact hS48.cell 6 rfl rfl | exact hS48.cell 7 rfl rfl) rfl ?_
    refine wl_neq rfl rfl rfl ?_
    refine wl_nil ?_
    refine qsI_seq ?_
    refine wcI_condD rfl (fun h49 => ?_) (fun h49 => ?_)
    ·have hst : (stepV W (walkP W (begS cwd path) [] ((partsL path).take i)).1 (walkP W (begS cwd path) [] ((partsL path).take i)).2.1).2 ≠ 0 := h49
     refine wcI_seq ?_
     have hS50 := hS48.drew
     refine wcI_draws (by rintro ⟨_, _, q⟩; exact q) rfl mix ?_
     refine dr_vc (sp := [3, 4, 5]) [0, 1, 2, 3, 4, 5] (by kernel_rfl) ?_
     refine vc_q rfl rfl rfl (ev_load rfl ag_9 (by first | assumption | exact hS50.cell 4 rfl rfl | exact hS50.cell 5 rfl rfl | exact hS50.cell 6 rfl rfl | exact hS50.cell 7 rfl rfl)) ?_
     refine vc_q rfl rfl rfl (ev_load rfl ag_9 (by first | assumption | exact hS50.cell 4 rfl rfl | exact hS50.cell 5 rfl rfl | exact hS50.cell 6 rfl rfl | exact hS50.cell 7 rfl rfl)) ?_
     refine vc_q rfl rfl rfl (ev_load rfl ag_27 (by first | assumption | exact hS50.cell 4 rfl rfl | exact hS50.cell 5 rfl rfl | exact hS50.cell 6 rfl rfl | exact hS50.cell 7 rfl rfl)) ?_
     refine vc_s rfl rfl rfl rfl rfl rfl ?_
     first | (refine wl_store hS50 rfl rfl sz_9 (by first | rfl | assumption) (i := 4) rfl (by first | decide | exact Nat.le_of_ble_eq_true rfl | (simp; done) | omega) ?_) | (refine wl_store hS50 rfl rfl sz_9 (by first | rfl | assumption) (i := 5) rfl (by first | decide | exact Nat.le_of_ble_eq_true rfl | (simp; done) | omega) ?_) | (refine wl_store hS50 rfl rfl sz_9 (by first | rfl | assumption) (i := 6) rfl (by first | decide | exact Nat.le_of_ble_eq_true rfl | (simp; done) | omega) ?_) | (refine wl_store hS50 rfl rfl sz_9 (by first | rfl | assumption) (i := 7) rfl (by first | decide | exact Nat.le_of_ble_eq_true rfl | (simp; done) | omega) ?_)
     intro w51 hS52; dsimp only [List.set] at hS52
     clear hS50
     refine vc_e0 (.cons (.inl ⟨rfl, (ev_load rfl ag_27 (by first | assumption | exact hS52.cell 4 rfl rfl | exact hS52.cell 5 rfl rfl | exact hS52.cell 6 rfl rfl | exact hS52.cell 7 rfl rfl))⟩) (.cons (.inl ⟨rfl, (ev_load rfl ag_9 (by first | assumption | exact hS52.cell 4 rfl rfl | exact hS52.cell 5 rfl rfl | exact hS52.cell 6 rfl rfl | exact hS52.cell 7 rfl rfl))⟩) (.skip (by kernel_rfl) .nil))) ?_
     refine vc_s rfl rfl rfl rfl rfl rfl ?_
     first | (refine wl_store hS52 rfl rfl sz_9 (by first | rfl | assumption) (i := 4) rfl (by first | decide | exact Nat.le_of_ble_eq_true rfl | (simp; done) | omega) ?_) | (refine wl_store hS52 rfl rfl sz_9 (by first | rfl | assumption) (i := 5) rfl (by first | decide | exact Nat.le_of_ble_eq_true rfl | (simp; done) | omega) ?_) | (refine wl_store hS52 rfl rfl sz_9 (by first | rfl | assumption) (i := 6) rfl (by first | decide | exact Nat.le_of_ble_eq_true rfl | (simp; done) | omega) ?_) | (refine wl_store hS52 rfl rfl sz_9 (by first | rfl | assumption) (i := 7) rfl (by first | decide | exact Nat.le_of_ble_eq_true rfl | (simp; done) | omega) ?_)
     intro w53 hS54; dsimp only [List.set] at hS54
     clear hS52
     refine vc_e0 (.cons (.inl ⟨rfl, (ev_load rfl ag_27 (by first | assumption | exact hS54.cell 4 rfl rfl | exact hS54.cell 5 rfl rfl | exact hS54.cell 6 rfl rfl | exact hS54.cell 7 rfl rfl))⟩) (.skip (by kernel_rfl) (.skip (by kernel_rfl) .nil))) ?_
     refine vc_s rfl rfl rfl rfl rfl rfl ?_
     first | (refine wl_store hS54 rfl rfl sz_27 (by first | rfl | assumption) (i := 4) rfl (by first | decide | exact Nat.le_of_ble_eq_true rfl | (simp; done) | omega) ?_) | (refine wl_store hS54 rfl rfl sz_27 (by first | rfl | assumption) (i := 5) rfl (by first | decide | exact Nat.le_of_ble_eq_true rfl | (simp; done) | omega) ?_) | (refine wl_store hS54 rfl rfl sz_27 (by first | rfl | assumption) (i := 6) rfl (by first | decide | exact Nat.le_of_ble_eq_true rfl | (simp; done) | omega) ?_) | (refine wl_store hS54 rfl rfl sz_27 (by first | rfl | assumption) (i := 7) rfl (by first | decide | exact Nat.le_of_ble_eq_true rfl | (simp; done) | omega) ?_)
     intro w55 hS56; dsimp only [List.set] at hS56
     clear hS54
     refine vc_e0 (.skip (by kernel_rfl) (.skip (by kernel_rfl) (.skip (by kernel_rfl) .nil))) ?_
     refine VC.nil ?_
     refine qsI_seq ?_
     refine wcI_ret ?_
     refine qsI_then_ret ?_
     refine qsI_block_ret ?_
     refine qsI_retB (rec := rec) (hS56.loop 1 rfl) ?_
     have hw9 := hS56.loop_put 1 rfl (rec' := { rec with state := .done, pending := some .ret }); dsimp only [List.set] at hw9
     have her := walkP_err hx hpu hnm hst
     have hS9 := hw9.pick [4, 5, 6, 1, 2, 0, 8, 9] rfl
     refine .inr ⟨rfl, Sat.fold (As := [loopT _ _, deferT _, pureT ((walkP W (begS cwd path) [] (partsL path)).2.2 ≠ 0), pzT bd bn be (walkP W (begS cwd path) [] (partsL path)).2.2, worldT p W, F]) ?_⟩
     rw [her]; exact (Sat.pure_intro hst (pzT_shut hS9)).reorder [2, 3, 0, 1, 4, 5, 6] rfl
    have hst : (stepV W (walkP W (begS cwd path) [] ((partsL path).take i)).1 (walkP W (begS cwd path) [] ((partsL path).take i)).2.1).2 = 0 := Decidable.not_not.1 h49
    refine wcI_skip ?_
    refine qsI_seq ?_
    refine wcI_region (by rintro ⟨_, _, q⟩; exact q) rfl ?_
    refine wl_move rfl rfl ?_
    first | (refine wl_store hS48 rfl rfl sz_9 (by first | rfl | assumption) (i := 4) rfl (by first | decide | exact Nat.le_of_ble_eq_true rfl | (simp; done) | omega) ?_) | (refine wl_store hS48 rfl rfl sz_9 (by first | rfl | assumption) (i := 5) rfl (by first | decide | exact Nat.le_of_ble_eq_true rfl | (simp; done) | omega) ?_) | (refine wl_store hS48 rfl rfl sz_9 (by first | rfl | assumption) (i := 6) rfl (by first | decide | exact Nat.le_of_ble_eq_true rfl | (simp; done) | omega) ?_) | (refine wl_store hS48 rfl rfl sz_9 (by first | rfl | assumption) (i := 7) rfl (by first | decide | exact Nat.le_of_ble_eq_true rfl | (simp; done) | omega) ?_)
    intro w57 hS58; dsimp only [List.set] at hS58
    clear hS48
    refine wl_nil ?_
    refine qsI_block_normal ?_
    refine qsI_endB (hS58.loop 1 rfl) hr1 hr2 ?_
    have hw9 := hS58.loop_put 1 rfl (rec' := rec); dsimp only [List.set] at hw9
    have hwk := walkP_take hx hpu
    have hS9 := hw9.pick [1, 2, 4, 5, 6, 7, 0, 8, 9] rfl
    rw [walkP, if_pos hnm, if_neg (by simp [hst]), walkP] at hwk
    rw [hst] at hS9
    refine .inl ⟨rfl, Sat.fold (As := [loopT _ rec, deferT _, pureT ((walkP W (begS cwd path) [] ((partsL path).take (i + 1))).2.2 = 0), blkT bd [strV (walkP W (begS cwd path) [] ((partsL path).take (i + 1))).1], blkT bn [strV (walkP W (begS cwd path) [] ((partsL path).take (i + 1))).2.1], blkT be [intV 0], blkT bw [.iface 25 (ptrV p 0)], worldT p W, F]) ?_⟩
    rw [hwk]; exact (Sat.pure_intro rfl hS9).reorder [1, 2, 0, 3, 4, 5, 6, 7, 8, 9] rfl
   have hnm : ¬ (walkP W (begS cwd path) [] ((partsL path).take i)).2.1 ≠ [] := h43
   refine wcI_skip ?_
   refine qsI_seq ?_
   refine wcI_region (by rintro ⟨_, _, q⟩; exact q) rfl ?_
   refine wl_move rfl rfl ?_
   first | (refine wl_store hw7 rfl rfl sz_9 (by first | rfl | assumption) (i := 3) rfl (by first | decide | exact Nat.le_of_ble_eq_true rfl | (simp; done) | omega) ?_) | (refine wl_store hw7 rfl rfl sz_9 (by first | rfl | assumption) (i := 4) rfl (by first | decide | exact Nat.le_of_ble_eq_true rfl | (simp; done) | omega) ?_) | (refine wl_store hw7 rfl rfl sz_9 (by first | rfl | assumption) (i := 5) rfl (by first | decide | exact Nat.le_of_ble_eq_true rfl | (simp; done) | omega) ?_) | (refine wl_store hw7 rfl rfl sz_9 (by first | rfl | assumption) (i := 6) rfl (by first | decide | exact Nat.le_of_ble_eq_true rfl | (simp; done) | omega) ?_)
   intro w59 hS60; dsimp only [List.set] at hS60
   clear hw7
   refine wl_nil ?_
   refine qsI_block_normal ?_
   refine qsI_endB (hS60.loop 0 rfl) hr1 hr2 ?_
   have hw9 := hS60.loop_put 0 rfl (rec' := rec); dsimp only [List.set] at hw9
   have hwk := walkP_take hx hpu
   have hS9 := hw9.pick [0, 1, 3, 4, 5, 6, 7, 8, 9] rfl
   rw [walkP, if_neg hnm, walkP] at hwk
   refine .inl ⟨rfl, Sat.fold (As := [loopT _ rec, deferT _, pureT ((walkP W (begS cwd path) [] ((partsL path).take (i + 1))).2.2 = 0), blkT bd [strV (walkP W (begS cwd path) [] ((partsL path).take (i + 1))).1], blkT bn [strV (walkP W (begS cwd path) [] ((partsL path).take (i + 1))).2.1], blkT be [intV 0], blkT bw [.iface 25 (ptrV p 0)], worldT p W, F]) ?_⟩
   rw [hwk]; exact (Sat.pure_intro rfl hS9).reorder [1, 2, 0, 3, 4, 5, 6, 7, 8, 9] rfl
  exact hw3.pure_elim.1.elim
 intro i x R w2 hx hw2
 have hw4 := hw2.flat; dsimp only [List.cons_append, List.nil_append] at hw4
 refine yield1G (hw4.loop 0 rfl) hr3 hr4 hr5 htn htf rfl ?_
 refine wcI_region (by rintro ⟨_, _, q⟩; exact q) rfl ?_
 refine wl_assign rfl rfl (wl_nil ?_)
 refine qsI_beginB (hw4.loop 0 rfl) hr1 ?_
 have hw7 := hw4.loop_put 0 rfl (rec' := { rec with state := .busy }); dsimp only [List.set] at hw7
 refine wcI_block ?_
 refine wcI_region (by rintro ⟨_, _, q⟩; exact q) rfl ?_
 refine wl_move rfl rfl ?_
 first | (refine wl_store hw7 rfl rfl sz_9 (by first | rfl | assumption) (i := 2) rfl (by first | decide | exact Nat.le_of_ble_eq_true rfl | (simp; done) | omega) ?_)
 intro w61 hS62; dsimp only [List.set] at hS62
 clear hw7
 refine wl_nil ?_
 refine qsI_block_normal ?_
 refine qsI_endB (hS62.loop 0 rfl) hr1 hr2 ?_
 have hw9 := hS62.loop_put 0 rfl (rec' := rec); dsimp only [List.set] at hw9
 refine .inl ⟨rfl, Sat.fold (As := [loopT _ rec, deferT _, blkT bn [strV (((partsL path).take (i + 1)).getLast?.getD [])]]) ?_⟩
 rw [show ((partsL path).take (i + 1)).getLast?.getD [] = x by rw [List.take_add_one, hx]; simp]; exact hw9.pick [0, 1, 2, 3] rfl
end Go.Proofs.YtkaikhcpcbjkcaaGreatDoor
/- Parts of slices that are read: x[A:B]. Conditions: the rules' own hypotheses. -/
namespace Go.Proofs.YtkaikhcpcbjkcaaGreatDoor.M
open Go.RowKit
section
variable {P : Program} {n : Nat} {ops : Array Oper} {Q : Exit → Act → World → Prop} {rest : List Oper} {L : Env} {w : World} {d : Nat} {ty : TypeId} {pos : String} {aft : Array Edge}
end
section
variable {α : Type} {C : RowC α} {l : List α} {w : World}
theorem RdL.at_ {b off m cap i : Nat} {a : α} (h : RdL C (.slice (some ⟨b, off, none⟩) m cap) l w) (ha : l[i]? = some a) : ∀ (j : Nat) (u : Value), (C.enc a)[j]? = some u → w.cell? ⟨b, off + i * C.size + j, none⟩ = some u := by
  obtain ⟨b', off', e, h2⟩ := h.get ha
  cases e
  exact h2
end
end Go.Proofs.YtkaikhcpcbjkcaaGreatDoor.M
/- world: SetByte, Drop, Copy -/
namespace Go.Proofs.YtkaikhcpcbjkcaaGreatDoor
open Go.RowKit M
set_option linter.unusedVariables false
def dropS (W : WS) (n : Bs) : WS := { W with objs := fun m q => if m = n then none else W.objs m q }
theorem PagesOk.drop {W : WS} (h : PagesOk W.objs) (n : Bs) : PagesOk (dropS W n).objs := ⟨fun m q s hs => by
  simp only [dropS] at hs
  split at hs
  · cases hs
  · exact h.ok m q s hs⟩
end Go.Proofs.YtkaikhcpcbjkcaaGreatDoor
/- world: Clone -/
namespace Go.Proofs.YtkaikhcpcbjkcaaGreatDoor
open Go.RowKit M
set_option linter.unusedVariables false
structure CloSt (Lo Ln : List (Bs × Nat)) (dn : Bs → Prop) : Prop where
  nodup : (Ln.map (·.1)).Nodup
  mem : ∀ n, n ∈ Ln.map (·.1) ↔ dn n
  sub : ∀ n, dn n → n ∈ Lo.map (·.1)
theorem CloSt.start (Lo : List (Bs × Nat)) : CloSt Lo [] (fun _ => False) := ⟨by simp, by simp, fun _ h => h.elim⟩
theorem CloSt.step {Lo Ln : List (Bs × Nat)} {dn : Bs → Prop} {k : Bs} {m im nb : Nat} (h : CloSt Lo Ln dn) (hn : ¬ dn k) (him : Lo[im]? = some (k, m)) : CloSt Lo ((k, nb) :: Ln) (fun j => dn j ∨ j = k) where
  nodup := List.nodup_cons.2 ⟨fun hm => hn ((h.mem k).1 hm), h.nodup⟩
  mem := fun n => by
    rw [List.map_cons, List.mem_cons, h.mem n]
    exact or_comm
  sub := fun n hd => by
    rcases hd with hd | rfl
    · exact h.sub n hd
    · exact List.mem_map.2 ⟨(n, m), List.mem_of_getElem? him, rfl⟩
theorem CloSt.done {W : WS} {Lo Ln : List (Bs × Nat)} {dn : Bs → Prop} (hO : ObjL Lo W.objs) (h : CloSt Lo Ln dn) (hd : ∀ k v, namesG Lo k = some v → dn k) : ObjL Ln W.objs := by
  refine ⟨h.nodup, fun n => ?_⟩
  rw [h.mem, ← hO.has]
  refine ⟨h.sub n, fun hm => ?_⟩
  cases ha : assoc Lo n with
  | none => exact absurd hm (assoc_none.1 ha)
  | some m => exact hd n (.map (some m)) (by simp [namesG, ha])
end Go.Proofs.YtkaikhcpcbjkcaaGreatDoor
