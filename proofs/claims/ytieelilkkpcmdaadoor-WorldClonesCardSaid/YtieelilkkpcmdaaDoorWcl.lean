/- world: Clone -/
import Derived.Test.YtieelilkkpcmdaaDoorWp
import Derived.Test.YtieelilkkpcmdaaDoorDrs
import Derived.Test.YtieelilkkpcmdaaDoorEqm
namespace Go.Proofs.YtieelilkkpcmdaaDoor
open Go.RowKit M
set_option linter.unusedVariables false
theorem cloneS_sp {w : World} {F : Th} {b : Nat} {g : Bs → Option Value} (hS : Sat w [mapT strK b g, F]) :
    Calls Tryd.prog 48 #[.map (some b)] w (Ret fun v w' => ∃ b', v = .map (some b') ∧ Sat w' [mapT strK b' g, mapT strK b g, F]) := by
  refine calls_enter Tryd.func48 rfl Tryd.ntmps48 rfl ?_
  refine wc_seq ?_
  refine wc_region ?_
  refine wl_assign rfl rfl ?_
  refine wl_nil ?_
  refine qs_seq ?_
  refine wc_seq ?_
  refine wc_seq ?_
  refine wc_region ?_
  refine wl_move rfl rfl ?_
  refine wl_eqlMapNil Tryd.underlying65 rfl rfl rfl ?_
  refine wl_nil ?_
  refine qs_seq ?_
  refine wc_condF rfl ?_
  refine wc_skip ?_
  refine qs_seq ?_
  refine wc_seq ?_
  refine wc_region ?_
  refine wl_move rfl rfl ?_
  refine wl_makeIface nif_65 rfl rfl ?_
  refine wl_mapsClone 0 hS Tryd.func71 mc1 mc2 mc3 mc4 rfl rfl rfl ?_
  intro b9 w9 hS9
  refine wl_typeAssert nif_65 rfl rfl ?_
  refine wl_assign rfl rfl ?_
  refine wl_nil ?_
  refine qs_seq ?_
  refine wc_ret ?_
  refine fin1 (.inr rfl) rfl rfl ?_
  exact ⟨_, rfl, _, rfl, hS9⟩

theorem world_same2 {w : World} {p : Nat} {W : WS} {LL : WL} {Lo : List (Bs × Nat)} {As : List Th} (hI : PagesOk W.objs) (hO : ObjL Lo W.objs) (h : Sat w ([mapT strK LL.bo (namesG Lo), starL (Lo.map (thOf W.objs)), blkT p (cellsW LL W.time), mapT strK LL.bc (cellsG W.cells), mapT strK LL.bl (cellsG W.logs)] ++ As)) : Sat w (worldT p W :: As) := by
  have h1 : Sat w (starL As :: [mapT strK LL.bo (namesG Lo), starL (Lo.map (thOf W.objs)), blkT p (cellsW LL W.time), mapT strK LL.bc (cellsG W.cells), mapT strK LL.bl (cellsG W.logs)]) := (h.perm List.perm_append_comm).fold
  have h2 := world_same hI hO (h1.reorder [1, 2, 3, 4, 5, 0] rfl)
  exact ((h2.reorder [1, 0] rfl).flat).perm List.perm_append_comm
theorem clone_end {w : World} {p gp : Nat} {W : WS} {LL LN : WL} {Lo Ln : List (Bs × Nat)} {F : Th} (hI : PagesOk W.objs) (hO : ObjL Lo W.objs) (hN : ObjL Ln W.objs)
    (h : Sat w [mapT strK LL.bo (namesG Lo), starL (Lo.map (thOf W.objs)), blkT p (cellsW LL W.time), mapT strK LL.bc (cellsG W.cells), mapT strK LL.bl (cellsG W.logs), mapT strK LN.bo (namesG Ln), starL (Ln.map (thOf W.objs)), blkT gp (cellsW LN W.time), mapT strK LN.bc (cellsG W.cells), mapT strK LN.bl (cellsG W.logs), F]) : Sat w [worldT gp W, worldT p W, F] := by
  have h1 := world_same2 (As := [_, _, _, _, _, _]) hI hO h
  exact world_same2 (As := [_, _]) hI hN (h1.reorder [1, 2, 3, 4, 5, 0, 6] rfl)
theorem names_some {Lo : List (Bs × Nat)} {k : Bs} {v : Value} (h : namesG Lo k = some v) : ∃ (m im : Nat), v = .map (some m) ∧ Lo[im]? = some (k, m) := by
  unfold namesG at h
  obtain ⟨m, h1, h2⟩ := Option.map_eq_some_iff.1 h
  obtain ⟨im, h3⟩ := assoc_mem h1
  exact ⟨m, im, h2.symm, h3⟩
structure CloSt (Lo Ln : List (Bs × Nat)) (dn : Bs → Prop) : Prop where
  nodup : (Ln.map (·.1)).Nodup
  mem : ∀ n, n ∈ Ln.map (·.1) ↔ dn n
  sub : ∀ n, dn n → n ∈ Lo.map (·.1)
theorem CloSt.start (Lo : List (Bs × Nat)) : CloSt Lo [] (fun _ => False) := ⟨by simp, by simp, fun _ h => h.elim⟩
theorem CloSt.step {Lo Ln : List (Bs × Nat)} {dn : Bs → Prop} {k : Bs} {m im nb : Nat} (h : CloSt Lo Ln dn) (hn : ¬ dn k) (him : Lo[im]? = some (k, m)) : CloSt Lo ((k, nb) :: Ln) (fun j => dn j ∨ j = k) where
  nodup := List.nodup_cons.2 ⟨fun hm => hn ((h.mem k).1 hm), h.nodup⟩
  mem := fun n => by
    rw [List.map_cons, List.mem_cons, h.mem n]
    exact or_comm
  sub := fun n hd => by
    rcases hd with hd | rfl
    · exact h.sub n hd
    · exact List.mem_map.2 ⟨(n, m), List.mem_of_getElem? him, rfl⟩
theorem CloSt.done {W : WS} {Lo Ln : List (Bs × Nat)} {dn : Bs → Prop} (hO : ObjL Lo W.objs) (h : CloSt Lo Ln dn) (hd : ∀ k v, namesG Lo k = some v → dn k) : ObjL Ln W.objs := by
  refine ⟨h.nodup, fun n => ?_⟩
  rw [h.mem, ← hO.has]
  refine ⟨h.sub n, fun hm => ?_⟩
  cases ha : assoc Lo n with
  | none => exact absurd hm (assoc_none.1 ha)
  | some m => exact hd n (.map (some m)) (by simp [namesG, ha])
set_option maxRecDepth 100000 in
theorem clone_w {w : World} {p : Nat} {W : WS} {F : Th} (hS : Sat w [worldT p W, F]) :
    Calls Tryd.prog 19 #[ptrV p 0] w (Ret fun v w' => ∃ q, v = ptrV q 0 ∧ Sat w' [worldT q W, worldT p W, F]) := by
  obtain ⟨LL, hI, hS⟩ := worldT_open hS
  obtain ⟨Lo, hO, hS⟩ := objsT_open (hS.pull 2 rfl); dsimp only [List.eraseIdx] at hS
  refine calls_enter Tryd.func19 rfl Tryd.ntmps19 rfl ?_
  refine wc_seq ?_
  refine wc_region ?_
  refine wl_assign rfl rfl ?_
  refine wl_nil ?_
  refine qs_seq ?_
  refine wc_mid (fun E0 W0 => ∃ (nc gob nl gp : Nat), E0 = [(0, ptrV p 0), (3, ptrV gp 0)] ∧ Sat W0 [mapT strK LL.bo (namesG Lo), starL (Lo.map (thOf W.objs)), blkT p (cellsW LL W.time), mapT strK LL.bc (cellsG W.cells), mapT strK LL.bl (cellsG W.logs), blkT gp (cellsW ⟨nc, gob, nl⟩ W.time), mapT strK nc (cellsG W.cells), mapT strK nl (cellsG W.logs), mapT strK gob (namesG []), F]) ?_ ?_
  · skip
    have hS2 := hS.drew
    refine wc_draws mix ?_
    refine dr_split 4 5 rfl ?_ ?_
    · skip
      refine dr_split 5 10 rfl ?_ ?_
      · skip
        refine dr_vc (sp := [4, 5, 10, 16]) [0, 1, 2, 3, 6, 7, 8, 9, 11, 12, 13, 14, 4, 5, 10, 15, 16, 17] (by kernel_rfl) ?_
        refine vc_p rfl rfl rfl (fun _ => (ev_move rfl)) ?_
        refine vc_p rfl rfl rfl (fun _ => (ev_nilCheck rfl)) ?_
        refine vc_p rfl rfl rfl (fun _ => (ev_fieldAddr rfl fo_68_0)) ?_
        refine vc_q rfl rfl rfl (ev_load rfl ag_65 (by first | assumption | exact hS2.cell 1 rfl rfl | exact hS2.cell 2 rfl rfl)) ?_
        refine vc_p rfl rfl rfl (fun _ => (ev_move rfl)) ?_
        refine vc_p rfl rfl rfl (fun _ => (ev_nilCheck rfl)) ?_
        refine vc_p rfl rfl rfl (fun _ => (ev_fieldAddr rfl fo_68_2)) ?_
        refine vc_q rfl rfl rfl (ev_load rfl ag_65 (by first | assumption | exact hS2.cell 1 rfl rfl | exact hS2.cell 2 rfl rfl)) ?_
        refine vc_p rfl rfl rfl (fun _ => (ev_move rfl)) ?_
        refine vc_p rfl rfl rfl (fun _ => (ev_nilCheck rfl)) ?_
        refine vc_p rfl rfl rfl (fun _ => (ev_fieldAddr rfl fo_68_3)) ?_
        refine vc_q rfl rfl rfl (ev_load rfl ag_3 (by first | assumption | exact hS2.cell 1 rfl rfl | exact hS2.cell 2 rfl rfl)) ?_
        refine vc_s rfl rfl rfl rfl rfl rfl ?_
        have hC3 := hS2.split [3] [false, false, false, true, false, false] rfl; dsimp only [selF, pickA, nthA, List.cons_append, List.nil_append] at hC3
        refine wl_call cal_48 rfl (cloneS_sp hC3) rfl ?_
        rintro e w3 ⟨_, rfl, nc, rfl, hS3⟩; refine ⟨_, rfl, ?_⟩
        replace hS3 := hS3.join rfl; dsimp only [List.dropLast, List.cons_append, List.nil_append] at hS3; clear hC3
        clear hS2
        refine vc_e (.cons (.inl ⟨rfl, (ev_load rfl ag_3 (by first | assumption | exact hS3.cell 3 rfl rfl | exact hS3.cell 4 rfl rfl))⟩) (.cons (.inl ⟨rfl, (ev_load rfl ag_65 (by first | assumption | exact hS3.cell 3 rfl rfl | exact hS3.cell 4 rfl rfl))⟩) (.skip (by kernel_rfl) .nil))) ?_
        refine vc_s rfl rfl rfl rfl rfl rfl ?_
        refine wl_makeMap strK hS3 rfl ?_
        intro gob w4 hS4
        clear hS3
        refine vc_e (.cons (.inl ⟨rfl, (ev_load rfl ag_3 (by first | assumption | exact hS4.cell 4 rfl rfl | exact hS4.cell 5 rfl rfl))⟩) (.cons (.inl ⟨rfl, (ev_load rfl ag_65 (by first | assumption | exact hS4.cell 4 rfl rfl | exact hS4.cell 5 rfl rfl))⟩) (.skip (by kernel_rfl) .nil))) ?_
        refine vc_s rfl rfl rfl rfl rfl rfl ?_
        have hC5 := hS4.split [6] [false, false, false, false, false, false, true, false] rfl; dsimp only [selF, pickA, nthA, List.cons_append, List.nil_append] at hC5
        refine wl_call cal_48 rfl (cloneS_sp hC5) rfl ?_
        rintro e w5 ⟨_, rfl, nl, rfl, hS5⟩; refine ⟨_, rfl, ?_⟩
        replace hS5 := hS5.join rfl; dsimp only [List.dropLast, List.cons_append, List.nil_append] at hS5; clear hC5
        clear hS4
        refine vc_e (.cons (.inl ⟨rfl, (ev_load rfl ag_3 (by first | assumption | exact hS5.cell 6 rfl rfl | exact hS5.cell 7 rfl rfl))⟩) (.skip (by kernel_rfl) (.skip (by kernel_rfl) .nil))) ?_
        refine vc_p rfl rfl rfl (fun _ => (ev_buildS rfl pl_68_0_1_2_3 asz_68 zr_68 rfl)) ?_
        refine vc_s rfl rfl rfl rfl rfl rfl ?_
        refine wl_box hS5 rfl rfl rfl ?_
        intro gp w6 hS6
        clear hS5
        refine vc_e (.skip (by kernel_rfl) (.skip (by kernel_rfl) (.skip (by kernel_rfl) .nil))) ?_
        refine vc_p rfl rfl rfl (fun _ => (ev_assign rfl)) ?_
        refine VC.nil ?_
        exact qs_mid (.cons rfl (.cons rfl .nil)) ⟨_, _, _, _, rfl, hS6.pick [6, 7, 8, 5, 2, 0, 4, 1, 3, 9] rfl⟩
      · skip
        refine dr_vc (sp := [4, 5, 10, 16]) [0, 1, 2, 3, 6, 7, 8, 9, 11, 12, 13, 14, 4, 10, 5, 15, 16, 17] (by kernel_rfl) ?_
        refine vc_p rfl rfl rfl (fun _ => (ev_move rfl)) ?_
        refine vc_p rfl rfl rfl (fun _ => (ev_nilCheck rfl)) ?_
        refine vc_p rfl rfl rfl (fun _ => (ev_fieldAddr rfl fo_68_0)) ?_
        refine vc_q rfl rfl rfl (ev_load rfl ag_65 (by first | assumption | exact hS2.cell 1 rfl rfl | exact hS2.cell 2 rfl rfl)) ?_
        refine vc_p rfl rfl rfl (fun _ => (ev_move rfl)) ?_
        refine vc_p rfl rfl rfl (fun _ => (ev_nilCheck rfl)) ?_
        refine vc_p rfl rfl rfl (fun _ => (ev_fieldAddr rfl fo_68_2)) ?_
        refine vc_q rfl rfl rfl (ev_load rfl ag_65 (by first | assumption | exact hS2.cell 1 rfl rfl | exact hS2.cell 2 rfl rfl)) ?_
        refine vc_p rfl rfl rfl (fun _ => (ev_move rfl)) ?_
        refine vc_p rfl rfl rfl (fun _ => (ev_nilCheck rfl)) ?_
        refine vc_p rfl rfl rfl (fun _ => (ev_fieldAddr rfl fo_68_3)) ?_
        refine vc_q rfl rfl rfl (ev_load rfl ag_3 (by first | assumption | exact hS2.cell 1 rfl rfl | exact hS2.cell 2 rfl rfl)) ?_
        refine vc_s rfl rfl rfl rfl rfl rfl ?_
        have hC7 := hS2.split [3] [false, false, false, true, false, false] rfl; dsimp only [selF, pickA, nthA, List.cons_append, List.nil_append] at hC7
        refine wl_call cal_48 rfl (cloneS_sp hC7) rfl ?_
        rintro e w7 ⟨_, rfl, nc, rfl, hS7⟩; refine ⟨_, rfl, ?_⟩
        replace hS7 := hS7.join rfl; dsimp only [List.dropLast, List.cons_append, List.nil_append] at hS7; clear hC7
        clear hS2
        refine vc_e (.cons (.inl ⟨rfl, (ev_load rfl ag_3 (by first | assumption | exact hS7.cell 3 rfl rfl | exact hS7.cell 4 rfl rfl))⟩) (.cons (.inl ⟨rfl, (ev_load rfl ag_65 (by first | assumption | exact hS7.cell 3 rfl rfl | exact hS7.cell 4 rfl rfl))⟩) (.skip (by kernel_rfl) .nil))) ?_
        refine vc_s rfl rfl rfl rfl rfl rfl ?_
        have hC8 := hS7.split [5] [false, false, false, false, false, true, false] rfl; dsimp only [selF, pickA, nthA, List.cons_append, List.nil_append] at hC8
        refine wl_call cal_48 rfl (cloneS_sp hC8) rfl ?_
        rintro e w8 ⟨_, rfl, nl, rfl, hS8⟩; refine ⟨_, rfl, ?_⟩
        replace hS8 := hS8.join rfl; dsimp only [List.dropLast, List.cons_append, List.nil_append] at hS8; clear hC8
        clear hS7
        refine vc_e (.cons (.inl ⟨rfl, (ev_load rfl ag_3 (by first | assumption | exact hS8.cell 5 rfl rfl | exact hS8.cell 6 rfl rfl))⟩) (.skip (by kernel_rfl) (.skip (by kernel_rfl) .nil))) ?_
        refine vc_s rfl rfl rfl rfl rfl rfl ?_
        refine wl_makeMap strK hS8 rfl ?_
        intro gob w9 hS9
        clear hS8
        refine vc_e (.cons (.inl ⟨rfl, (ev_load rfl ag_3 (by first | assumption | exact hS9.cell 6 rfl rfl | exact hS9.cell 7 rfl rfl))⟩) (.cons (.inl ⟨rfl, (ev_load rfl ag_65 (by first | assumption | exact hS9.cell 6 rfl rfl | exact hS9.cell 7 rfl rfl))⟩) (.skip (by kernel_rfl) .nil))) ?_
        refine vc_p rfl rfl rfl (fun _ => (ev_buildS rfl pl_68_0_1_2_3 asz_68 zr_68 rfl)) ?_
        refine vc_s rfl rfl rfl rfl rfl rfl ?_
        refine wl_box hS9 rfl rfl rfl ?_
        intro gp w10 hS10
        clear hS9
        refine vc_e (.skip (by kernel_rfl) (.skip (by kernel_rfl) (.skip (by kernel_rfl) .nil))) ?_
        refine vc_p rfl rfl rfl (fun _ => (ev_assign rfl)) ?_
        refine VC.nil ?_
        exact qs_mid (.cons rfl (.cons rfl .nil)) ⟨_, _, _, _, rfl, hS10.pick [6, 7, 8, 5, 3, 0, 4, 2, 1, 9] rfl⟩
    · skip
      refine dr_vc (sp := [4, 5, 10, 16]) [0, 1, 2, 3, 6, 7, 8, 9, 11, 12, 13, 14, 5, 4, 10, 15, 16, 17] (by kernel_rfl) ?_
      refine vc_p rfl rfl rfl (fun _ => (ev_move rfl)) ?_
      refine vc_p rfl rfl rfl (fun _ => (ev_nilCheck rfl)) ?_
      refine vc_p rfl rfl rfl (fun _ => (ev_fieldAddr rfl fo_68_0)) ?_
      refine vc_q rfl rfl rfl (ev_load rfl ag_65 (by first | assumption | exact hS2.cell 1 rfl rfl | exact hS2.cell 2 rfl rfl)) ?_
      refine vc_p rfl rfl rfl (fun _ => (ev_move rfl)) ?_
      refine vc_p rfl rfl rfl (fun _ => (ev_nilCheck rfl)) ?_
      refine vc_p rfl rfl rfl (fun _ => (ev_fieldAddr rfl fo_68_2)) ?_
      refine vc_q rfl rfl rfl (ev_load rfl ag_65 (by first | assumption | exact hS2.cell 1 rfl rfl | exact hS2.cell 2 rfl rfl)) ?_
      refine vc_p rfl rfl rfl (fun _ => (ev_move rfl)) ?_
      refine vc_p rfl rfl rfl (fun _ => (ev_nilCheck rfl)) ?_
      refine vc_p rfl rfl rfl (fun _ => (ev_fieldAddr rfl fo_68_3)) ?_
      refine vc_q rfl rfl rfl (ev_load rfl ag_3 (by first | assumption | exact hS2.cell 1 rfl rfl | exact hS2.cell 2 rfl rfl)) ?_
      refine vc_s rfl rfl rfl rfl rfl rfl ?_
      refine wl_makeMap strK hS2 rfl ?_
      intro gob w11 hS11
      clear hS2
      refine vc_e (.cons (.inl ⟨rfl, (ev_load rfl ag_3 (by first | assumption | exact hS11.cell 2 rfl rfl | exact hS11.cell 3 rfl rfl))⟩) (.cons (.inl ⟨rfl, (ev_load rfl ag_65 (by first | assumption | exact hS11.cell 2 rfl rfl | exact hS11.cell 3 rfl rfl))⟩) (.cons (.inl ⟨rfl, (ev_load rfl ag_65 (by first | assumption | exact hS11.cell 2 rfl rfl | exact hS11.cell 3 rfl rfl))⟩) .nil))) ?_
      refine vc_s rfl rfl rfl rfl rfl rfl ?_
      have hC12 := hS11.split [4] [false, false, false, false, true, false, false] rfl; dsimp only [selF, pickA, nthA, List.cons_append, List.nil_append] at hC12
      refine wl_call cal_48 rfl (cloneS_sp hC12) rfl ?_
      rintro e w12 ⟨_, rfl, nc, rfl, hS12⟩; refine ⟨_, rfl, ?_⟩
      replace hS12 := hS12.join rfl; dsimp only [List.dropLast, List.cons_append, List.nil_append] at hS12; clear hC12
      clear hS11
      refine vc_e (.cons (.inl ⟨rfl, (ev_load rfl ag_3 (by first | assumption | exact hS12.cell 4 rfl rfl | exact hS12.cell 5 rfl rfl))⟩) (.cons (.inl ⟨rfl, (ev_load rfl ag_65 (by first | assumption | exact hS12.cell 4 rfl rfl | exact hS12.cell 5 rfl rfl))⟩) (.skip (by kernel_rfl) .nil))) ?_
      refine vc_s rfl rfl rfl rfl rfl rfl ?_
      have hC13 := hS12.split [6] [false, false, false, false, false, false, true, false] rfl; dsimp only [selF, pickA, nthA, List.cons_append, List.nil_append] at hC13
      refine wl_call cal_48 rfl (cloneS_sp hC13) rfl ?_
      rintro e w13 ⟨_, rfl, nl, rfl, hS13⟩; refine ⟨_, rfl, ?_⟩
      replace hS13 := hS13.join rfl; dsimp only [List.dropLast, List.cons_append, List.nil_append] at hS13; clear hC13
      clear hS12
      refine vc_e (.cons (.inl ⟨rfl, (ev_load rfl ag_3 (by first | assumption | exact hS13.cell 6 rfl rfl | exact hS13.cell 7 rfl rfl))⟩) (.skip (by kernel_rfl) (.skip (by kernel_rfl) .nil))) ?_
      refine vc_p rfl rfl rfl (fun _ => (ev_buildS rfl pl_68_0_1_2_3 asz_68 zr_68 rfl)) ?_
      refine vc_s rfl rfl rfl rfl rfl rfl ?_
      refine wl_box hS13 rfl rfl rfl ?_
      intro gp w14 hS14
      clear hS13
      refine vc_e (.skip (by kernel_rfl) (.skip (by kernel_rfl) (.skip (by kernel_rfl) .nil))) ?_
      refine vc_p rfl rfl rfl (fun _ => (ev_assign rfl)) ?_
      refine VC.nil ?_
      exact qs_mid (.cons rfl (.cons rfl .nil)) ⟨_, _, _, _, rfl, hS14.pick [6, 7, 8, 4, 2, 0, 3, 1, 5, 9] rfl⟩
  rintro _ w1 ⟨nc, gob, nl, gp, rfl, hS1⟩
  refine wc_seq ?_
  refine wc_seq ?_
  refine wc_region ?_
  refine wl_move rfl rfl ?_
  refine wl_nilCheck rfl rfl ?_
  refine wl_fieldAddr rfl fo_68_1 rfl ?_
  refine wl_load rfl ag_66 (by first | assumption | exact hS1.cell 1 rfl rfl | exact hS1.cell 2 rfl rfl | exact hS1.cell 5 rfl rfl) rfl ?_
  refine wl_range 0 hS1 Tryd.underlying66 rfl rfl rfl ?_
  intro RR left0 wR hSR; dsimp only [List.set] at hSR
  refine wl_nil ?_
  refine qs_seq ?_
  refine wc_block ?_
  refine wc_loop (fun K0 E0 W0 => ∃ (dn : Bs → Prop) (cur : Option Bs) (left : Nat) (Ln : List (Bs × Nat)), K0 = 1 * left ∧ E0 = [(3, ptrV gp 0), (27, ptrV RR 0)] ∧ Sat W0 [rangeT strK LL.bo RR (namesG Lo) dn cur left, starL (Lo.map (thOf W.objs)), blkT p (cellsW LL W.time), mapT strK LL.bc (cellsG W.cells), mapT strK LL.bl (cellsG W.logs), blkT gp (cellsW ⟨nc, gob, nl⟩ W.time), mapT strK nc (cellsG W.cells), mapT strK nl (cellsG W.logs), mapT strK gob (namesG Ln), starL (Ln.map (thOf W.objs)), F] ∧ (CloSt Lo Ln dn)) (L0 := [(3, _), (27, _)]) (1 * left0) (.cons rfl (.cons rfl .nil)) ⟨_, _, _, [], rfl, rfl, (Sat.new (hSR.pick [0, 1, 2, 3, 4, 5, 6, 7, 8, 9] rfl) (Only.refl [] _) (A := empT) (F' := fun _ => False) rfl (fun _ q => q.elim)).reorder [1, 2, 3, 4, 5, 6, 7, 8, 9, 0, 10] rfl, CloSt.start Lo⟩ ?_
  rintro _ _ w15 ⟨dn, cur, left, Ln, rfl, rfl, hS15, hcl⟩
  refine wc_seq ?_
  refine wc_region ?_
  refine wl_next 0 hS15 keysStr.inj rfl rfl rfl (fun hdone => ?_) (fun k v left2 w2 hleft hgk hnd hS2 => ?_)
  · skip
    refine wl_extract rfl rfl rfl ?_
    refine wl_nil ?_
    refine qs_seq ?_
    refine wc_seq ?_
    refine wc_condF rfl ?_
    refine wc_exit ?_
    refine qs_then_exit ?_
    refine qs_then_exit ?_
    refine qs_block_exit ?_
    refine qs_seq ?_
    refine wc_seq ?_
    refine wc_region ?_
    refine wl_move rfl rfl ?_
    refine wl_assign rfl rfl ?_
    refine wl_nil ?_
    refine qs_seq ?_
    refine wc_ret ?_
    refine fin1 (.inr rfl) rfl rfl ?_
    have hSz := range_map (hS15.pick [0, 1, 2, 3, 4, 5, 6, 7, 8, 9, 10] rfl)
    exact ⟨_, rfl, gp, rfl, clone_end (LN := ⟨nc, gob, nl⟩) hI hO (hcl.done hO hdone) (hSz.reorder [0, 1, 2, 3, 4, 8, 9, 5, 6, 7, 10] rfl)⟩
  · skip
    dsimp only [List.set] at hS2
    obtain ⟨m, im, rfl, him⟩ := names_some hgk
    have hS3 := big_out (i := im) (A := thOf W.objs (k, m)) (hS2.pull 1 rfl) (by simp [him]); dsimp only [List.eraseIdx, thOf] at hS3
    refine wl_extract rfl rfl rfl ?_
    refine wl_nil ?_
    refine qs_seq ?_
    refine wc_seq ?_
    refine wc_condT rfl ?_
    refine wc_skip ?_
    refine qs_seq ?_
    refine wc_block ?_
    refine wc_seq ?_
    refine wc_region ?_
    refine wl_entry 2 hS3 rfl hgk rfl rfl ?_
    refine wl_extract rfl rfl rfl ?_
    refine wl_extract rfl rfl rfl ?_
    refine wl_assign rfl rfl ?_
    refine wl_assign rfl rfl ?_
    refine wl_nil ?_
    refine qs_seq ?_
    have hS16 := hS3.drew
    refine wc_draw [0, 1, 2, 3, 4, 5, 6, 7] [6, 7] mix (by kernel_rfl) ?_
    refine vc_p rfl rfl rfl (fun _ => (ev_move rfl)) ?_
    refine vc_p rfl rfl rfl (fun _ => (ev_nilCheck rfl)) ?_
    refine vc_p rfl rfl rfl (fun _ => (ev_fieldAddr rfl fo_68_1)) ?_
    refine vc_q rfl rfl rfl (ev_load rfl ag_66 (by first | assumption | exact hS16.cell 1 rfl rfl | exact hS16.cell 3 rfl rfl | exact hS16.cell 6 rfl rfl | exact hS16.cell 10 rfl rfl)) ?_
    refine vc_p rfl rfl rfl (fun _ => (ev_move rfl)) ?_
    refine vc_p rfl rfl rfl (fun _ => (ev_move rfl)) ?_
    refine vc_s rfl rfl rfl rfl rfl rfl ?_
    have hC17 := hS16.split [0] [true, false, false, false, false, false, false, false, false, false, false, false] rfl; dsimp only [selF, pickA, nthA, List.cons_append, List.nil_append] at hC17
    refine wl_call cal_49 rfl (cloneP_sp hC17) rfl ?_
    rintro e w17 ⟨_, rfl, nb, rfl, hS17⟩; refine ⟨_, rfl, ?_⟩
    replace hS17 := hS17.join rfl; dsimp only [List.dropLast, List.cons_append, List.nil_append] at hS17; clear hC17
    clear hS16
    refine vc_e (.cons (.inl ⟨rfl, (ev_load rfl ag_66 (by first | assumption | exact hS17.cell 2 rfl rfl | exact hS17.cell 4 rfl rfl | exact hS17.cell 7 rfl rfl | exact hS17.cell 11 rfl rfl))⟩) .nil) ?_
    refine vc_s rfl rfl rfl rfl rfl rfl ?_
    refine wl_mapUpdate (k := k) 10 hS17 keysStr Tryd.underlying66 rfl rfl rfl rfl ?_
    intro w18 hS18; dsimp only [List.set] at hS18; rw [namesG_cons] at hS18
    clear hS17
    refine vc_e0 (.skip (by kernel_rfl) .nil) ?_
    refine VC.nil ?_
    refine qs_block_normal ?_
    have hSz := hS18.pick [1, 2, 0, 11, 3, 4, 5, 6, 7, 8, 9, 10, 12] rfl; dsimp only [pickA, nthA] at hSz
    rw [erase_map] at hSz
    have hSy := big_perm (big_in (i := 0) hSz) (perm_back (x := (k, m)) him (thOf W.objs))
    have hSx := big_in (i := 0) (hSy.reorder [1, 2, 0, 3, 4, 5, 6, 7, 8, 9, 10, 11] rfl)
    exact qs_round (L1 := [(3, _), (27, _)]) (.cons rfl (.cons rfl .nil)) (k1 := 1 * left2) (by omega) ⟨_, _, _, (k, nb) :: Ln, rfl, rfl, hSx.reorder [2, 1, 3, 4, 5, 6, 7, 8, 9, 0, 10] rfl, hcl.step hnd him⟩

end Go.Proofs.YtieelilkkpcmdaaDoor
