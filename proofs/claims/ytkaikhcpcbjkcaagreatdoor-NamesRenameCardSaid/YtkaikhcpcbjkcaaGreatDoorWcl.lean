/- world: Clone -/
import Derived.Test.YtkaikhcpcbjkcaaGreatDoorPp0
import Derived.Test.YtkaikhcpcbjkcaaGreatDoorNm7
import Derived.Test.YtkaikhcpcbjkcaaGreatDoorRng
import Derived.Test.YtkaikhcpcbjkcaaGreatDoorRow
namespace Go.Proofs.YtkaikhcpcbjkcaaGreatDoor
open Go.RowKit M
set_option linter.unusedVariables false
theorem cloneS_sp {w : World} {F : Th} {b : Nat} {g : Bs → Option Value} (hS : Sat w [mapT strK b g, F]) :
    Calls Tryz.prog 54 #[.map (some b)] w (Ret fun v w' => ∃ b', v = .map (some b') ∧ Sat w' [mapT strK b' g, mapT strK b g, F]) := by
 refine calls_enter Tryz.func54 rfl Tryz.ntmps54 rfl ?_
 refine wc_seq (wc_region (wl_assign rfl rfl (wl_nil (qs_seq (wc_seq (wc_seq (wc_region (wl_move rfl rfl ?_))))))))
 refine wl_eqlMapNil Tryz.underlying89 rfl rfl rfl ?_
 refine wl_nil (qs_seq ?_)
 refine wc_condF rfl ?_
 refine wc_skip (qs_seq (wc_seq (wc_region (wl_move rfl rfl ?_))))
 refine wl_makeIface nif_89 rfl rfl ?_
 refine wl_mapsClone 0 hS Tryz.func92 mc1 mc2 mc3 mc4 rfl rfl rfl ?_
 intro b9 w9 hS9
 refine wl_typeAssert nif_89 rfl rfl ?_
 refine wl_assign rfl rfl (wl_nil (qs_seq (wc_ret ?_)))
 refine fin1 (.inr rfl) rfl rfl ?_
 exact ⟨_, rfl, _, rfl, hS9⟩
theorem world_same2 {w : World} {p : Nat} {W : WS} {LL : WL} {Lo : List (Bs × Nat)} {As : List Th} (hI : PagesOk W.objs) (hO : ObjL Lo W.objs) (h : Sat w ([mapT strK LL.bo (namesG Lo), starL (Lo.map (thOf W.objs)), blkT p (cellsW LL W.time), mapT strK LL.bc (cellsG W.cells), mapT strK LL.bl (cellsG W.logs)] ++ As)) : Sat w (worldT p W :: As) := by
  have h1 : Sat w (starL As :: [mapT strK LL.bo (namesG Lo), starL (Lo.map (thOf W.objs)), blkT p (cellsW LL W.time), mapT strK LL.bc (cellsG W.cells), mapT strK LL.bl (cellsG W.logs)]) := (h.perm List.perm_append_comm).fold
  have h2 := world_same hI hO (h1.reorder [1, 2, 3, 4, 5, 0] rfl)
  exact ((h2.reorder [1, 0] rfl).flat).perm List.perm_append_comm
theorem clone_end {w : World} {p gp : Nat} {W : WS} {LL LN : WL} {Lo Ln : List (Bs × Nat)} {F : Th} (hI : PagesOk W.objs) (hO : ObjL Lo W.objs) (hN : ObjL Ln W.objs)
    (h : Sat w [mapT strK LL.bo (namesG Lo), starL (Lo.map (thOf W.objs)), blkT p (cellsW LL W.time), mapT strK LL.bc (cellsG W.cells), mapT strK LL.bl (cellsG W.logs), mapT strK LN.bo (namesG Ln), starL (Ln.map (thOf W.objs)), blkT gp (cellsW LN W.time), mapT strK LN.bc (cellsG W.cells), mapT strK LN.bl (cellsG W.logs), F]) : Sat w [worldT gp W, worldT p W, F] := by
  have h1 := world_same2 (As := [_, _, _, _, _, _]) hI hO h
  exact world_same2 (As := [_, _]) hI hN (h1.reorder [1, 2, 3, 4, 5, 0, 6] rfl)
theorem names_some {Lo : List (Bs × Nat)} {k : Bs} {v : Value} (h : namesG Lo k = some v) : ∃ (m im : Nat), v = .map (some m) ∧ Lo[im]? = some (k, m) := by
  unfold namesG at h
  obtain ⟨m, h1, h2⟩ := Option.map_eq_some_iff.1 h
  obtain ⟨im, h3⟩ := assoc_mem h1
  exact ⟨m, im, h2.symm, h3⟩
structure CloSt (Lo Ln : List (Bs × Nat)) (dn : Bs → Prop) : Prop where
  nodup : (Ln.map (·.1)).Nodup
  mem : ∀ n, n ∈ Ln.map (·.1) ↔ dn n
  sub : ∀ n, dn n → n ∈ Lo.map (·.1)
theorem CloSt.start (Lo : List (Bs × Nat)) : CloSt Lo [] (fun _ => False) := ⟨by simp, by simp, fun _ h => h.elim⟩
theorem CloSt.step {Lo Ln : List (Bs × Nat)} {dn : Bs → Prop} {k : Bs} {m im nb : Nat} (h : CloSt Lo Ln dn) (hn : ¬ dn k) (him : Lo[im]? = some (k, m)) : CloSt Lo ((k, nb) :: Ln) (fun j => dn j ∨ j = k) where
  nodup := List.nodup_cons.2 ⟨fun hm => hn ((h.mem k).1 hm), h.nodup⟩
  mem := fun n => by
    rw [List.map_cons, List.mem_cons, h.mem n]
    exact or_comm
  sub := fun n hd => by
    rcases hd with hd | rfl
    · exact h.sub n hd
    · exact List.mem_map.2 ⟨(n, m), List.mem_of_getElem? him, rfl⟩
theorem CloSt.done {W : WS} {Lo Ln : List (Bs × Nat)} {dn : Bs → Prop} (hO : ObjL Lo W.objs) (h : CloSt Lo Ln dn) (hd : ∀ k v, namesG Lo k = some v → dn k) : ObjL Ln W.objs := by
  refine ⟨h.nodup, fun n => ?_⟩
  rw [h.mem, ← hO.has]
  refine ⟨h.sub n, fun hm => ?_⟩
  cases ha : assoc Lo n with
  | none => exact absurd hm (assoc_none.1 ha)
  | some m => exact hd n (.map (some m)) (by simp [namesG, ha])
set_option maxRecDepth 100000 in
theorem clone_w {w : World} {p : Nat} {W : WS} {F : Th} (hS : Sat w [worldT p W, F]) :
    Calls Tryz.prog 14 #[ptrV p 0] w (Ret fun v w' => ∃ q, v = ptrV q 0 ∧ Sat w' [worldT q W, worldT p W, F]) := by
 obtain ⟨LL, hI, hS⟩ := worldT_open hS
 obtain ⟨Lo, hO, hS⟩ := objsT_open (hS.pull 2 rfl); dsimp only [List.eraseIdx] at hS
 refine calls_enter Tryz.func14 rfl Tryz.ntmps14 rfl ?_
 refine wc_seq (wc_region (wl_assign rfl rfl (wl_nil (qs_seq ?_))))
 refine wc_mid (fun E0 W0 => ∃ (nc gob nl gp : Nat), E0 = [(0, ptrV p 0), (3, ptrV gp 0)] ∧ Sat W0 [mapT strK LL.bo (namesG Lo), starL (Lo.map (thOf W.objs)), blkT p (cellsW LL W.time), mapT strK LL.bc (cellsG W.cells), mapT strK LL.bl (cellsG W.logs), blkT gp (cellsW ⟨nc, gob, nl⟩ W.time), mapT strK nc (cellsG W.cells), mapT strK nl (cellsG W.logs), mapT strK gob (namesG []), F]) ?_ ?_
 ·have hS2 := hS.drew
  refine wc_draws mix ?_
  refine dr_split 4 5 rfl ?_ ?_
  ·refine dr_split 5 10 rfl ?_ ?_
   ·refine dr_vc (sp := [4, 5, 10, 16]) [0, 1, 2, 3, 6, 7, 8, 9, 11, 12, 13, 14, 4, 5, 10, 15, 16, 17] (by kernel_rfl) ?_
    refine vc_p rfl rfl rfl (fun _ => (ev_move rfl)) ?_
    refine vc_p rfl rfl rfl (fun _ => (ev_nilCheck rfl)) ?_
    refine vc_p rfl rfl rfl (fun _ => (ev_fieldAddr rfl fo_93_0)) ?_
    refine vc_q rfl rfl rfl (ev_load rfl ag_89 (by first | assumption | exact hS2.cell 1 rfl rfl | exact hS2.cell 2 rfl rfl)) ?_
    refine vc_p rfl rfl rfl (fun _ => (ev_move rfl)) ?_
    refine vc_p rfl rfl rfl (fun _ => (ev_nilCheck rfl)) ?_
    refine vc_p rfl rfl rfl (fun _ => (ev_fieldAddr rfl fo_93_2)) ?_
    refine vc_q rfl rfl rfl (ev_load rfl ag_89 (by first | assumption | exact hS2.cell 1 rfl rfl | exact hS2.cell 2 rfl rfl)) ?_
    refine vc_p rfl rfl rfl (fun _ => (ev_move rfl)) ?_
    refine vc_p rfl rfl rfl (fun _ => (ev_nilCheck rfl)) ?_
    refine vc_p rfl rfl rfl (fun _ => (ev_fieldAddr rfl fo_93_3)) ?_
    refine vc_q rfl rfl rfl (ev_load rfl ag_3 (by first | assumption | exact hS2.cell 1 rfl rfl | exact hS2.cell 2 rfl rfl)) ?_
    refine vc_s rfl rfl rfl rfl rfl rfl ?_
    have hC3 := hS2.split [3] [false, false, false, true, false, false] rfl; dsimp only [selF, pickA, nthA, List.cons_append, List.nil_append] at hC3
    refine wl_call cal_54 rfl (cloneS_sp hC3) rfl ?_
    rintro e w3 ⟨_, rfl, nc, rfl, hS3⟩; refine ⟨_, rfl, ?_⟩
    replace hS3 := hS3.join rfl; dsimp only [List.dropLast, List.cons_append, List.nil_append] at hS3; clear hC3
    clear hS2
    refine vc_e (.cons (.inl ⟨rfl, (ev_load rfl ag_3 (by first | assumption | exact hS3.cell 3 rfl rfl | exact hS3.cell 4 rfl rfl))⟩) (.cons (.inl ⟨rfl, (ev_load rfl ag_89 (by first | assumption | exact hS3.cell 3 rfl rfl | exact hS3.cell 4 rfl rfl))⟩) (.skip (by kernel_rfl) .nil))) ?_
    refine vc_s rfl rfl rfl rfl rfl rfl ?_
    refine wl_makeMap strK hS3 rfl ?_
    intro gob w4 hS4
    clear hS3
    refine vc_e (.cons (.inl ⟨rfl, (ev_load rfl ag_3 (by first | assumption | exact hS4.cell 4 rfl rfl | exact hS4.cell 5 rfl rfl))⟩) (.cons (.inl ⟨rfl, (ev_load rfl ag_89 (by first | assumption | exact hS4.cell 4 rfl rfl | exact hS4.cell 5 rfl rfl))⟩) (.skip (by kernel_rfl) .nil))) ?_
    refine vc_s rfl rfl rfl rfl rfl rfl ?_
    have hC5 := hS4.split [6] [false, false, false, false, false, false, true, false] rfl; dsimp only [selF, pickA, nthA, List.cons_append, List.nil_append] at hC5
    refine wl_call cal_54 rfl (cloneS_sp hC5) rfl ?_
    rintro e w5 ⟨_, rfl, nl, rfl, hS5⟩; refine ⟨_, rfl, ?_⟩
    replace hS5 := hS5.join rfl; dsimp only [List.dropLast, List.cons_append, List.nil_append] at hS5; clear hC5
    clear hS4
    refine vc_e (.cons (.inl ⟨rfl, (ev_load rfl ag_3 (by first | assumption | exact hS5.cell 6 rfl rfl | exact hS5.cell 7 rfl rfl))⟩) (.skip (by kernel_rfl) (.skip (by kernel_rfl) .nil))) ?_
    refine vc_p rfl rfl rfl (fun _ => (ev_buildS rfl pl_93_0_1_2_3 asz_93 zr_93 rfl)) ?_
    refine vc_s rfl rfl rfl rfl rfl rfl ?_
    refine wl_box hS5 rfl rfl rfl ?_
    intro gp w6 hS6
    clear hS5
    refine vc_e (.skip (by kernel_rfl) (.skip (by kernel_rfl) (.skip (by kernel_rfl) .nil))) ?_
    refine vc_p rfl rfl rfl (fun _ => (ev_assign rfl)) ?_
    refine VC.nil ?_
    exact qs_mid (.cons rfl (.cons rfl .nil)) ⟨_, _, _, _, rfl, hS6.pick [6, 7, 8, 5, 2, 0, 4, 1, 3, 9] rfl⟩
   refine dr_vc (sp := [4, 5, 10, 16]) [0, 1, 2, 3, 6, 7, 8, 9, 11, 12, 13, 14, 4, 10, 5, 15, 16, 17] (by kernel_rfl) ?_
   refine vc_p rfl rfl rfl (fun _ => (ev_move rfl)) ?_
   refine vc_p rfl rfl rfl (fun _ => (ev_nilCheck rfl)) ?_
   refine vc_p rfl rfl rfl (fun _ => (ev_fieldAddr rfl fo_93_0)) ?_
   refine vc_q rfl rfl rfl (ev_load rfl ag_89 (by first | assumption | exact hS2.cell 1 rfl rfl | exact hS2.cell 2 rfl rfl)) ?_
   refine vc_p rfl rfl rfl (fun _ => (ev_move rfl)) ?_
   refine vc_p rfl rfl rfl (fun _ => (ev_nilCheck rfl)) ?_
   refine vc_p rfl rfl rfl (fun _ => (ev_fieldAddr rfl fo_93_2)) ?_
   refine vc_q rfl rfl rfl (ev_load rfl ag_89 (by first | assumption | exact hS2.cell 1 rfl rfl | exact hS2.cell 2 rfl rfl)) ?_
   refine vc_p rfl rfl rfl (fun _ => (ev_move rfl)) ?_
   refine vc_p rfl rfl rfl (fun _ => (ev_nilCheck rfl)) ?_
   refine vc_p rfl rfl rfl (fun _ => (ev_fieldAddr rfl fo_93_3)) ?_
   refine vc_q rfl rfl rfl (ev_load rfl ag_3 (by first | assumption | exact hS2.cell 1 rfl rfl | exact hS2.cell 2 rfl rfl)) ?_
   refine vc_s rfl rfl rfl rfl rfl rfl ?_
   have hC7 := hS2.split [3] [false, false, false, true, false, false] rfl; dsimp only [selF, pickA, nthA, List.cons_append, List.nil_append] at hC7
   refine wl_call cal_54 rfl (cloneS_sp hC7) rfl ?_
   rintro e w7 ⟨_, rfl, nc, rfl, hS7⟩; refine ⟨_, rfl, ?_⟩
   replace hS7 := hS7.join rfl; dsimp only [List.dropLast, List.cons_append, List.nil_append] at hS7; clear hC7
   clear hS2
   refine vc_e (.cons (.inl ⟨rfl, (ev_load rfl ag_3 (by first | assumption | exact hS7.cell 3 rfl rfl | exact hS7.cell 4 rfl rfl))⟩) (.cons (.inl ⟨rfl, (ev_load rfl ag_89 (by first | assumption | exact hS7.cell 3 rfl rfl | exact hS7.cell 4 rfl rfl))⟩) (.skip (by kernel_rfl) .nil))) ?_
   refine vc_s rfl rfl rfl rfl rfl rfl ?_
   have hC8 := hS7.split [5] [false, false, false, false, false, true, false] rfl; dsimp only [selF, pickA, nthA, List.cons_append, List.nil_append] at hC8
   refine wl_call cal_54 rfl (cloneS_sp hC8) rfl ?_
   rintro e w8 ⟨_, rfl, nl, rfl, hS8⟩; refine ⟨_, rfl, ?_⟩
   replace hS8 := hS8.join rfl; dsimp only [List.dropLast, List.cons_append, List.nil_append] at hS8; clear hC8
   clear hS7
   refine vc_e (.cons (.inl ⟨rfl, (ev_load rfl ag_3 (by first | assumption | exact hS8.cell 5 rfl rfl | exact hS8.cell 6 rfl rfl))⟩) (.skip (by kernel_rfl) (.skip (by kernel_rfl) .nil))) ?_
   refine vc_s rfl rfl rfl rfl rfl rfl ?_
   refine wl_makeMap strK hS8 rfl ?_
   intro gob w9 hS9
   clear hS8
   refine vc_e (.cons (.inl ⟨rfl, (ev_load rfl ag_3 (by first | assumption | exact hS9.cell 6 rfl rfl | exact hS9.cell 7 rfl rfl))⟩) (.cons (.inl ⟨rfl, (ev_load rfl ag_89 (by first | assumption | exact hS9.cell 6 rfl rfl | exact hS9.cell 7 rfl rfl))⟩) (.skip (by kernel_rfl) .nil))) ?_
   refine vc_p rfl rfl rfl (fun _ => (ev_buildS rfl pl_93_0_1_2_3 asz_93 zr_93 rfl)) ?_
   refine vc_s rfl rfl rfl rfl rfl rfl ?_
   refine wl_box hS9 rfl rfl rfl ?_
   intro gp w10 hS10
   clear hS9
   refine vc_e (.skip (by kernel_rfl) (.skip (by kernel_rfl) (.skip (by kernel_rfl) .nil))) ?_
   refine vc_p rfl rfl rfl (fun _ => (ev_assign rfl)) ?_
   refine VC.nil ?_
   exact qs_mid (.cons rfl (.cons rfl .nil)) ⟨_, _, _, _, rfl, hS10.pick [6, 7, 8, 5, 3, 0, 4, 2, 1, 9] rfl⟩
  refine dr_vc (sp := [4, 5, 10, 16]) [0, 1, 2, 3, 6, 7, 8, 9, 11, 12, 13, 14, 5, 4, 10, 15, 16, 17] (by kernel_rfl) ?_
  refine vc_p rfl rfl rfl (fun _ => (ev_move rfl)) ?_
  refine vc_p rfl rfl rfl (fun _ => (ev_nilCheck rfl)) ?_
  refine vc_p rfl rfl rfl (fun _ => (ev_fieldAddr rfl fo_93_0)) ?_
  refine vc_q rfl rfl rfl (ev_load rfl ag_89 (by first | assumption | exact hS2.cell 1 rfl rfl | exact hS2.cell 2 rfl rfl)) ?_
  refine vc_p rfl rfl rfl (fun _ => (ev_move rfl)) ?_
  refine vc_p rfl rfl rfl (fun _ => (ev_nilCheck rfl)) ?_
  refine vc_p rfl rfl rfl (fun _ => (ev_fieldAddr rfl fo_93_2)) ?_
  refine vc_q rfl rfl rfl (ev_load rfl ag_89 (by first | assumption | exact hS2.cell 1 rfl rfl | exact hS2.cell 2 rfl rfl)) ?_
  refine vc_p rfl rfl rfl (fun _ => (ev_move rfl)) ?_
  refine vc_p rfl rfl rfl (fun _ => (ev_nilCheck rfl)) ?_
  refine vc_p rfl rfl rfl (fun _ => (ev_fieldAddr rfl fo_93_3)) ?_
  refine vc_q rfl rfl rfl (ev_load rfl ag_3 (by first | assumption | exact hS2.cell 1 rfl rfl | exact hS2.cell 2 rfl rfl)) ?_
  refine vc_s rfl rfl rfl rfl rfl rfl ?_
  refine wl_makeMap strK hS2 rfl ?_
  intro gob w11 hS11
  clear hS2
  refine vc_e (.cons (.inl ⟨rfl, (ev_load rfl ag_3 (by first | assumption | exact hS11.cell 2 rfl rfl | exact hS11.cell 3 rfl rfl))⟩) (.cons (.inl ⟨rfl, (ev_load rfl ag_89 (by first | assumption | exact hS11.cell 2 rfl rfl | exact hS11.cell 3 rfl rfl))⟩) (.cons (.inl ⟨rfl, (ev_load rfl ag_89 (by first | assumption | exact hS11.cell 2 rfl rfl | exact hS11.cell 3 rfl rfl))⟩) .nil))) ?_
  refine vc_s rfl rfl rfl rfl rfl rfl ?_
  have hC12 := hS11.split [4] [false, false, false, false, true, false, false] rfl; dsimp only [selF, pickA, nthA, List.cons_append, List.nil_append] at hC12
  refine wl_call cal_54 rfl (cloneS_sp hC12) rfl ?_
  rintro e w12 ⟨_, rfl, nc, rfl, hS12⟩; refine ⟨_, rfl, ?_⟩
  replace hS12 := hS12.join rfl; dsimp only [List.dropLast, List.cons_append, List.nil_append] at hS12; clear hC12
  clear hS11
  refine vc_e (.cons (.inl ⟨rfl, (ev_load rfl ag_3 (by first | assumption | exact hS12.cell 4 rfl rfl | exact hS12.cell 5 rfl rfl))⟩) (.cons (.inl ⟨rfl, (ev_load rfl ag_89 (by first | assumption | exact hS12.cell 4 rfl rfl | exact hS12.cell 5 rfl rfl))⟩) (.skip (by kernel_rfl) .nil))) ?_
  refine vc_s rfl rfl rfl rfl rfl rfl ?_
  have hC13 := hS12.split [6] [false, false, false, false, false, false, true, false] rfl; dsimp only [selF, pickA, nthA, List.cons_append, List.nil_append] at hC13
  refine wl_call cal_54 rfl (cloneS_sp hC13) rfl ?_
  rintro e w13 ⟨_, rfl, nl, rfl, hS13⟩; refine ⟨_, rfl, ?_⟩
  replace hS13 := hS13.join rfl; dsimp only [List.dropLast, List.cons_append, List.nil_append] at hS13; clear hC13
  clear hS12
  refine vc_e (.cons (.inl ⟨rfl, (ev_load rfl ag_3 (by first | assumption | exact hS13.cell 6 rfl rfl | exact hS13.cell 7 rfl rfl))⟩) (.skip (by kernel_rfl) (.skip (by kernel_rfl) .nil))) ?_
  refine vc_p rfl rfl rfl (fun _ => (ev_buildS rfl pl_93_0_1_2_3 asz_93 zr_93 rfl)) ?_
  refine vc_s rfl rfl rfl rfl rfl rfl ?_
  refine wl_box hS13 rfl rfl rfl ?_
  intro gp w14 hS14
  clear hS13
  refine vc_e (.skip (by kernel_rfl) (.skip (by kernel_rfl) (.skip (by kernel_rfl) .nil))) ?_
  refine vc_p rfl rfl rfl (fun _ => (ev_assign rfl)) ?_
  refine VC.nil ?_
  exact qs_mid (.cons rfl (.cons rfl .nil)) ⟨_, _, _, _, rfl, hS14.pick [6, 7, 8, 4, 2, 0, 3, 1, 5, 9] rfl⟩
 rintro _ w1 ⟨nc, gob, nl, gp, rfl, hS1⟩
 refine wc_seq (wc_seq (wc_region (wl_move rfl rfl (wl_nilCheck rfl rfl ?_))))
 refine wl_fieldAddr rfl fo_93_1 rfl ?_
 refine wl_load rfl ag_91 (by first | assumption | exact hS1.cell 1 rfl rfl | exact hS1.cell 2 rfl rfl | exact hS1.cell 5 rfl rfl) rfl ?_
 refine wl_range 0 hS1 Tryz.underlying91 rfl rfl rfl ?_
 intro RR left0 wR hSR; dsimp only [List.set] at hSR
 refine wl_nil (qs_seq (wc_block ?_))
 refine wc_loop (fun K0 E0 W0 => ∃ (dn : Bs → Prop) (cur : Option Bs) (left : Nat) (Ln : List (Bs × Nat)), K0 = 1 * left ∧ E0 = [(3, ptrV gp 0), (27, ptrV RR 0)] ∧ Sat W0 [rangeT strK LL.bo RR (namesG Lo) dn cur left, starL (Lo.map (thOf W.objs)), blkT p (cellsW LL W.time), mapT strK LL.bc (cellsG W.cells), mapT strK LL.bl (cellsG W.logs), blkT gp (cellsW ⟨nc, gob, nl⟩ W.time), mapT strK nc (cellsG W.cells), mapT strK nl (cellsG W.logs), mapT strK gob (namesG Ln), starL (Ln.map (thOf W.objs)), F] ∧ (CloSt Lo Ln dn)) (L0 := [(3, _), (27, _)]) (1 * left0) (.cons rfl (.cons rfl .nil)) ⟨_, _, _, [], rfl, rfl, (Sat.new (hSR.pick [0, 1, 2, 3, 4, 5, 6, 7, 8, 9] rfl) (Only.refl [] _) (A := empT) (F' := fun _ => False) rfl (fun _ q => q.elim)).reorder [1, 2, 3, 4, 5, 6, 7, 8, 9, 0, 10] rfl, CloSt.start Lo⟩ ?_
 rintro _ _ w15 ⟨dn, cur, left, Ln, rfl, rfl, hS15, hcl⟩
 refine wc_seq (wc_region ?_)
 refine wl_next 0 hS15 keysStr.inj rfl rfl rfl (fun hdone => ?_) (fun k v left2 w2 hleft hgk hnd hS2 => ?_)
 ·refine wl_extract rfl rfl rfl (wl_nil (qs_seq (wc_seq ?_)))
  refine wc_condF rfl ?_
  refine wc_exit (qs_then_exit (qs_then_exit (qs_block_exit (qs_seq (wc_seq (wc_region (wl_move rfl rfl (wl_assign rfl rfl (wl_nil (qs_seq (wc_ret ?_)))))))))))
  refine fin1 (.inr rfl) rfl rfl ?_
  have hSz := range_map (hS15.pick [0, 1, 2, 3, 4, 5, 6, 7, 8, 9, 10] rfl)
  exact ⟨_, rfl, gp, rfl, clone_end (LN := ⟨nc, gob, nl⟩) hI hO (hcl.done hO hdone) (hSz.reorder [0, 1, 2, 3, 4, 8, 9, 5, 6, 7, 10] rfl)⟩
 dsimp only [List.set] at hS2
 obtain ⟨m, im, rfl, him⟩ := names_some hgk
 have hS3 := big_out (i := im) (A := thOf W.objs (k, m)) (hS2.pull 1 rfl) (by simp [him]); dsimp only [List.eraseIdx, thOf] at hS3
 refine wl_extract rfl rfl rfl (wl_nil (qs_seq (wc_seq ?_)))
 refine wc_condT rfl ?_
 refine wc_skip (qs_seq (wc_block (wc_seq (wc_region ?_))))
 refine wl_entry 2 hS3 rfl hgk rfl rfl ?_
 refine wl_extract rfl rfl rfl (wl_extract rfl rfl rfl (wl_assign rfl rfl (wl_assign rfl rfl (wl_nil (qs_seq ?_)))))
 have hS16 := hS3.drew
 refine wc_draw [0, 1, 2, 3, 4, 5, 6, 7] [6, 7] mix (by kernel_rfl) ?_
 refine vc_p rfl rfl rfl (fun _ => (ev_move rfl)) ?_
 refine vc_p rfl rfl rfl (fun _ => (ev_nilCheck rfl)) ?_
 refine vc_p rfl rfl rfl (fun _ => (ev_fieldAddr rfl fo_93_1)) ?_
 refine vc_q rfl rfl rfl (ev_load rfl ag_91 (by first | assumption | exact hS16.cell 1 rfl rfl | exact hS16.cell 3 rfl rfl | exact hS16.cell 6 rfl rfl | exact hS16.cell 10 rfl rfl)) ?_
 refine vc_p rfl rfl rfl (fun _ => (ev_move rfl)) ?_
 refine vc_p rfl rfl rfl (fun _ => (ev_move rfl)) ?_
 refine vc_s rfl rfl rfl rfl rfl rfl ?_
 have hC17 := hS16.split [0] [true, false, false, false, false, false, false, false, false, false, false, false] rfl; dsimp only [selF, pickA, nthA, List.cons_append, List.nil_append] at hC17
 refine wl_call cal_55 rfl (cloneP_sp hC17) rfl ?_
 rintro e w17 ⟨_, rfl, nb, rfl, hS17⟩; refine ⟨_, rfl, ?_⟩
 replace hS17 := hS17.join rfl; dsimp only [List.dropLast, List.cons_append, List.nil_append] at hS17; clear hC17
 clear hS16
 refine vc_e (.cons (.inl ⟨rfl, (ev_load rfl ag_91 (by first | assumption | exact hS17.cell 2 rfl rfl | exact hS17.cell 4 rfl rfl | exact hS17.cell 7 rfl rfl | exact hS17.cell 11 rfl rfl))⟩) .nil) ?_
 refine vc_s rfl rfl rfl rfl rfl rfl ?_
 refine wl_mapUpdate (k := k) 10 hS17 keysStr Tryz.underlying91 rfl rfl rfl rfl ?_
 intro w18 hS18; dsimp only [List.set] at hS18; rw [namesG_cons] at hS18
 clear hS17
 refine vc_e0 (.skip (by kernel_rfl) .nil) ?_
 refine VC.nil (qs_block_normal ?_)
 have hSz := hS18.pick [1, 2, 0, 11, 3, 4, 5, 6, 7, 8, 9, 10, 12] rfl; dsimp only [pickA, nthA] at hSz
 rw [erase_map] at hSz
 have hSy := big_perm (big_in (i := 0) hSz) (perm_back (x := (k, m)) him (thOf W.objs))
 have hSx := big_in (i := 0) (hSy.reorder [1, 2, 0, 3, 4, 5, 6, 7, 8, 9, 10, 11] rfl)
 exact qs_round (L1 := [(3, _), (27, _)]) (.cons rfl (.cons rfl .nil)) (k1 := 1 * left2) (by omega) ⟨_, _, _, (k, nb) :: Ln, rfl, rfl, hSx.reorder [2, 1, 3, 4, 5, 6, 7, 8, 9, 0, 10] rfl, hcl.step hnd him⟩
end Go.Proofs.YtkaikhcpcbjkcaaGreatDoor
/- laws of names: few, do, right -/
namespace Go.Proofs.YtkaikhcpcbjkcaaGreatDoor
open Go.RowKit M
set_option linter.unusedVariables false
/-- a call of the law -/
structure AcD where
  d : Int
  dir : Bs
  name : Bs
  id : Bs
  td : Bs
  to : Bs
  n : InD
def acV (x : AcD) : List Value := [intV x.d, strV x.dir, strV x.name, strV x.id, strV x.td, strV x.to, intV x.n.k, intV x.n.sz, intV x.n.ln]
def acC : RowC AcD := ⟨acV, 9, by decide, fun _ => rfl, fun _ => rfl⟩
def okA (x : AcD) : Bool := decide (x.dir.length ≤ 30) && decide (x.name.length ≤ 30) && decide (x.id.length ≤ 30) && decide (x.td.length ≤ 30) && decide (x.to.length ≤ 30)
def fewA (l : List AcD) : Bool := l.all okA && decide (l.length ≤ 40)
theorem fewA_bad {l : List AcD} {i : Nat} {x : AcD} (ha : l[i]? = some x) (h : okA x = false) : Value.bool false = .bool (fewA l) := by
  have : l.all okA = false := by
    rw [List.all_eq_false]; exact ⟨x, List.mem_of_getElem? ha, by rw [h]; simp⟩
  simp [fewA, this]
theorem fewA_end {l : List AcD} {i : Nat} (hok : ∀ j a, j < i → l[j]? = some a → okA a = true) (hi : i ≤ l.length) (he : ¬ i < l.length) : Value.bool (decide ((l.length : Int) ≤ 40)) = .bool (fewA l) := by
  have : l.all okA = true := by
    rw [List.all_eq_true]; intro a ha
    obtain ⟨j, hj⟩ := List.mem_iff_getElem?.1 ha
    exact hok j a (by have := (List.getElem?_eq_some_iff.1 hj).1; omega) hj
  unfold fewA
  rw [this, Bool.true_and]
  congr 1
  exact decide_eq_decide.2 (by omega)
structure OkA (x : AcD) : Prop where
  dir : x.dir.length ≤ 30
  name : x.name.length ≤ 30
  id : x.id.length ≤ 30
  td : x.td.length ≤ 30
  to : x.to.length ≤ 30
theorem okA_is {x : AcD} (h : okA x = true) : OkA x := by
  simp only [okA, Bool.and_eq_true, decide_eq_true_eq] at h
  exact ⟨h.1.1.1.1, h.1.1.1.2, h.1.1.2, h.1.2, h.2⟩
noncomputable def doV (W : WS) (x : AcD) : Bs × Int :=
  if x.d % 8 = 0 then ([], linkE W x.dir x.name x.id) else if x.d % 8 = 1 then (unlS W x.dir x.name, unlE W x.dir x.name) else if x.d % 8 = 2 ∨ x.d % 8 = 3 then ([], mkdE W x.dir x.name x.id) else
    if x.d % 8 = 4 then ([], rmdE W x.dir x.name) else if x.d % 8 = 5 then (renS W x.dir x.name x.td x.to, renE W x.dir x.name x.td x.to) else ([], 0)
noncomputable def doW (W : WS) (x : AcD) : WS :=
  if x.d % 8 = 0 then linkW W x.dir x.name x.id else if x.d % 8 = 1 then unlW W x.dir x.name else if x.d % 8 = 2 ∨ x.d % 8 = 3 then mkdW W x.dir x.name x.id else
    if x.d % 8 = 4 then rmdW W x.dir x.name else if x.d % 8 = 5 then renW W x.dir x.name x.td x.to else if x.d % 8 = 6 then setI W x.id x.n else noI W x.id
theorem kE_len (dir name : Bs) : (kE dir name).length = dir.length + name.length + 3 := by unfold kE; simp; omega
theorem doW_pi {W : WS} {m : Nat} (h : PI W m) {x : AcD} (hx : OkA x) (hn : InB x.n) : PI (doW W x) (m + 5) := by
  have hE : ∀ {V : WS} {k : Nat} {a b v : Bs}, PI V k → a.length ≤ 30 → b.length ≤ 30 → v.length ≤ 400 → PI (putS V (kE a b) v) (k + 1) := fun hV ha hb hv => hV.put (by rw [kE_len]; omega) hv
  have hd := hx.dir; have hnm := hx.name; have hi := hx.id; have htd := hx.td; have hto := hx.to
  have hl1 := lookV_len h x.dir x.name
  have hl2 := lookV_len h x.td x.to
  unfold doW
  split
  · unfold linkW
    split
    · exact (setI_pi (hE h hd hnm (by omega)) (by omega) (lnk_in (gI_in _ _) _)).mono (by omega)
    · exact h.mono (by omega)
  · split
    · unfold unlW
      split
      · exact (setI_pi (hE h hd hnm (by simp)) (by omega) (lnk_in (lookV_in _ _ _) _)).mono (by omega)
      · exact h.mono (by omega)
    · split
      · unfold mkdW
        split
        · exact (hE ((setI_pi h (by omega) mkdI_in).put (by unfold kU; simp; omega) (by omega)) hd hnm (by omega)).mono (by omega)
        · exact h.mono (by omega)
      · split
        · unfold rmdW
          split
          · exact (noI_pi (hE h hd hnm (by simp)) (by omega)).mono (by omega)
          · exact h.mono (by omega)
        · split
          · unfold renW
            split
            · exact (hE (hE (repW_pi h (by omega) (lookV_in _ _ _)) hd hnm (by simp)) htd hto (by omega)).mono (by omega)
            · exact h.mono (by omega)
          · split
            · exact (setI_pi h (by omega) hn).mono (by omega)
            · exact (noI_pi h (by omega)).mono (by omega)
def rightB (id : Bs) : Bool := !decide ((47 : UInt8) ∈ id) && !decide (id = [])
def filI : InD := ⟨1, 0, 0⟩
theorem filI_in : InB filI := ⟨by unfold inI filI; simp, by unfold inI filI; simp, by unfold inI filI; simp⟩
noncomputable def groS (W : WS) (x : AcD) : WS := if x.d % 8 < 6 then doW W x else if bI W x.id = false ∧ rightB x.id = true then setI W x.id filI else W
noncomputable def groW (l : List AcD) : WS := l.foldl groS (initW emptyW)
theorem initW_pi : PI (initW emptyW) 2 := (setI_pi PI.empty (by simp) mkdI_in).put (by simp [kU]) (by simp)
theorem groS_pi {W : WS} {m : Nat} (h : PI W m) {x : AcD} (hx : OkA x) (hn : InB x.n) : PI (groS W x) (m + 5) := by
  unfold groS
  split
  · exact doW_pi h hx hn
  · split
    · exact (setI_pi h (by have := hx.id; omega) filI_in).mono (by omega)
    · exact h.mono (by omega)
set_option maxRecDepth 100000 in
set_option maxHeartbeats 800000 in
theorem few_sp {w : World} {F : Th} (hS : Sat w [F]) {lv : Value} {l : List AcD} (hL : Ent F (RdL acC lv l)) :
    Calls Tryz.prog 9 #[lv] w (Ret fun v w' => v = .bool (fewA l) ∧ Sat w' [F]) := by
 obtain ⟨ao, cap, rfl, hmax⟩ := (hL.sat hS 0 rfl).shape
 refine calls_enter Tryz.func9 rfl Tryz.ntmps9 rfl ?_
 refine wc_seq (wc_region (wl_assign rfl rfl (wl_nil (qs_seq (wc_seq (wc_seq (wc_region (wl_assign rfl rfl (wl_nil (qs_seq (wc_block ?_)))))))))))
 refine wc_loop (fun K0 E0 W0 => ∃ (i : Nat), K0 = l.length - i ∧ E0 = [(0, .slice ao l.length cap), (3, intV (i : Int))] ∧ Sat W0 [F] ∧ (i ≤ l.length) ∧ (∀ j a, j < i → l[j]? = some a → okA a = true)) (L0 := [(0, _), (3, _)]) (l.length - 0) (.cons rfl (.cons rfl .nil)) ⟨0, rfl, rfl, hS, by omega, by omega⟩ ?_
 rintro _ _ w1 ⟨i, rfl, rfl, hS1, hi, hok⟩
 refine wc_seq (wc_seq (wc_region (wl_move rfl rfl (wl_move rfl rfl ?_))))
 refine wl_lenL Tryz.underlying22 rfl rfl ?_
 refine wl_lss rfl rfl rfl ?_
 refine wl_nil (qs_seq ?_)
 refine wc_condD rfl (fun h2 => ?_) (fun h2 => ?_)
 ·obtain ⟨x, ha⟩ : ∃ x, l[i]? = some x := ⟨_, List.getElem?_eq_getElem (by omega)⟩
  obtain ⟨b, off, rfl, _⟩ := (hL.sat hS1 0 rfl).get ha
  have hil := (List.getElem?_eq_some_iff.1 ha).1
  refine wc_skip (qs_seq (wc_seq (wc_block (wc_seq (wc_region (wl_move rfl rfl (wl_move rfl rfl ?_)))))))
  refine wl_indexAddr i rfl rfl (by first | rfl | omega) (by omega) es_22 rfl ?_
  refine wl_loadAt rfl ag_37 sz_37 (vs := acV x) ((hL.sat hS1 0 rfl).at_ ha) rfl ?_
  refine wl_alloc hS1 zr_37 rfl rfl ?_
  intro b3 w3 hS3
  clear hS1
  first | (refine wl_storeA hS3 rfl rfl sz_37 rfl (by first | rfl | (simp [allOne, Value.oneCell']; done) | assumption | exact hone) (i := 0) rfl (by first | decide | exact Nat.le_of_ble_eq_true rfl | (simp; done) | omega) ?_)
  intro w4 hS5; dsimp only [List.set] at hS5
  clear hS3
  refine wl_nil (qs_seq ?_)
  refine wc_sub (L' := [(4, _), (0, _), (3, _)]) (.cons rfl (.cons rfl (.cons rfl .nil))) ?_
  refine wc_seq (wc_region ?_)
  refine wl_fieldAddr rfl fo_37_1 rfl ?_
  refine wl_load rfl ag_9 (by first | assumption | exact hS5.cell 0 rfl rfl) rfl ?_
  refine wl_lenS Tryz.underlying9 rfl rfl ?_
  refine wl_gtr rfl rfl rfl ?_
  refine wl_move rfl rfl ?_
  refine wl_splitD 19 rfl (fun h6 => ?_) (fun h6 => ?_)
  ·have hoo : okA x = false := by unfold okA; simp; omega
   refine wl_unwanted rfl rfl (decide_eq_true h6) rfl ?_
   refine wl_unwanted rfl rfl (decide_eq_true h6) rfl ?_
   refine wl_unwanted rfl rfl (decide_eq_true h6) rfl ?_
   refine wl_unwanted rfl rfl (decide_eq_true h6) rfl ?_
   refine wl_pickT rfl (decide_eq_true h6) rfl rfl ?_
   refine wl_move rfl rfl ?_
   refine wl_unwanted rfl rfl rfl rfl ?_
   refine wl_unwanted rfl rfl rfl rfl ?_
   refine wl_unwanted rfl rfl rfl rfl ?_
   refine wl_unwanted rfl rfl rfl rfl ?_
   refine wl_pickT rfl rfl rfl rfl ?_
   refine wl_move rfl rfl ?_
   refine wl_unwanted rfl rfl rfl rfl ?_
   refine wl_unwanted rfl rfl rfl rfl ?_
   refine wl_unwanted rfl rfl rfl rfl ?_
   refine wl_unwanted rfl rfl rfl rfl ?_
   refine wl_pickT rfl rfl rfl rfl ?_
   refine wl_move rfl rfl ?_
   refine wl_unwanted rfl rfl rfl rfl ?_
   refine wl_unwanted rfl rfl rfl rfl ?_
   refine wl_unwanted rfl rfl rfl rfl ?_
   refine wl_unwanted rfl rfl rfl rfl ?_
   refine wl_pickT rfl rfl rfl rfl ?_
   refine wl_nil (qs_seq ?_)
   refine wc_sub (L' := [(42, _), (0, _), (3, _)]) (.cons rfl (.cons rfl (.cons rfl .nil))) ?_
   refine wc_condT rfl ?_
   refine wc_seq (wc_region (wl_assign rfl rfl (wl_nil (qs_seq (wc_ret (qs_block_ret (qs_then_ret (qs_then_ret (qs_block_ret (qs_then_ret ?_))))))))))
   refine fin1 (.inr rfl) rfl rfl ?_
   exact ⟨_, rfl, fewA_bad ha hoo, hS5.pick [1] rfl⟩
  refine wl_guard rfl rfl (decide_eq_false h6) ?_
  refine wl_fieldAddr rfl fo_37_2 rfl ?_
  refine wl_guard rfl rfl (decide_eq_false h6) ?_
  refine wl_load rfl ag_9 (by first | assumption | exact hS5.cell 0 rfl rfl) rfl ?_
  refine wl_guard rfl rfl (decide_eq_false h6) ?_
  refine wl_lenS Tryz.underlying9 rfl rfl ?_
  refine wl_guard rfl rfl (decide_eq_false h6) ?_
  refine wl_gtr rfl rfl rfl ?_
  refine wl_pickF rfl (decide_eq_false h6) rfl rfl ?_
  refine wl_move rfl rfl ?_
  refine wl_splitD 25 rfl (fun h7 => ?_) (fun h7 => ?_)
  ·have hoo : okA x = false := by unfold okA; simp; omega
   refine wl_unwanted rfl rfl (decide_eq_true h7) rfl ?_
   refine wl_unwanted rfl rfl (decide_eq_true h7) rfl ?_
   refine wl_unwanted rfl rfl (decide_eq_true h7) rfl ?_
   refine wl_unwanted rfl rfl (decide_eq_true h7) rfl ?_
   refine wl_pickT rfl (decide_eq_true h7) rfl rfl ?_
   refine wl_move rfl rfl ?_
   refine wl_unwanted rfl rfl rfl rfl ?_
   refine wl_unwanted rfl rfl rfl rfl ?_
   refine wl_unwanted rfl rfl rfl rfl ?_
   refine wl_unwanted rfl rfl rfl rfl ?_
   refine wl_pickT rfl rfl rfl rfl ?_
   refine wl_move rfl rfl ?_
   refine wl_unwanted rfl rfl rfl rfl ?_
   refine wl_unwanted rfl rfl rfl rfl ?_
   refine wl_unwanted rfl rfl rfl rfl ?_
   refine wl_unwanted rfl rfl rfl rfl ?_
   refine wl_pickT rfl rfl rfl rfl ?_
   refine wl_nil (qs_seq ?_)
   refine wc_sub (L' := [(42, _), (0, _), (3, _)]) (.cons rfl (.cons rfl (.cons rfl .nil))) ?_
   refine wc_condT rfl ?_
   refine wc_seq (wc_region (wl_assign rfl rfl (wl_nil (qs_seq (wc_ret (qs_block_ret (qs_then_ret (qs_then_ret (qs_block_ret (qs_then_ret ?_))))))))))
   refine fin1 (.inr rfl) rfl rfl ?_
   exact ⟨_, rfl, fewA_bad ha hoo, hS5.pick [1] rfl⟩
  refine wl_guard rfl rfl (decide_eq_false h7) ?_
  refine wl_fieldAddr rfl fo_37_3 rfl ?_
  refine wl_guard rfl rfl (decide_eq_false h7) ?_
  refine wl_load rfl ag_9 (by first | assumption | exact hS5.cell 0 rfl rfl) rfl ?_
  refine wl_guard rfl rfl (decide_eq_false h7) ?_
  refine wl_lenS Tryz.underlying9 rfl rfl ?_
  refine wl_guard rfl rfl (decide_eq_false h7) ?_
  refine wl_gtr rfl rfl rfl ?_
  refine wl_pickF rfl (decide_eq_false h7) rfl rfl ?_
  refine wl_move rfl rfl ?_
  refine wl_splitD 31 rfl (fun h8 => ?_) (fun h8 => ?_)
  ·have hoo : okA x = false := by unfold okA; simp; omega
   refine wl_unwanted rfl rfl (decide_eq_true h8) rfl ?_
   refine wl_unwanted rfl rfl (decide_eq_true h8) rfl ?_
   refine wl_unwanted rfl rfl (decide_eq_true h8) rfl ?_
   refine wl_unwanted rfl rfl (decide_eq_true h8) rfl ?_
   refine wl_pickT rfl (decide_eq_true h8) rfl rfl ?_
   refine wl_move rfl rfl ?_
   refine wl_unwanted rfl rfl rfl rfl ?_
   refine wl_unwanted rfl rfl rfl rfl ?_
   refine wl_unwanted rfl rfl rfl rfl ?_
   refine wl_unwanted rfl rfl rfl rfl ?_
   refine wl_pickT rfl rfl rfl rfl ?_
   refine wl_nil (qs_seq ?_)
   refine wc_sub (L' := [(42, _), (0, _), (3, _)]) (.cons rfl (.cons rfl (.cons rfl .nil))) ?_
   refine wc_condT rfl ?_
   refine wc_seq (wc_region (wl_assign rfl rfl (wl_nil (qs_seq (wc_ret (qs_block_ret (qs_then_ret (qs_then_ret (qs_block_ret (qs_then_ret ?_))))))))))
   refine fin1 (.inr rfl) rfl rfl ?_
   exact ⟨_, rfl, fewA_bad ha hoo, hS5.pick [1] rfl⟩
  refine wl_guard rfl rfl (decide_eq_false h8) ?_
  refine wl_fieldAddr rfl fo_37_4 rfl ?_
  refine wl_guard rfl rfl (decide_eq_false h8) ?_
  refine wl_load rfl ag_9 (by first | assumption | exact hS5.cell 0 rfl rfl) rfl ?_
  refine wl_guard rfl rfl (decide_eq_false h8) ?_
  refine wl_lenS Tryz.underlying9 rfl rfl ?_
  refine wl_guard rfl rfl (decide_eq_false h8) ?_
  refine wl_gtr rfl rfl rfl ?_
  refine wl_pickF rfl (decide_eq_false h8) rfl rfl ?_
  refine wl_move rfl rfl ?_
  refine wl_splitD 37 rfl (fun h9 => ?_) (fun h9 => ?_)
  ·have hoo : okA x = false := by unfold okA; simp; omega
   refine wl_unwanted rfl rfl (decide_eq_true h9) rfl ?_
   refine wl_unwanted rfl rfl (decide_eq_true h9) rfl ?_
   refine wl_unwanted rfl rfl (decide_eq_true h9) rfl ?_
   refine wl_unwanted rfl rfl (decide_eq_true h9) rfl ?_
   refine wl_pickT rfl (decide_eq_true h9) rfl rfl ?_
   refine wl_nil (qs_seq ?_)
   refine wc_sub (L' := [(42, _), (0, _), (3, _)]) (.cons rfl (.cons rfl (.cons rfl .nil))) ?_
   refine wc_condT rfl ?_
   refine wc_seq (wc_region (wl_assign rfl rfl (wl_nil (qs_seq (wc_ret (qs_block_ret (qs_then_ret (qs_then_ret (qs_block_ret (qs_then_ret ?_))))))))))
   refine fin1 (.inr rfl) rfl rfl ?_
   exact ⟨_, rfl, fewA_bad ha hoo, hS5.pick [1] rfl⟩
  refine wl_guard rfl rfl (decide_eq_false h9) ?_
  refine wl_fieldAddr rfl fo_37_5 rfl ?_
  refine wl_guard rfl rfl (decide_eq_false h9) ?_
  refine wl_load rfl ag_9 (by first | assumption | exact hS5.cell 0 rfl rfl) rfl ?_
  refine wl_guard rfl rfl (decide_eq_false h9) ?_
  refine wl_lenS Tryz.underlying9 rfl rfl ?_
  refine wl_guard rfl rfl (decide_eq_false h9) ?_
  refine wl_gtr rfl rfl rfl ?_
  refine wl_pickF rfl (decide_eq_false h9) rfl rfl ?_
  refine wl_nil (qs_seq ?_)
  refine wc_sub (L' := [(42, _), (0, _), (3, _)]) (.cons rfl (.cons rfl (.cons rfl .nil))) ?_
  refine wc_condD rfl (fun h10 => ?_) (fun h10 => ?_)
  ·have hoo : okA x = false := by unfold okA; simp; omega
   refine wc_seq (wc_region (wl_assign rfl rfl (wl_nil (qs_seq (wc_ret (qs_block_ret (qs_then_ret (qs_then_ret (qs_block_ret (qs_then_ret ?_))))))))))
   refine fin1 (.inr rfl) rfl rfl ?_
   exact ⟨_, rfl, fewA_bad ha hoo, hS5.pick [1] rfl⟩
  have hoo : okA x = true := by unfold okA; simp; omega
  refine wc_skip (qs_block_normal (qs_seq (wc_region (wl_move rfl rfl ?_))))
  refine wl_add rfl rfl (by first | omega | (simp; omega)) (by first | omega | (simp; omega)) rfl ?_
  refine wl_assign rfl rfl (wl_nil ?_)
  exact qs_round (L1 := [(0, _), (3, intV ((i + 1 : Nat) : Int))]) (.cons rfl (.cons rfl .nil)) (k1 := l.length - (i + 1)) (by omega) ⟨i + 1, rfl, rfl, hS5.pick [1] rfl, by omega, fun j b hj hb => by by_cases e : j = i; (subst e; rw [ha] at hb; cases hb; exact hoo); exact hok j b (by omega) hb⟩
 refine wc_exit (qs_then_exit (qs_then_exit (qs_block_exit (qs_seq (wc_seq (wc_region (wl_move rfl rfl ?_)))))))
 refine wl_lenL Tryz.underlying22 rfl rfl ?_
 refine wl_leq rfl rfl rfl ?_
 refine wl_assign rfl rfl (wl_nil (qs_seq (wc_ret ?_)))
 refine fin1 (.inr rfl) rfl rfl ?_
 exact ⟨_, rfl, fewA_end hok hi (by omega), hS1.pick [0] rfl⟩
set_option maxRecDepth 100000 in
set_option maxHeartbeats 1600000 in
theorem do_sp {w : World} {p : Nat} {W : WS} {m : Nat} {F : Th} (hS : Sat w [worldT p W, F]) (hG : Ent F WireG) (hP : PI W m) (hm : m ≤ 900) {x : AcD} (hx : OkA x) (hn : InB x.n) :
    Calls Tryz.prog 15 #[.iface 25 (ptrV p 0), .agg #[intV x.d, strV x.dir, strV x.name, strV x.id, strV x.td, strV x.to, intV x.n.k, intV x.n.sz, intV x.n.ln]] w (Ret fun v w' => v = .tuple #[strV (doV W x).1, intV (doV W x).2] ∧ Sat w' [worldT p (doW W x), F]) := by
 refine calls_enter Tryz.func15 rfl Tryz.ntmps15 rfl ?_
 refine wc_seq (wc_region ?_)
 refine wl_box hS rfl rfl rfl ?_
 intro b1 w1 hS1
 refine wl_assign rfl rfl (wl_assign rfl rfl (wl_nil (qs_seq (wc_seq (wc_seq (wc_region ?_))))))
 refine wl_fieldAddr rfl fo_37_0 rfl ?_
 refine wl_load rfl ag_3 (by first | assumption | exact hS1.cell 0 rfl rfl) rfl ?_
 refine wl_mask 3 rfl rfl rfl rfl (q := 8) rfl rfl ?_
 refine wl_nil (qs_seq (wc_block (wc_seq (wc_region ?_))))
 refine wl_eql rfl rfl rfl ?_
 refine wl_assign rfl rfl (wl_nil (qs_seq ?_))
 refine wc_condD rfl (fun h2 => ?_) (fun h2 => ?_)
 ·refine wc_seq (wc_region (wl_move rfl rfl ?_))
  refine wl_fieldAddr rfl fo_37_1 rfl ?_
  refine wl_load rfl ag_9 (by first | assumption | exact hS1.cell 0 rfl rfl) rfl ?_
  refine wl_fieldAddr rfl fo_37_2 rfl ?_
  refine wl_load rfl ag_9 (by first | assumption | exact hS1.cell 0 rfl rfl) rfl ?_
  refine wl_fieldAddr rfl fo_37_3 rfl ?_
  refine wl_load rfl ag_9 (by first | assumption | exact hS1.cell 0 rfl rfl) rfl ?_
  have hC3 := hS1.split [1] [false, true, false] rfl; dsimp only [selF, pickA, nthA, List.cons_append, List.nil_append] at hC3
  refine wl_call cal_44 rfl (link_sp hC3 (hG.starL 1 rfl) hP hm x.dir x.name x.id (by have := hx.dir; omega) (by have := hx.name; omega) (by have := hx.id; omega)) rfl ?_
  rintro e w3 ⟨_, rfl, rfl, hS3⟩; refine ⟨_, rfl, ?_⟩
  replace hS3 := hS3.join rfl; dsimp only [List.dropLast, List.cons_append, List.nil_append] at hS3; clear hC3
  clear hS1
  refine wl_assign rfl rfl (wl_assign rfl rfl (wl_nil (qs_seq ?_)))
  refine wc_sub (L' := [(5, _), (4, _)]) (.cons rfl (.cons rfl .nil)) ?_
  refine wc_ret (qs_block_ret (qs_then_ret ?_))
  refine fin2 (.inr rfl) rfl rfl rfl ?_
  exact ⟨_, rfl, by unfold doV; rw [if_pos (by assumption)], by unfold doW; rw [if_pos (by assumption)]; exact hS3.pick [0, 2] rfl⟩
 refine wc_seq (wc_region ?_)
 refine wl_eql rfl rfl rfl ?_
 refine wl_assign rfl rfl (wl_nil (qs_seq ?_))
 refine wc_sub (L' := [(23, _), (8, _), (5, _), (4, _), (3, _), (0, _)]) (.cons rfl (.cons rfl (.cons rfl (.cons rfl (.cons rfl (.cons rfl .nil)))))) ?_
 refine wc_condD rfl (fun h4 => ?_) (fun h4 => ?_)
 ·refine wc_seq (wc_region (wl_move rfl rfl ?_))
  refine wl_fieldAddr rfl fo_37_1 rfl ?_
  refine wl_load rfl ag_9 (by first | assumption | exact hS1.cell 0 rfl rfl) rfl ?_
  refine wl_fieldAddr rfl fo_37_2 rfl ?_
  refine wl_load rfl ag_9 (by first | assumption | exact hS1.cell 0 rfl rfl) rfl ?_
  have hC5 := hS1.split [1] [false, true, false] rfl; dsimp only [selF, pickA, nthA, List.cons_append, List.nil_append] at hC5
  refine wl_call cal_46 rfl (unl_sp hC5 (hG.starL 1 rfl) hP hm x.dir x.name (by have := hx.dir; omega) (by have := hx.name; omega)) rfl ?_
  rintro e w5 ⟨_, rfl, rfl, hS5⟩; refine ⟨_, rfl, ?_⟩
  replace hS5 := hS5.join rfl; dsimp only [List.dropLast, List.cons_append, List.nil_append] at hS5; clear hC5
  clear hS1
  refine wl_extract rfl rfl rfl (wl_extract rfl rfl rfl (wl_assign rfl rfl (wl_assign rfl rfl (wl_nil (qs_seq ?_)))))
  refine wc_sub (L' := [(5, _), (4, _)]) (.cons rfl (.cons rfl .nil)) ?_
  refine wc_ret (qs_block_ret (qs_then_ret ?_))
  refine fin2 (.inr rfl) rfl rfl rfl ?_
  exact ⟨_, rfl, by unfold doV; rw [if_neg (by omega), if_pos (by assumption)], by unfold doW; rw [if_neg (by omega), if_pos (by assumption)]; exact hS5.pick [0, 2] rfl⟩
 refine wc_seq (wc_seq (wc_region ?_))
 refine wl_eql rfl rfl rfl ?_
 refine wl_assign rfl rfl (wl_nil (qs_seq ?_))
 refine wc_condD rfl (fun h6 => ?_) (fun h6 => ?_)
 ·refine wc_skip (qs_seq ?_)
  refine wc_condKT rfl (decide_eq_true h6) ?_
  refine wc_seq (wc_region (wl_move rfl rfl ?_))
  refine wl_fieldAddr rfl fo_37_1 rfl ?_
  refine wl_load rfl ag_9 (by first | assumption | exact hS1.cell 0 rfl rfl) rfl ?_
  refine wl_fieldAddr rfl fo_37_2 rfl ?_
  refine wl_load rfl ag_9 (by first | assumption | exact hS1.cell 0 rfl rfl) rfl ?_
  refine wl_fieldAddr rfl fo_37_3 rfl ?_
  refine wl_load rfl ag_9 (by first | assumption | exact hS1.cell 0 rfl rfl) rfl ?_
  have hC7 := hS1.split [1] [false, true, false] rfl; dsimp only [selF, pickA, nthA, List.cons_append, List.nil_append] at hC7
  refine wl_call cal_42 rfl (mkdir_sp hC7 (hG.starL 1 rfl) hP hm x.dir x.name x.id (by have := hx.dir; omega) (by have := hx.name; omega) (by have := hx.id; omega)) rfl ?_
  rintro e w7 ⟨_, rfl, rfl, hS7⟩; refine ⟨_, rfl, ?_⟩
  replace hS7 := hS7.join rfl; dsimp only [List.dropLast, List.cons_append, List.nil_append] at hS7; clear hC7
  clear hS1
  refine wl_assign rfl rfl (wl_assign rfl rfl (wl_nil (qs_seq ?_)))
  refine wc_sub (L' := [(5, _), (4, _)]) (.cons rfl (.cons rfl .nil)) ?_
  refine wc_ret (qs_block_ret (qs_then_ret ?_))
  refine fin2 (.inr rfl) rfl rfl rfl ?_
  exact ⟨_, rfl, by unfold doV; rw [if_neg (by omega), if_neg (by omega), if_pos (by omega)], by unfold doW; rw [if_neg (by omega), if_neg (by omega), if_pos (by omega)]; exact hS7.pick [0, 2] rfl⟩
 refine wc_region ?_
 refine wl_eql rfl rfl rfl ?_
 refine wl_assign rfl rfl (wl_nil (qs_seq ?_))
 refine wc_condD rfl (fun h8 => ?_) (fun h8 => ?_)
 ·refine wc_seq (wc_region (wl_move rfl rfl ?_))
  refine wl_fieldAddr rfl fo_37_1 rfl ?_
  refine wl_load rfl ag_9 (by first | assumption | exact hS1.cell 0 rfl rfl) rfl ?_
  refine wl_fieldAddr rfl fo_37_2 rfl ?_
  refine wl_load rfl ag_9 (by first | assumption | exact hS1.cell 0 rfl rfl) rfl ?_
  refine wl_fieldAddr rfl fo_37_3 rfl ?_
  refine wl_load rfl ag_9 (by first | assumption | exact hS1.cell 0 rfl rfl) rfl ?_
  have hC9 := hS1.split [1] [false, true, false] rfl; dsimp only [selF, pickA, nthA, List.cons_append, List.nil_append] at hC9
  refine wl_call cal_42 rfl (mkdir_sp hC9 (hG.starL 1 rfl) hP hm x.dir x.name x.id (by have := hx.dir; omega) (by have := hx.name; omega) (by have := hx.id; omega)) rfl ?_
  rintro e w9 ⟨_, rfl, rfl, hS9⟩; refine ⟨_, rfl, ?_⟩
  replace hS9 := hS9.join rfl; dsimp only [List.dropLast, List.cons_append, List.nil_append] at hS9; clear hC9
  clear hS1
  refine wl_assign rfl rfl (wl_assign rfl rfl (wl_nil (qs_seq ?_)))
  refine wc_sub (L' := [(5, _), (4, _)]) (.cons rfl (.cons rfl .nil)) ?_
  refine wc_ret (qs_block_ret (qs_then_ret ?_))
  refine fin2 (.inr rfl) rfl rfl rfl ?_
  exact ⟨_, rfl, by unfold doV; rw [if_neg (by omega), if_neg (by omega), if_pos (by omega)], by unfold doW; rw [if_neg (by omega), if_neg (by omega), if_pos (by omega)]; exact hS9.pick [0, 2] rfl⟩
 refine wc_seq (wc_region ?_)
 refine wl_eql rfl rfl rfl ?_
 refine wl_assign rfl rfl (wl_nil (qs_seq ?_))
 refine wc_sub (L' := [(44, _), (8, _), (5, _), (4, _), (3, _), (0, _)]) (.cons rfl (.cons rfl (.cons rfl (.cons rfl (.cons rfl (.cons rfl .nil)))))) ?_
 refine wc_condD rfl (fun h10 => ?_) (fun h10 => ?_)
 ·refine wc_seq (wc_region (wl_move rfl rfl ?_))
  refine wl_fieldAddr rfl fo_37_1 rfl ?_
  refine wl_load rfl ag_9 (by first | assumption | exact hS1.cell 0 rfl rfl) rfl ?_
  refine wl_fieldAddr rfl fo_37_2 rfl ?_
  refine wl_load rfl ag_9 (by first | assumption | exact hS1.cell 0 rfl rfl) rfl ?_
  have hC11 := hS1.split [1] [false, true, false] rfl; dsimp only [selF, pickA, nthA, List.cons_append, List.nil_append] at hC11
  refine wl_call cal_45 rfl (rmdir_sp hC11 (hG.starL 1 rfl) hP hm x.dir x.name (by have := hx.dir; omega) (by have := hx.name; omega)) rfl ?_
  rintro e w11 ⟨_, rfl, rfl, hS11⟩; refine ⟨_, rfl, ?_⟩
  replace hS11 := hS11.join rfl; dsimp only [List.dropLast, List.cons_append, List.nil_append] at hS11; clear hC11
  clear hS1
  refine wl_assign rfl rfl (wl_assign rfl rfl (wl_nil (qs_seq ?_)))
  refine wc_sub (L' := [(5, _), (4, _)]) (.cons rfl (.cons rfl .nil)) ?_
  refine wc_ret (qs_block_ret (qs_then_ret ?_))
  refine fin2 (.inr rfl) rfl rfl rfl ?_
  exact ⟨_, rfl, by unfold doV; rw [if_neg (by omega), if_neg (by omega), if_neg (by omega), if_pos (by assumption)], by unfold doW; rw [if_neg (by omega), if_neg (by omega), if_neg (by omega), if_pos (by assumption)]; exact hS11.pick [0, 2] rfl⟩
 refine wc_seq (wc_region ?_)
 refine wl_eql rfl rfl rfl ?_
 refine wl_assign rfl rfl (wl_nil (qs_seq ?_))
 refine wc_condD rfl (fun h12 => ?_) (fun h12 => ?_)
 ·refine wc_seq (wc_region (wl_move rfl rfl ?_))
  refine wl_fieldAddr rfl fo_37_1 rfl ?_
  refine wl_load rfl ag_9 (by first | assumption | exact hS1.cell 0 rfl rfl) rfl ?_
  refine wl_fieldAddr rfl fo_37_2 rfl ?_
  refine wl_load rfl ag_9 (by first | assumption | exact hS1.cell 0 rfl rfl) rfl ?_
  refine wl_fieldAddr rfl fo_37_4 rfl ?_
  refine wl_load rfl ag_9 (by first | assumption | exact hS1.cell 0 rfl rfl) rfl ?_
  refine wl_fieldAddr rfl fo_37_5 rfl ?_
  refine wl_load rfl ag_9 (by first | assumption | exact hS1.cell 0 rfl rfl) rfl ?_
  have hC13 := hS1.split [1] [false, true, false] rfl; dsimp only [selF, pickA, nthA, List.cons_append, List.nil_append] at hC13
  refine wl_call cal_40 rfl (rename_sp hC13 (hG.starL 1 rfl) hP hm x.dir x.name x.td x.to (by have := hx.dir; omega) (by have := hx.name; omega) (by have := hx.td; omega) (by have := hx.to; omega)) rfl ?_
  rintro e w13 ⟨_, rfl, rfl, hS13⟩; refine ⟨_, rfl, ?_⟩
  replace hS13 := hS13.join rfl; dsimp only [List.dropLast, List.cons_append, List.nil_append] at hS13; clear hC13
  clear hS1
  refine wl_extract rfl rfl rfl (wl_extract rfl rfl rfl (wl_assign rfl rfl (wl_assign rfl rfl (wl_nil (qs_seq ?_)))))
  refine wc_sub (L' := [(5, _), (4, _)]) (.cons rfl (.cons rfl .nil)) ?_
  refine wc_ret (qs_block_ret (qs_then_ret ?_))
  refine fin2 (.inr rfl) rfl rfl rfl ?_
  exact ⟨_, rfl, by unfold doV; rw [if_neg (by omega), if_neg (by omega), if_neg (by omega), if_neg (by omega), if_pos (by assumption)], by unfold doW; rw [if_neg (by omega), if_neg (by omega), if_neg (by omega), if_neg (by omega), if_pos (by assumption)]; exact hS13.pick [0, 2] rfl⟩
 refine wc_seq (wc_region ?_)
 refine wl_eql rfl rfl rfl ?_
 refine wl_assign rfl rfl (wl_nil (qs_seq ?_))
 refine wc_condD rfl (fun h14 => ?_) (fun h14 => ?_)
 ·refine wc_region (wl_move rfl rfl ?_)
  refine wl_fieldAddr rfl fo_37_3 rfl ?_
  refine wl_load rfl ag_9 (by first | assumption | exact hS1.cell 0 rfl rfl) rfl ?_
  refine wl_fieldAddr rfl fo_37_6 rfl ?_
  refine wl_loadA rfl ag_35 sz_35 (by first | exact hS1.blk 0 rfl) (by first | decide | exact Nat.le_of_ble_eq_true rfl | (simp; done) | omega) rfl rfl ?_
  have hC15 := hS1.split [1] [false, true, false] rfl; dsimp only [selF, pickA, nthA, List.cons_append, List.nil_append] at hC15
  refine wl_call cal_43 rfl (setI_sp hC15 (hG.starL 1 rfl) x.id (by have := hx.id; omega) hn) rfl ?_
  rintro e w15 ⟨_, rfl, rfl, hS15⟩; refine ⟨_, rfl, ?_⟩
  replace hS15 := hS15.join rfl; dsimp only [List.dropLast, List.cons_append, List.nil_append] at hS15; clear hC15
  clear hS1
  refine wl_nil (qs_block_normal (qs_seq ?_))
  refine wc_sub (L' := [(5, _), (4, _)]) (.cons rfl (.cons rfl .nil)) ?_
  refine wc_seq (wc_region (wl_assign rfl rfl (wl_assign rfl rfl (wl_nil (qs_seq (wc_ret ?_))))))
  refine fin2 (.inr rfl) rfl rfl rfl ?_
  exact ⟨_, rfl, by unfold doV; rw [if_neg (by omega), if_neg (by omega), if_neg (by omega), if_neg (by omega), if_neg (by omega)], by unfold doW; rw [if_neg (by omega), if_neg (by omega), if_neg (by omega), if_neg (by omega), if_neg (by omega), if_pos (by assumption)]; exact hS15.pick [0, 2] rfl⟩
 refine wc_region (wl_move rfl rfl ?_)
 refine wl_fieldAddr rfl fo_37_3 rfl ?_
 refine wl_load rfl ag_9 (by first | assumption | exact hS1.cell 0 rfl rfl) rfl ?_
 have hC16 := hS1.split [1] [false, true, false] rfl; dsimp only [selF, pickA, nthA, List.cons_append, List.nil_append] at hC16
 refine wl_call cal_56 rfl (noI_sp hC16 x.id (by have := hx.id; omega)) rfl ?_
 rintro e w16 ⟨_, rfl, rfl, hS16⟩; refine ⟨_, rfl, ?_⟩
 replace hS16 := hS16.join rfl; dsimp only [List.dropLast, List.cons_append, List.nil_append] at hS16; clear hC16
 clear hS1
 refine wl_nil (qs_block_normal (qs_seq ?_))
 refine wc_sub (L' := [(5, _), (4, _)]) (.cons rfl (.cons rfl .nil)) ?_
 refine wc_seq (wc_region (wl_assign rfl rfl (wl_assign rfl rfl (wl_nil (qs_seq (wc_ret ?_))))))
 refine fin2 (.inr rfl) rfl rfl rfl ?_
 exact ⟨_, rfl, by unfold doV; rw [if_neg (by omega), if_neg (by omega), if_neg (by omega), if_neg (by omega), if_neg (by omega)], by unfold doW; rw [if_neg (by omega), if_neg (by omega), if_neg (by omega), if_neg (by omega), if_neg (by omega), if_neg (by omega)]; exact hS16.pick [0, 2] rfl⟩
set_option maxRecDepth 100000 in
theorem right_sp {w : World} {F : Th} (hS : Sat w [F]) (id : Bs) (hid : id.length ≤ 3000) :
    Calls Tryz.prog 47 #[strV id] w (Ret fun v w' => v = .bool (rightB id) ∧ Sat w' [F]) := by
 refine calls_enter Tryz.func47 rfl Tryz.ntmps47 rfl ?_
 refine wc_seq (wc_region (wl_assign rfl rfl (wl_nil (qs_seq (wc_seq (wc_seq (wc_region (wl_assign rfl rfl (wl_nil (qs_seq (wc_block ?_)))))))))))
 refine wc_loop (fun K0 E0 W0 => ∃ (i : Nat), K0 = id.length - i ∧ E0 = [(0, strV id), (3, intV (i : Int))] ∧ Sat W0 [F] ∧ (i ≤ id.length) ∧ (∀ j, j < i → id[j]? ≠ some 47)) (L0 := [(0, _), (3, _)]) (id.length - 0) (.cons rfl (.cons rfl .nil)) ⟨0, rfl, rfl, hS, by omega, by omega⟩ ?_
 rintro _ _ w1 ⟨i, rfl, rfl, hS1, hi, hno⟩
 refine wc_seq (wc_seq (wc_region (wl_move rfl rfl (wl_move rfl rfl ?_))))
 refine wl_lenS Tryz.underlying9 rfl rfl ?_
 refine wl_lss rfl rfl rfl ?_
 refine wl_nil (qs_seq ?_)
 refine wc_condD rfl (fun h2 => ?_) (fun h2 => ?_)
 ·obtain ⟨c0, hc⟩ : ∃ c, id[i]? = some c := ⟨_, List.getElem?_eq_getElem (by omega)⟩
  refine wc_skip (qs_seq (wc_seq (wc_block (wc_seq (wc_region (wl_move rfl rfl (wl_move rfl rfl ?_)))))))
  refine wl_indexS i Tryz.underlying9 rfl rfl (by omega) hc rfl ?_
  refine wl_eql rfl rfl rfl ?_
  refine wl_nil (qs_seq ?_)
  refine wc_condD rfl (fun h3 => ?_) (fun h3 => ?_)
  ·refine wc_seq (wc_region (wl_assign rfl rfl (wl_nil (qs_seq ?_))))
   refine wc_sub (L' := [(2, _), (0, _), (3, _)]) (.cons rfl (.cons rfl (.cons rfl .nil))) ?_
   refine wc_ret (qs_block_ret (qs_then_ret (qs_then_ret (qs_block_ret (qs_then_ret ?_)))))
   refine fin1 (.inr rfl) rfl rfl ?_
   exact ⟨_, rfl, by unfold rightB; have : (47 : UInt8) ∈ id := List.mem_of_getElem? (hc.trans (congrArg some (u8_47.1 (by assumption)))); simp [this], hS1.pick [0] rfl⟩
  refine wc_skip (qs_block_normal (qs_seq (wc_region (wl_move rfl rfl ?_))))
  refine wl_add rfl rfl (by first | omega | (simp; omega)) (by first | omega | (simp; omega)) rfl ?_
  refine wl_assign rfl rfl (wl_nil ?_)
  exact qs_round (L1 := [(0, _), (3, intV ((i + 1 : Nat) : Int))]) (.cons rfl (.cons rfl .nil)) (k1 := id.length - (i + 1)) (by omega) ⟨i + 1, rfl, rfl, hS1.pick [0] rfl, by omega, fun j hj hq => by by_cases e : j = i; (subst e; rw [hc] at hq; cases hq; exact absurd rfl (by assumption)); exact hno j (by omega) hq⟩
 refine wc_exit (qs_then_exit (qs_then_exit (qs_block_exit (qs_seq (wc_seq (wc_region (wl_move rfl rfl ?_)))))))
 refine wl_neqS rfl rfl rfl ?_
 refine wl_assign rfl rfl (wl_nil (qs_seq (wc_ret ?_)))
 refine fin1 (.inr rfl) rfl rfl ?_
 exact ⟨_, rfl, by unfold rightB; have : ¬ (47 : UInt8) ∈ id := (fun q => by obtain ⟨j, hj⟩ := List.mem_iff_getElem?.1 q; exact hno j (by have := (List.getElem?_eq_some_iff.1 hj).1; omega) hj); simp [this], hS1.pick [0] rfl⟩
end Go.Proofs.YtkaikhcpcbjkcaaGreatDoor
