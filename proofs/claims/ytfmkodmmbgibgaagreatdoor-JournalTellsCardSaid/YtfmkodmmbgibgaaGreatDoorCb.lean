/- cell: Get, Set -/
import Derived.Test.YtfmkodmmbgibgaaGreatDoorRi
namespace Go.Proofs.YtfmkodmmbgibgaaGreatDoor
open Go.RowKit M
set_option linter.unusedVariables false
def getV (C : CS) : Value := .tuple #[strV C.val, .bool (decide (0 < C.slot))]
theorem get_sp {w : World} {p c : Nat} {C : CS} {F : Th} (hS : Sat w [blkT c (cellV p C), F]) :
    Calls Tryz.prog 75 #[ptrV c 0] w (Ret fun v w' => v = getV C ∧ Sat w' [blkT c (cellV p C), F]) := by
 refine calls_enter Tryz.func75 rfl Tryz.ntmps75 rfl ?_
 refine wc_seq (wc_region (wl_assign rfl rfl (wl_assign rfl rfl (wl_nil (qs_seq (wc_seq ?_))))))
 have hS1 := hS.drew
 refine wc_draw [0, 1, 2, 3, 4, 5, 6, 7, 8, 9, 10] [] mix (by kernel_rfl) ?_
 refine vc_p rfl rfl rfl (fun _ => (ev_move rfl)) ?_
 refine vc_p rfl rfl rfl (fun _ => (ev_nilCheck rfl)) ?_
 refine vc_p rfl rfl rfl (fun _ => (ev_fieldAddr rfl fo_109_3)) ?_
 refine vc_q rfl rfl rfl (ev_load rfl ag_9 (by first | assumption | exact hS1.cell 0 rfl rfl)) ?_
 refine vc_p rfl rfl rfl (fun _ => (ev_move rfl)) ?_
 refine vc_p rfl rfl rfl (fun _ => (ev_nilCheck rfl)) ?_
 refine vc_p rfl rfl rfl (fun _ => (ev_fieldAddr rfl fo_109_2)) ?_
 refine vc_q rfl rfl rfl (ev_load rfl ag_3 (by first | assumption | exact hS1.cell 0 rfl rfl)) ?_
 refine vc_p rfl rfl rfl (fun _ => (ev_gtr rfl rfl)) ?_
 refine vc_p rfl rfl rfl (fun _ => (ev_assign rfl)) ?_
 refine vc_p rfl rfl rfl (fun _ => (ev_assign rfl)) ?_
 refine VC.nil (qs_seq ?_)
 refine wc_sub (L' := [(3, _), (2, _)]) (.cons rfl (.cons rfl .nil)) ?_
 refine wc_ret ?_
 refine fin2 (.inr rfl) rfl rfl rfl ?_
 exact ⟨_, rfl, congrArg (fun b => Value.tuple #[strV C.val, .bool b]) (decide_eq_decide.2 (by omega)), hS1⟩
theorem getR_sp4 {w : World} {p c : Nat} {C : CS} {F : Th} (hS : Sat w [blkT c (cellV p C), F]) :
    Calls Tryz.prog 65 #[ptrV c 0] w (Ret fun v w' => v = getV C ∧ Sat w' [blkT c (cellV p C), F]) := by
 refine calls_enter Tryz.func65 rfl Tryz.ntmps65 rfl ?_
 refine wc_seq (wc_region (wl_assign rfl rfl (wl_assign rfl rfl (wl_nil (qs_seq (wc_seq ?_))))))
 have hS1 := hS.drew
 refine wc_draw [0, 1, 2, 3, 4, 5, 6, 7, 8, 9, 10] [] mix (by kernel_rfl) ?_
 refine vc_p rfl rfl rfl (fun _ => (ev_move rfl)) ?_
 refine vc_p rfl rfl rfl (fun _ => (ev_nilCheck rfl)) ?_
 refine vc_p rfl rfl rfl (fun _ => (ev_fieldAddr rfl fo_138_3)) ?_
 refine vc_q rfl rfl rfl (ev_load rfl ag_9 (by first | assumption | exact hS1.cell 0 rfl rfl)) ?_
 refine vc_p rfl rfl rfl (fun _ => (ev_move rfl)) ?_
 refine vc_p rfl rfl rfl (fun _ => (ev_nilCheck rfl)) ?_
 refine vc_p rfl rfl rfl (fun _ => (ev_fieldAddr rfl fo_138_2)) ?_
 refine vc_q rfl rfl rfl (ev_load rfl ag_3 (by first | assumption | exact hS1.cell 0 rfl rfl)) ?_
 refine vc_p rfl rfl rfl (fun _ => (ev_neq rfl rfl)) ?_
 refine vc_p rfl rfl rfl (fun _ => (ev_assign rfl)) ?_
 refine vc_p rfl rfl rfl (fun _ => (ev_assign rfl)) ?_
 refine VC.nil (qs_seq ?_)
 refine wc_sub (L' := [(3, _), (2, _)]) (.cons rfl (.cons rfl .nil)) ?_
 refine wc_ret ?_
 refine fin2 (.inr rfl) rfl rfl rfl ?_
 exact ⟨_, rfl, congrArg (fun b => Value.tuple #[strV C.val, .bool b]) (decide_eq_decide.2 (by omega)), hS1⟩
def hb (slot n : Nat) (j : Nat) : Bytes := UInt8.ofNat slot :: (List.range j).map fun i => UInt8.ofNat (n / 256 ^ i)
theorem hb_step (slot n j : Nat) : hb slot n (j + 1) = hb slot n j ++ [UInt8.ofNat (n / 256 ^ j)] := by simp [hb, List.range_succ]
theorem hb_len (slot n j : Nat) : (hb slot n j).length = j + 1 := by simp [hb]
theorem hb_end (slot n : Nat) (h : n ≤ 65536) : hb slot n 4 = hdrB slot n := by
  have h1 : n / 16777216 = 0 := by omega
  simp [hb, hdrB, List.range_succ, h1]
theorem pow_next (n j : Nat) : n / 256 ^ j / 256 = n / 256 ^ (j + 1) := by rw [Nat.div_div_eq_div_mul, Nat.pow_succ]
set_option maxRecDepth 100000 in
theorem header_sp {w : World} {F : Th} (hS : Sat w [F]) (slot : Nat) (s : Bytes) (hn : s.length ≤ 65536) :
    Calls Tryz.prog 114 #[intV (slot : Int), strV s] w (Ret fun v w' => v = strV (hdrB slot s.length) ∧ Sat w' [F]) := by
 refine calls_enter Tryz.func114 rfl Tryz.ntmps114 rfl ?_
 refine wc_seq (wc_region (wl_assign rfl rfl (wl_nil (qs_seq (wc_seq (wc_region (wl_move rfl rfl ?_)))))))
 refine wl_convToU8 slot Tryz.underlying3 Tryz.underlying5 rfl (by first | rfl | omega) rfl ?_
 refine wl_rowBuild byC [UInt8.ofNat slot] hS rfl Tryz.underlying118 ifz_5 rfl rfl rfl rfl (by first | rfl | simp [RowC.cells, fillL, splice]) rfl ?_
 intro b1 w1 hS1
 refine wl_assign rfl rfl (wl_nil (qs_seq (wc_seq (wc_seq (wc_region (wl_move rfl rfl ?_))))))
 refine wl_lenS Tryz.underlying9 rfl rfl ?_
 refine wl_assign rfl rfl (wl_nil (qs_seq (wc_block ?_)))
 refine wc_loop (fun K0 E0 W0 => ∃ (j : Nat) (v : Value), K0 = 4 - j ∧ E0 = [(1, strV s), (5, v), (6, intV (s.length / 256 ^ j : Nat))] ∧ Sat W0 [rowT byC v (hb slot s.length j), F] ∧ (j ≤ 4)) (L0 := [(1, _), (5, _), (6, _)]) (4) (.cons rfl (.cons rfl (.cons rfl .nil))) ⟨0, _, rfl, by simp, hS1, by omega⟩ ?_
 rintro _ _ w2 ⟨j, v, rfl, rfl, hS2, hj⟩
 have hbl := hb_len slot s.length j
 refine wc_seq (wc_seq (wc_region (wl_move rfl rfl ?_)))
 first | refine wl_lenL Tryz.underlying118 rfl rfl ?_ | refine wl_lenO 0 hS2 Tryz.underlying118 rfl rfl rfl ?_
 refine wl_lss rfl rfl rfl ?_
 refine wl_nil (qs_seq ?_)
 refine wc_condD rfl (fun h3 => ?_) (fun h3 => ?_)
 ·refine wc_skip (qs_seq (wc_seq (wc_block (wc_region (wl_move rfl rfl (wl_move rfl rfl ?_))))))
  refine wl_convToU8 (s.length / 256 ^ j) Tryz.underlying3 Tryz.underlying5 rfl (by first | rfl | omega) rfl ?_
  refine wl_rowBuild byC [UInt8.ofNat (s.length / 256 ^ j)] hS2 rfl Tryz.underlying118 ifz_5 rfl rfl rfl rfl (by first | rfl | simp [RowC.cells, fillL, splice]) rfl ?_
  intro b4 w4 hS4
  clear hS2
  refine wl_rowApp byC 1 hS4 rfl rfl rfl (hS4.rd 0 rfl (by simp)) Tryz.underlying118 Tryz.underlying118 (by intro k hk; cases hk) ifo_5 rfl (by simp only [List.length_cons, List.length_nil, hbl]; omega) rfl (by simp only [List.length_cons, List.length_nil, hbl]; omega) ?_
  intro v5 w5 hS5; dsimp only [List.set] at hS5
  clear hS4
  have h1v5 : v5.oneCell' = true := hS5.own_one 1 rfl
  refine wl_assign rfl rfl (wl_nil (qs_block_normal (qs_seq ?_)))
  refine wc_sub (L' := [(5, _), (1, _), (6, _)]) (.cons rfl (.cons rfl (.cons rfl .nil))) ?_
  refine wc_region (wl_move rfl rfl ?_)
  refine wl_shr 8 rfl rfl rfl rfl (q := 256) rfl rfl ?_
  refine wl_assign rfl rfl (wl_nil ?_)
  exact qs_round (L1 := [(1, _), (5, _), (6, intV ((s.length / 256 ^ (j + 1) : Nat) : Int))]) (.cons rfl (.cons rfl (.cons (by rw [← pow_next]; rfl) .nil))) (k1 := 4 - (j + 1)) (by omega) ⟨j + 1, _, rfl, rfl, by rw [hb_step]; exact hS5.tail, by omega⟩
 refine wc_exit (qs_then_exit (qs_then_exit (qs_block_exit (qs_seq (wc_seq (wc_region (wl_move rfl rfl ?_)))))))
 refine wl_rowStr 0 hS2 rfl rfl Tryz.underlying118 Tryz.underlying5 Tryz.underlying9 rfl ?_
 refine wl_assign rfl rfl (wl_nil (qs_seq (wc_ret ?_)))
 refine fin1 (.inr rfl) rfl rfl ?_
 exact ⟨_, rfl, by rw [show j = 4 by omega, hb_end slot s.length hn], hS2.tail⟩
theorem begin_sp {w : World} {F : Th} (hS : Sat w [F]) (slot : Nat) :
    Calls Tryz.prog 100 #[intV (slot : Int)] w (Ret fun v w' => v = intV (slotOff slot) ∧ Sat w' [F]) := by
 refine calls_enter Tryz.func100 rfl Tryz.ntmps100 rfl ?_
 refine wc_seq (wc_region (wl_assign rfl rfl (wl_nil (qs_seq (wc_seq (wc_seq (wc_region (wl_move rfl rfl ?_))))))))
 refine wl_eql rfl rfl rfl ?_
 refine wl_nil (qs_seq ?_)
 refine wc_condD rfl (fun h1 => ?_) (fun h1 => ?_)
 ·have h2 : slot = 2 := by omega
  refine wc_seq (wc_region (wl_assign rfl rfl (wl_nil (qs_seq (wc_ret (qs_then_ret ?_))))))
  refine fin1 (.inr rfl) rfl rfl ?_
  exact ⟨_, rfl, by simp [slotOff, h2], hS⟩
 have h2 : ¬ slot = 2 := by omega
 refine wc_skip (qs_seq (wc_seq (wc_region (wl_assign rfl rfl (wl_nil (qs_seq (wc_ret ?_)))))))
 refine fin1 (.inr rfl) rfl rfl ?_
 exact ⟨_, rfl, by simp [slotOff, h2], hS⟩
theorem setR_long {D : DS} {C : CS} {s : Bytes} (h : 65536 < s.length) : setR D C s = ⟨6, D, C⟩ := by rw [setR, if_pos h]
theorem setR_late {D : DS} {C : CS} {s : Bytes} (h : ¬ 65536 < s.length) (h1 : C.sure = false) (h2 : 0 < C.slot) (h3 : SyncE D C.f ≠ 0) : setR D C s = ⟨SyncE D C.f, SyncD D C.f, C⟩ := by rw [setR, if_neg h, if_pos ⟨h1, h2⟩, if_pos h3]
theorem setR_sync {D : DS} {C : CS} {s : Bytes} (h : ¬ 65536 < s.length) (h1 : C.sure = false) (h2 : 0 < C.slot) (h3 : SyncE D C.f = 0) : setR D C s = setR2 (SyncD D C.f) { C with sure := true } s := by rw [setR, if_neg h, if_pos ⟨h1, h2⟩, if_neg (by omega)]
theorem setR_go {D : DS} {C : CS} {s : Bytes} (h : ¬ 65536 < s.length) (h1 : ¬ (C.sure = false ∧ 0 < C.slot)) : setR D C s = setR2 D C s := by rw [setR, if_neg h, if_neg h1]
theorem setR2_a {D : DS} {C : CS} {s : Bytes} (h : WriteE D C.f (slotOff (other C)) s ≠ 0) : setR2 D C s = ⟨WriteE D C.f (slotOff (other C)) s, WriteD D C.f (slotOff (other C)) s, C⟩ := by simp only [setR2]; rw [if_pos h]
theorem setR2_b {D : DS} {C : CS} {s : Bytes} (h : WriteE D C.f (slotOff (other C)) s = 0) (h1 : SyncE (WriteD D C.f (slotOff (other C)) s) C.f ≠ 0) : setR2 D C s = ⟨SyncE (WriteD D C.f (slotOff (other C)) s) C.f, SyncD (WriteD D C.f (slotOff (other C)) s) C.f, C⟩ := by simp only [setR2]; rw [if_neg (by omega), if_pos h1]
theorem setR2_c {D : DS} {C : CS} {s : Bytes} (h : WriteE D C.f (slotOff (other C)) s = 0) (h1 : SyncE (WriteD D C.f (slotOff (other C)) s) C.f = 0) (h2 : WriteE (SyncD (WriteD D C.f (slotOff (other C)) s) C.f) C.f 0 (hdrB (other C) s.length) ≠ 0) : setR2 D C s = ⟨WriteE (SyncD (WriteD D C.f (slotOff (other C)) s) C.f) C.f 0 (hdrB (other C) s.length), WriteD (SyncD (WriteD D C.f (slotOff (other C)) s) C.f) C.f 0 (hdrB (other C) s.length), C⟩ := by simp only [setR2]; rw [if_neg (by omega), if_neg (by omega), if_pos h2]
theorem setR2_d {D : DS} {C : CS} {s : Bytes} (h : WriteE D C.f (slotOff (other C)) s = 0) (h1 : SyncE (WriteD D C.f (slotOff (other C)) s) C.f = 0) (h2 : WriteE (SyncD (WriteD D C.f (slotOff (other C)) s) C.f) C.f 0 (hdrB (other C) s.length) = 0) : setR2 D C s = ⟨SyncE (WriteD (SyncD (WriteD D C.f (slotOff (other C)) s) C.f) C.f 0 (hdrB (other C) s.length)) C.f, SyncD (WriteD (SyncD (WriteD D C.f (slotOff (other C)) s) C.f) C.f 0 (hdrB (other C) s.length)) C.f, ⟨C.f, other C, s, decide (SyncE (WriteD (SyncD (WriteD D C.f (slotOff (other C)) s) C.f) C.f 0 (hdrB (other C) s.length)) C.f = 0)⟩⟩ := by simp only [setR2]; rw [if_neg (by omega), if_neg (by omega), if_neg (by omega)]
def hdrX (slot n : Nat) : Bytes := [UInt8.ofNat slot, UInt8.ofNat (n % 256), UInt8.ofNat (n / 256 % 256), UInt8.ofNat (n / 65536), 0]
theorem hdrX_eq (slot n : Nat) : hdrX slot n = hdrB slot n := by
  simp only [hdrX, hdrB]
  have h (m : Nat) : UInt8.ofNat (m % 256) = UInt8.ofNat m := by apply UInt8.toNat_inj.1; simp
  rw [h, h]
set_option maxRecDepth 100000 in
theorem set_sp {w : World} {p c : Nat} {D : DS} {C : CS} {F : Th} (hS : Sat w [blkT c (cellV p C), dT p D, F]) (hG : Ent F (Glob 0)) (hsl : C.slot ≤ 2) (s : Bytes) :
    Calls Tryz.prog 88 #[ptrV c 0, strV s] w (Ret fun v w' => v = intV (setR D C s).e ∧ Sat w' [blkT c (cellV p (setR D C s).C), dT p (setR D C s).D, F]) := by
 refine calls_enter Tryz.func88 rfl Tryz.ntmps88 rfl ?_
 refine wc_seq (wc_region (wl_assign rfl rfl (wl_nil (qs_seq (wc_seq (wc_seq (wc_region (wl_move rfl rfl ?_))))))))
 refine wl_lenS Tryz.underlying9 rfl rfl ?_
 refine wl_gtr rfl rfl rfl ?_
 refine wl_nil (qs_seq ?_)
 refine wc_condD rfl (fun h1 => ?_) (fun h1 => ?_)
 ·have hlong : 65536 < s.length := by omega
  refine wc_seq (wc_region (wl_assign rfl rfl (wl_nil (qs_seq (wc_ret (qs_then_ret ?_))))))
  refine fin1 (.inr rfl) rfl rfl ?_
  exact ⟨_, rfl, by rw [setR_long hlong], by rw [setR_long hlong]; exact hS.pick [0, 1, 2] rfl⟩
 have hlong : ¬ 65536 < s.length := by omega
 refine wc_skip (qs_seq ?_)
 refine wc_mid (fun E0 W0 => ∃ (D1 : DS) (C1 : CS), E0 = [(0, ptrV c 0), (1, strV s)] ∧ Sat W0 [blkT c (cellV p C1), dT p D1, F] ∧ (setR D C s = setR2 D1 C1 s) ∧ (C1.slot ≤ 2)) ?_ ?_
 ·refine wc_seq (wc_region (wl_move rfl rfl (wl_nilCheck rfl rfl ?_)))
  refine wl_fieldAddr rfl fo_109_4 rfl ?_
  refine wl_load rfl ag_4 (by first | assumption | exact hS.cell 0 rfl rfl) rfl ?_
  refine wl_not rfl rfl ?_
  refine wl_move rfl rfl ?_
  refine wl_split 19 rfl (fun h3 => ?_) (fun h3 => ?_)
  ·refine wl_guard rfl rfl h3 ?_
   refine wl_move rfl rfl ?_
   refine wl_guard rfl rfl h3 ?_
   refine wl_nilCheck rfl rfl ?_
   refine wl_guard rfl rfl h3 ?_
   refine wl_fieldAddr rfl fo_109_2 rfl ?_
   refine wl_guard rfl rfl h3 ?_
   refine wl_load rfl ag_3 (by first | assumption | exact hS.cell 0 rfl rfl) rfl ?_
   refine wl_guard rfl rfl h3 ?_
   refine wl_gtr rfl rfl rfl ?_
   refine wl_pickT rfl h3 rfl rfl ?_
   refine wl_nil (qs_seq ?_)
   refine wc_sub (L' := [(25, _), (4, _), (0, _), (1, _)]) (.cons rfl (.cons rfl (.cons rfl (.cons rfl .nil)))) ?_
   refine wc_condD rfl (fun h4 => ?_) (fun h4 => ?_)
   ·have hsu : C.sure = false := by simp_all
    have hsl0 : 0 < C.slot := by omega
    refine wc_seq (wc_seq ?_)
    have hS5 := hS.drew
    refine wc_draw [0, 1, 2, 3, 4, 5, 6, 7, 8, 9] [8] mix (by kernel_rfl) ?_
    refine vc_p rfl rfl rfl (fun _ => (ev_move rfl)) ?_
    refine vc_p rfl rfl rfl (fun _ => (ev_nilCheck rfl)) ?_
    refine vc_p rfl rfl rfl (fun _ => (ev_fieldAddr rfl fo_109_0)) ?_
    refine vc_q rfl rfl rfl (ev_load rfl ag_25 (by first | assumption | exact hS5.cell 0 rfl rfl)) ?_
    refine vc_p rfl rfl rfl (fun _ => (ev_move rfl)) ?_
    refine vc_p rfl rfl rfl (fun _ => (ev_nilCheck rfl)) ?_
    refine vc_p rfl rfl rfl (fun _ => (ev_fieldAddr rfl fo_109_1)) ?_
    refine vc_q rfl rfl rfl (ev_load rfl ag_3 (by first | assumption | exact hS5.cell 0 rfl rfl)) ?_
    refine vc_s rfl rfl rfl rfl rfl rfl ?_
    have hC6 := hS5.split [1] [false, true, false] rfl; dsimp only [selF, pickA, nthA, List.cons_append, List.nil_append] at hC6
    refine wl_call cal_22 rfl (syncT hC6 C.f) rfl ?_
    rintro e w6 ⟨_, rfl, rfl, hS6⟩; refine ⟨_, rfl, ?_⟩
    replace hS6 := hS6.join rfl; dsimp only [List.dropLast, List.cons_append, List.nil_append] at hS6; clear hC6
    clear hS5
    refine vc_e (.skip (by kernel_rfl) (.skip (by kernel_rfl) .nil)) ?_
    refine vc_p rfl rfl rfl (fun _ => (ev_assign rfl)) ?_
    refine VC.nil (qs_seq ?_)
    refine wc_sub (L' := [(5, _), (4, _), (0, _), (1, _)]) (.cons rfl (.cons rfl (.cons rfl (.cons rfl .nil)))) ?_
    refine wc_seq (wc_region (wl_move rfl rfl ?_))
    refine wl_neq rfl rfl rfl ?_
    refine wl_nil (qs_seq ?_)
    refine wc_condD rfl (fun h7 => ?_) (fun h7 => ?_)
    ·have h2 := h7
     refine wc_seq (wc_region (wl_move rfl rfl (wl_assign rfl rfl (wl_nil (qs_seq (wc_ret (qs_then_ret (qs_then_ret ?_))))))))
     refine fin1 (.inr rfl) rfl rfl ?_
     exact ⟨_, rfl, by rw [setR_late hlong hsu hsl0 h2], by rw [setR_late hlong hsu hsl0 h2]; exact hS6.pick [1, 0, 2] rfl⟩
    have h2 : SyncE D C.f = 0 := Decidable.not_not.1 h7
    refine wc_skip (qs_seq (wc_region (wl_move rfl rfl (wl_nilCheck rfl rfl ?_))))
    refine wl_fieldAddr rfl fo_109_4 rfl ?_
    first | (refine wl_store hS6 rfl rfl sz_4 (by first | rfl | assumption) (i := 1) rfl (by first | decide | exact Nat.le_of_ble_eq_true rfl | (simp; done) | omega) ?_)
    intro w8 hS9; dsimp only [List.set] at hS9
    clear hS6
    refine wl_nil ?_
    exact qs_mid (.cons rfl (.cons rfl .nil)) ⟨_, { C with sure := true }, rfl, hS9.reorder [1, 0, 2] rfl, setR_sync hlong hsu hsl0 h2, hsl⟩
   refine wc_skip ?_
   exact qs_mid (.cons rfl (.cons rfl .nil)) ⟨_, C, rfl, hS.reorder [0, 1, 2] rfl, setR_go hlong (by rintro ⟨q1, q2⟩; simp_all), hsl⟩
  refine wl_unwanted rfl rfl h3 rfl ?_
  refine wl_unwanted rfl rfl h3 rfl ?_
  refine wl_unwanted rfl rfl h3 rfl ?_
  refine wl_unwanted rfl rfl h3 rfl ?_
  refine wl_unwanted rfl rfl h3 rfl ?_
  refine wl_pickF rfl h3 rfl rfl ?_
  refine wl_nil (qs_seq ?_)
  refine wc_sub (L' := [(25, _), (4, _), (0, _), (1, _)]) (.cons rfl (.cons rfl (.cons rfl (.cons rfl .nil)))) ?_
  refine wc_condF rfl ?_
  refine wc_skip ?_
  exact qs_mid (.cons rfl (.cons rfl .nil)) ⟨_, C, rfl, hS.reorder [0, 1, 2] rfl, setR_go hlong (by rintro ⟨q1, q2⟩; simp_all), hsl⟩
 rintro _ w2 ⟨D1, C1, rfl, hS2, hj, hsl1⟩
 refine wc_seq (wc_region (wl_assign rfl rfl (wl_nil (qs_seq ?_))))
 refine wc_mid (fun E0 W0 => ∃ (sl : Nat), E0 = [(0, ptrV c 0), (1, strV s), (6, intV (sl : Int))] ∧ Sat W0 [blkT c (cellV p C1), dT p D1, F] ∧ (sl = other C1)) ?_ ?_
 ·refine wc_seq (wc_region (wl_move rfl rfl (wl_nilCheck rfl rfl ?_)))
  refine wl_fieldAddr rfl fo_109_2 rfl ?_
  refine wl_load rfl ag_3 (by first | assumption | exact hS2.cell 0 rfl rfl) rfl ?_
  refine wl_eql rfl rfl rfl ?_
  refine wl_nil (qs_seq ?_)
  refine wc_condD rfl (fun h11 => ?_) (fun h11 => ?_)
  ·have hs1 : C1.slot = 1 := by omega
   refine wc_region (wl_assign rfl rfl (wl_nil ?_))
   exact qs_mid (.cons rfl (.cons rfl (.cons rfl .nil))) ⟨2, rfl, hS2, by simp [other, hs1]⟩
  have hs1 : ¬ C1.slot = 1 := by omega
  refine wc_skip ?_
  exact qs_mid (.cons rfl (.cons rfl (.cons rfl .nil))) ⟨1, rfl, hS2, by simp [other, hs1]⟩
 rintro _ w10 ⟨sl, rfl, hS10, hso⟩
 have hs12 : sl = 1 ∨ sl = 2 := by rw [hso]; unfold other; split <;> simp
 refine wc_seq (wc_seq ?_)
 subst hso
 have hS12 := hS10.drew
 refine wc_draw [0, 1, 2, 3, 4, 5, 6, 7, 8, 9, 10, 11, 12, 13] [12] mix (by kernel_rfl) ?_
 refine vc_p rfl rfl rfl (fun _ => (ev_move rfl)) ?_
 refine vc_p rfl rfl rfl (fun _ => (ev_nilCheck rfl)) ?_
 refine vc_p rfl rfl rfl (fun _ => (ev_fieldAddr rfl fo_109_0)) ?_
 refine vc_q rfl rfl rfl (ev_load rfl ag_25 (by first | assumption | exact hS12.cell 0 rfl rfl)) ?_
 refine vc_p rfl rfl rfl (fun _ => (ev_move rfl)) ?_
 refine vc_p rfl rfl rfl (fun _ => (ev_nilCheck rfl)) ?_
 refine vc_p rfl rfl rfl (fun _ => (ev_fieldAddr rfl fo_109_1)) ?_
 refine vc_q rfl rfl rfl (ev_load rfl ag_3 (by first | assumption | exact hS12.cell 0 rfl rfl)) ?_
 refine vc_p rfl rfl rfl (fun _ => (ev_move rfl)) ?_
 refine vc_p rfl rfl rfl (fun _ => (ev_indexAddrA _ Tryz.underlying111 rfl rfl (by first | rfl | omega) (by omega) sz_3)) ?_
 refine vc_q rfl rfl rfl (ev_load rfl ag_3 ((hG.sat hS12 2 rfl).off hs12)) ?_
 refine vc_p rfl rfl rfl (fun _ => (ev_move rfl)) ?_
 refine vc_s rfl rfl rfl rfl rfl rfl ?_
 have hC13 := hS12.split [1] [false, true, false] rfl; dsimp only [selF, pickA, nthA, List.cons_append, List.nil_append] at hC13
 refine wl_call cal_20 rfl (writeT hC13 C1.f (slotOff (other C1)) s) rfl ?_
 rintro e w13 ⟨_, rfl, rfl, hS13⟩; refine ⟨_, rfl, ?_⟩
 replace hS13 := hS13.join rfl; dsimp only [List.dropLast, List.cons_append, List.nil_append] at hS13; clear hC13
 clear hS12
 refine vc_e (.skip (by kernel_rfl) (.skip (by kernel_rfl) (.skip (by kernel_rfl) .nil))) ?_
 refine vc_p rfl rfl rfl (fun _ => (ev_assign rfl)) ?_
 refine VC.nil (qs_seq ?_)
 refine wc_sub (L' := [(7, _), (0, _), (1, _), (6, _)]) (.cons rfl (.cons rfl (.cons rfl (.cons rfl .nil)))) ?_
 refine wc_seq (wc_region (wl_move rfl rfl ?_))
 refine wl_neq rfl rfl rfl ?_
 refine wl_nil (qs_seq ?_)
 refine wc_condD rfl (fun h14 => ?_) (fun h14 => ?_)
 ·have h4 := h14
  refine wc_seq (wc_region (wl_move rfl rfl (wl_assign rfl rfl (wl_nil (qs_seq (wc_ret (qs_then_ret ?_)))))))
  refine fin1 (.inr rfl) rfl rfl ?_
  exact ⟨_, rfl, by rw [hj, setR2_a h4], by rw [hj, setR2_a h4]; exact hS13.pick [1, 0, 2] rfl⟩
 have h4 := Decidable.not_not.1 h14
 refine wc_skip (qs_seq (wc_seq (wc_seq ?_)))
 have hS15 := hS13.drew
 refine wc_draw [0, 1, 2, 3, 4, 5, 6, 7, 8, 9] [8] mix (by kernel_rfl) ?_
 refine vc_p rfl rfl rfl (fun _ => (ev_move rfl)) ?_
 refine vc_p rfl rfl rfl (fun _ => (ev_nilCheck rfl)) ?_
 refine vc_p rfl rfl rfl (fun _ => (ev_fieldAddr rfl fo_109_0)) ?_
 refine vc_q rfl rfl rfl (ev_load rfl ag_25 (by first | assumption | exact hS15.cell 1 rfl rfl)) ?_
 refine vc_p rfl rfl rfl (fun _ => (ev_move rfl)) ?_
 refine vc_p rfl rfl rfl (fun _ => (ev_nilCheck rfl)) ?_
 refine vc_p rfl rfl rfl (fun _ => (ev_fieldAddr rfl fo_109_1)) ?_
 refine vc_q rfl rfl rfl (ev_load rfl ag_3 (by first | assumption | exact hS15.cell 1 rfl rfl)) ?_
 refine vc_s rfl rfl rfl rfl rfl rfl ?_
 have hC16 := hS15.split [0] [true, false, false] rfl; dsimp only [selF, pickA, nthA, List.cons_append, List.nil_append] at hC16
 refine wl_call cal_22 rfl (syncT hC16 C1.f) rfl ?_
 rintro e w16 ⟨_, rfl, rfl, hS16⟩; refine ⟨_, rfl, ?_⟩
 replace hS16 := hS16.join rfl; dsimp only [List.dropLast, List.cons_append, List.nil_append] at hS16; clear hC16
 clear hS15
 refine vc_e (.skip (by kernel_rfl) (.skip (by kernel_rfl) .nil)) ?_
 refine vc_p rfl rfl rfl (fun _ => (ev_assign rfl)) ?_
 refine VC.nil (qs_seq ?_)
 refine wc_sub (L' := [(8, _), (0, _), (1, _), (6, _)]) (.cons rfl (.cons rfl (.cons rfl (.cons rfl .nil)))) ?_
 refine wc_seq (wc_region (wl_move rfl rfl ?_))
 refine wl_neq rfl rfl rfl ?_
 refine wl_nil (qs_seq ?_)
 refine wc_condD rfl (fun h17 => ?_) (fun h17 => ?_)
 ·have h5 := h17
  refine wc_seq (wc_region (wl_move rfl rfl (wl_assign rfl rfl (wl_nil (qs_seq (wc_ret (qs_then_ret ?_)))))))
  refine fin1 (.inr rfl) rfl rfl ?_
  exact ⟨_, rfl, by rw [hj, setR2_b h4 h5], by rw [hj, setR2_b h4 h5]; exact hS16.pick [1, 0, 2] rfl⟩
 have h5 := Decidable.not_not.1 h17
 refine wc_skip (qs_seq (wc_seq (wc_seq ?_)))
 have hS18 := hS16.drew
 refine wc_draw [0, 1, 2, 3, 4, 5, 6, 7, 8, 9, 10, 11, 12] [10, 11] mix (by kernel_rfl) ?_
 refine vc_p rfl rfl rfl (fun _ => (ev_move rfl)) ?_
 refine vc_p rfl rfl rfl (fun _ => (ev_nilCheck rfl)) ?_
 refine vc_p rfl rfl rfl (fun _ => (ev_fieldAddr rfl fo_109_0)) ?_
 refine vc_q rfl rfl rfl (ev_load rfl ag_25 (by first | assumption | exact hS18.cell 1 rfl rfl)) ?_
 refine vc_p rfl rfl rfl (fun _ => (ev_move rfl)) ?_
 refine vc_p rfl rfl rfl (fun _ => (ev_nilCheck rfl)) ?_
 refine vc_p rfl rfl rfl (fun _ => (ev_fieldAddr rfl fo_109_1)) ?_
 refine vc_q rfl rfl rfl (ev_load rfl ag_3 (by first | assumption | exact hS18.cell 1 rfl rfl)) ?_
 refine vc_p rfl rfl rfl (fun _ => (ev_move rfl)) ?_
 refine vc_p rfl rfl rfl (fun _ => (ev_move rfl)) ?_
 refine vc_s rfl rfl rfl rfl rfl rfl ?_
 have hC19 := hS18.split [] [false, false, false] rfl; dsimp only [selF, pickA, nthA, List.cons_append, List.nil_append] at hC19
 refine wl_call cal_114 rfl (header_sp hC19 (other C1) s (by omega)) rfl ?_
 rintro e w19 ⟨_, rfl, rfl, hS19⟩; refine ⟨_, rfl, ?_⟩
 replace hS19 := hS19.join rfl; dsimp only [List.dropLast, List.cons_append, List.nil_append] at hS19; clear hC19
 clear hS18
 refine vc_e (.cons (.inl ⟨rfl, (ev_load rfl ag_3 (by first | assumption | exact hS19.cell 1 rfl rfl))⟩) (.cons (.inl ⟨rfl, (ev_load rfl ag_25 (by first | assumption | exact hS19.cell 1 rfl rfl))⟩) .nil)) ?_
 refine vc_s rfl rfl rfl rfl rfl rfl ?_
 have hC20 := hS19.split [0] [true, false, false] rfl; dsimp only [selF, pickA, nthA, List.cons_append, List.nil_append] at hC20
 refine wl_call cal_20 rfl (writeT hC20 C1.f 0 (hdrB (other C1) s.length)) rfl ?_
 rintro e w20 ⟨_, rfl, rfl, hS20⟩; refine ⟨_, rfl, ?_⟩
 replace hS20 := hS20.join rfl; dsimp only [List.dropLast, List.cons_append, List.nil_append] at hS20; clear hC20
 clear hS19
 refine vc_e (.skip (by kernel_rfl) (.skip (by kernel_rfl) .nil)) ?_
 refine vc_p rfl rfl rfl (fun _ => (ev_assign rfl)) ?_
 refine VC.nil (qs_seq ?_)
 refine wc_sub (L' := [(9, _), (0, _), (1, _), (6, _)]) (.cons rfl (.cons rfl (.cons rfl (.cons rfl .nil)))) ?_
 refine wc_seq (wc_region (wl_move rfl rfl ?_))
 refine wl_neq rfl rfl rfl ?_
 refine wl_nil (qs_seq ?_)
 refine wc_condD rfl (fun h21 => ?_) (fun h21 => ?_)
 ·have h6 := h21
  refine wc_seq (wc_region (wl_move rfl rfl (wl_assign rfl rfl (wl_nil (qs_seq (wc_ret (qs_then_ret ?_)))))))
  refine fin1 (.inr rfl) rfl rfl ?_
  exact ⟨_, rfl, by rw [hj, setR2_c h4 h5 h6], by rw [hj, setR2_c h4 h5 h6]; exact hS20.pick [1, 0, 2] rfl⟩
 have h6 := Decidable.not_not.1 h21
 refine wc_skip (qs_seq (wc_seq (wc_region (wl_move rfl rfl (wl_move rfl rfl (wl_move rfl rfl (wl_move rfl rfl (wl_move rfl rfl (wl_nilCheck rfl rfl ?_)))))))))
 refine wl_fieldAddr rfl fo_109_2 rfl ?_
 first | (refine wl_store hS20 rfl rfl sz_3 (by first | rfl | assumption) (i := 1) rfl (by first | decide | exact Nat.le_of_ble_eq_true rfl | (simp; done) | omega) ?_)
 intro w22 hS23; dsimp only [List.set] at hS23
 clear hS20
 refine wl_nilCheck rfl rfl ?_
 refine wl_fieldAddr rfl fo_109_3 rfl ?_
 first | (refine wl_store hS23 rfl rfl sz_9 (by first | rfl | assumption) (i := 1) rfl (by first | decide | exact Nat.le_of_ble_eq_true rfl | (simp; done) | omega) ?_)
 intro w24 hS25; dsimp only [List.set] at hS25
 clear hS23
 refine wl_nilCheck rfl rfl ?_
 refine wl_fieldAddr rfl fo_109_4 rfl ?_
 first | (refine wl_store hS25 rfl rfl sz_4 (by first | rfl | assumption) (i := 1) rfl (by first | decide | exact Nat.le_of_ble_eq_true rfl | (simp; done) | omega) ?_)
 intro w26 hS27; dsimp only [List.set] at hS27
 clear hS25
 refine wl_nil (qs_seq ?_)
 refine wc_sub (L' := [(0, _)]) (.cons rfl .nil) ?_
 refine wc_seq ?_
 have hS28 := hS27.drew
 refine wc_draw [0, 1, 2, 3, 4, 5, 6, 7, 8, 9] [8] mix (by kernel_rfl) ?_
 refine vc_p rfl rfl rfl (fun _ => (ev_move rfl)) ?_
 refine vc_p rfl rfl rfl (fun _ => (ev_nilCheck rfl)) ?_
 refine vc_p rfl rfl rfl (fun _ => (ev_fieldAddr rfl fo_109_0)) ?_
 refine vc_q rfl rfl rfl (ev_load rfl ag_25 (by first | assumption | exact hS28.cell 1 rfl rfl)) ?_
 refine vc_p rfl rfl rfl (fun _ => (ev_move rfl)) ?_
 refine vc_p rfl rfl rfl (fun _ => (ev_nilCheck rfl)) ?_
 refine vc_p rfl rfl rfl (fun _ => (ev_fieldAddr rfl fo_109_1)) ?_
 refine vc_q rfl rfl rfl (ev_load rfl ag_3 (by first | assumption | exact hS28.cell 1 rfl rfl)) ?_
 refine vc_s rfl rfl rfl rfl rfl rfl ?_
 have hC29 := hS28.split [0] [true, false, false] rfl; dsimp only [selF, pickA, nthA, List.cons_append, List.nil_append] at hC29
 refine wl_call cal_22 rfl (syncT hC29 C1.f) rfl ?_
 rintro e w29 ⟨_, rfl, rfl, hS29⟩; refine ⟨_, rfl, ?_⟩
 replace hS29 := hS29.join rfl; dsimp only [List.dropLast, List.cons_append, List.nil_append] at hS29; clear hC29
 clear hS28
 refine vc_e (.skip (by kernel_rfl) (.skip (by kernel_rfl) .nil)) ?_
 refine vc_p rfl rfl rfl (fun _ => (ev_assign rfl)) ?_
 refine VC.nil (qs_seq ?_)
 refine wc_sub (L' := [(10, _), (0, _)]) (.cons rfl (.cons rfl .nil)) ?_
 refine wc_seq (wc_region (wl_move rfl rfl (wl_move rfl rfl ?_)))
 refine wl_eql rfl rfl rfl ?_
 refine wl_nilCheck rfl rfl ?_
 refine wl_fieldAddr rfl fo_109_4 rfl ?_
 first | (refine wl_store hS29 rfl rfl sz_4 (by first | rfl | assumption) (i := 1) rfl (by first | decide | exact Nat.le_of_ble_eq_true rfl | (simp; done) | omega) ?_)
 intro w30 hS31; dsimp only [List.set] at hS31
 clear hS29
 refine wl_nil (qs_seq (wc_seq (wc_region (wl_move rfl rfl (wl_assign rfl rfl (wl_nil (qs_seq (wc_ret ?_))))))))
 refine fin1 (.inr rfl) rfl rfl ?_
 exact ⟨_, rfl, by rw [hj, setR2_d h4 h5 h6], by rw [hj, setR2_d h4 h5 h6]; exact hS31.pick [1, 0, 2] rfl⟩
set_option maxRecDepth 100000 in
theorem setR_sp4 {w : World} {p c : Nat} {D : DS} {C : CS} {F : Th} (hS : Sat w [blkT c (cellV p C), rT p D, F]) (hsl : C.slot ≤ 2) (s : Bytes) :
    Calls Tryz.prog 105 #[ptrV c 0, strV s] w (Ret fun v w' => v = intV (setR D C s).e ∧ Sat w' [blkT c (cellV p (setR D C s).C), rT p (setR D C s).D, F]) := by
 refine calls_enter Tryz.func105 rfl Tryz.ntmps105 rfl ?_
 refine wc_seq (wc_region (wl_assign rfl rfl (wl_nil (qs_seq (wc_seq (wc_seq (wc_region (wl_move rfl rfl ?_))))))))
 refine wl_lenS Tryz.underlying9 rfl rfl ?_
 refine wl_gtr rfl rfl rfl ?_
 refine wl_nil (qs_seq ?_)
 refine wc_condD rfl (fun h1 => ?_) (fun h1 => ?_)
 ·have hlong : 65536 < s.length := by omega
  refine wc_seq (wc_region (wl_assign rfl rfl (wl_nil (qs_seq (wc_ret (qs_then_ret ?_))))))
  refine fin1 (.inr rfl) rfl rfl ?_
  exact ⟨_, rfl, by rw [setR_long hlong], by rw [setR_long hlong]; exact hS.pick [0, 1, 2] rfl⟩
 have hlong : ¬ 65536 < s.length := by omega
 refine wc_skip (qs_seq ?_)
 refine wc_mid (fun E0 W0 => ∃ (D1 : DS) (C1 : CS), E0 = [(0, ptrV c 0), (1, strV s)] ∧ Sat W0 [blkT c (cellV p C1), rT p D1, F] ∧ (setR D C s = setR2 D1 C1 s) ∧ (C1.slot ≤ 2)) ?_ ?_
 ·refine wc_seq (wc_region (wl_move rfl rfl (wl_nilCheck rfl rfl ?_)))
  refine wl_fieldAddr rfl fo_138_4 rfl ?_
  refine wl_load rfl ag_4 (by first | assumption | exact hS.cell 0 rfl rfl) rfl ?_
  refine wl_not rfl rfl ?_
  refine wl_move rfl rfl ?_
  refine wl_split 17 rfl (fun h3 => ?_) (fun h3 => ?_)
  ·refine wl_guard rfl rfl h3 ?_
   refine wl_move rfl rfl ?_
   refine wl_guard rfl rfl h3 ?_
   refine wl_nilCheck rfl rfl ?_
   refine wl_guard rfl rfl h3 ?_
   refine wl_fieldAddr rfl fo_138_2 rfl ?_
   refine wl_guard rfl rfl h3 ?_
   refine wl_load rfl ag_3 (by first | assumption | exact hS.cell 0 rfl rfl) rfl ?_
   refine wl_guard rfl rfl h3 ?_
   refine wl_neq rfl rfl rfl ?_
   refine wl_pickT rfl h3 rfl rfl ?_
   refine wl_nil (qs_seq ?_)
   refine wc_sub (L' := [(23, _), (4, _), (0, _), (1, _)]) (.cons rfl (.cons rfl (.cons rfl (.cons rfl .nil)))) ?_
   refine wc_condD rfl (fun h4 => ?_) (fun h4 => ?_)
   ·have hsu : C.sure = false := by simp_all
    have hsl0 : 0 < C.slot := by omega
    refine wc_seq ?_
    have hS5 := hS.drew
    refine wc_draw [0, 1, 2, 3, 4, 5, 6, 7, 8, 9] [8] mix (by kernel_rfl) ?_
    refine vc_p rfl rfl rfl (fun _ => (ev_move rfl)) ?_
    refine vc_p rfl rfl rfl (fun _ => (ev_nilCheck rfl)) ?_
    refine vc_p rfl rfl rfl (fun _ => (ev_fieldAddr rfl fo_138_0)) ?_
    refine vc_q rfl rfl rfl (ev_load rfl ag_46 (by first | assumption | exact hS5.cell 0 rfl rfl)) ?_
    refine vc_p rfl rfl rfl (fun _ => (ev_move rfl)) ?_
    refine vc_p rfl rfl rfl (fun _ => (ev_nilCheck rfl)) ?_
    refine vc_p rfl rfl rfl (fun _ => (ev_fieldAddr rfl fo_138_1)) ?_
    refine vc_q rfl rfl rfl (ev_load rfl ag_3 (by first | assumption | exact hS5.cell 0 rfl rfl)) ?_
    refine vc_s rfl rfl rfl rfl rfl rfl ?_
    have hC6 := hS5.split [1] [false, true, false] rfl; dsimp only [selF, pickA, nthA, List.cons_append, List.nil_append] at hC6
    refine wl_call cal_23 rfl (syncRT hC6 C.f) rfl ?_
    rintro e w6 ⟨_, rfl, rfl, hS6⟩; refine ⟨_, rfl, ?_⟩
    replace hS6 := hS6.join rfl; dsimp only [List.dropLast, List.cons_append, List.nil_append] at hS6; clear hC6
    clear hS5
    refine vc_e (.skip (by kernel_rfl) (.skip (by kernel_rfl) .nil)) ?_
    refine vc_p rfl rfl rfl (fun _ => (ev_assign rfl)) ?_
    refine VC.nil (qs_seq ?_)
    refine wc_sub (L' := [(5, _), (4, _), (0, _), (1, _)]) (.cons rfl (.cons rfl (.cons rfl (.cons rfl .nil)))) ?_
    refine wc_seq (wc_seq (wc_region (wl_move rfl rfl ?_)))
    refine wl_neq rfl rfl rfl ?_
    refine wl_nil (qs_seq ?_)
    refine wc_condD rfl (fun h7 => ?_) (fun h7 => ?_)
    ·have h2 := h7
     refine wc_seq (wc_region (wl_move rfl rfl (wl_assign rfl rfl (wl_nil (qs_seq (wc_ret (qs_then_ret (qs_then_ret ?_))))))))
     refine fin1 (.inr rfl) rfl rfl ?_
     exact ⟨_, rfl, by rw [setR_late hlong hsu hsl0 h2], by rw [setR_late hlong hsu hsl0 h2]; exact hS6.pick [1, 0, 2] rfl⟩
    have h2 : SyncE D C.f = 0 := Decidable.not_not.1 h7
    refine wc_skip (qs_seq (wc_region (wl_move rfl rfl (wl_nilCheck rfl rfl ?_))))
    refine wl_fieldAddr rfl fo_138_4 rfl ?_
    first | (refine wl_store hS6 rfl rfl sz_4 (by first | rfl | assumption) (i := 1) rfl (by first | decide | exact Nat.le_of_ble_eq_true rfl | (simp; done) | omega) ?_)
    intro w8 hS9; dsimp only [List.set] at hS9
    clear hS6
    refine wl_nil ?_
    exact qs_mid (.cons rfl (.cons rfl .nil)) ⟨_, { C with sure := true }, rfl, hS9.reorder [1, 0, 2] rfl, setR_sync hlong hsu hsl0 h2, hsl⟩
   refine wc_skip ?_
   exact qs_mid (.cons rfl (.cons rfl .nil)) ⟨_, C, rfl, hS.reorder [0, 1, 2] rfl, setR_go hlong (by rintro ⟨q1, q2⟩; simp_all), hsl⟩
  refine wl_unwanted rfl rfl h3 rfl ?_
  refine wl_unwanted rfl rfl h3 rfl ?_
  refine wl_unwanted rfl rfl h3 rfl ?_
  refine wl_unwanted rfl rfl h3 rfl ?_
  refine wl_unwanted rfl rfl h3 rfl ?_
  refine wl_pickF rfl h3 rfl rfl ?_
  refine wl_nil (qs_seq ?_)
  refine wc_sub (L' := [(23, _), (4, _), (0, _), (1, _)]) (.cons rfl (.cons rfl (.cons rfl (.cons rfl .nil)))) ?_
  refine wc_condF rfl ?_
  refine wc_skip ?_
  exact qs_mid (.cons rfl (.cons rfl .nil)) ⟨_, C, rfl, hS.reorder [0, 1, 2] rfl, setR_go hlong (by rintro ⟨q1, q2⟩; simp_all), hsl⟩
 rintro _ w2 ⟨D1, C1, rfl, hS2, hj, hsl1⟩
 refine wc_seq (wc_region (wl_assign rfl rfl (wl_nil (qs_seq ?_))))
 refine wc_mid (fun E0 W0 => ∃ (sl : Nat), E0 = [(0, ptrV c 0), (1, strV s), (6, intV (sl : Int))] ∧ Sat W0 [blkT c (cellV p C1), rT p D1, F] ∧ (sl = other C1)) ?_ ?_
 ·refine wc_seq (wc_region (wl_move rfl rfl (wl_nilCheck rfl rfl ?_)))
  refine wl_fieldAddr rfl fo_138_2 rfl ?_
  refine wl_load rfl ag_3 (by first | assumption | exact hS2.cell 0 rfl rfl) rfl ?_
  refine wl_eql rfl rfl rfl ?_
  refine wl_nil (qs_seq ?_)
  refine wc_condD rfl (fun h11 => ?_) (fun h11 => ?_)
  ·have hs1 : C1.slot = 1 := by omega
   refine wc_region (wl_assign rfl rfl (wl_nil ?_))
   exact qs_mid (.cons rfl (.cons rfl (.cons rfl .nil))) ⟨2, rfl, hS2, by simp [other, hs1]⟩
  have hs1 : ¬ C1.slot = 1 := by omega
  refine wc_skip ?_
  exact qs_mid (.cons rfl (.cons rfl (.cons rfl .nil))) ⟨1, rfl, hS2, by simp [other, hs1]⟩
 rintro _ w10 ⟨sl, rfl, hS10, hso⟩
 have hs12 : sl = 1 ∨ sl = 2 := by rw [hso]; unfold other; split <;> simp
 refine wc_seq ?_
 subst hso
 have hS12 := hS10.drew
 refine wc_draw [0, 1, 2, 3, 4, 5, 6, 7, 8, 10, 9, 11, 12] [9, 11] mix (by kernel_rfl) ?_
 refine vc_p rfl rfl rfl (fun _ => (ev_move rfl)) ?_
 refine vc_p rfl rfl rfl (fun _ => (ev_nilCheck rfl)) ?_
 refine vc_p rfl rfl rfl (fun _ => (ev_fieldAddr rfl fo_138_0)) ?_
 refine vc_q rfl rfl rfl (ev_load rfl ag_46 (by first | assumption | exact hS12.cell 0 rfl rfl)) ?_
 refine vc_p rfl rfl rfl (fun _ => (ev_move rfl)) ?_
 refine vc_p rfl rfl rfl (fun _ => (ev_nilCheck rfl)) ?_
 refine vc_p rfl rfl rfl (fun _ => (ev_fieldAddr rfl fo_138_1)) ?_
 refine vc_q rfl rfl rfl (ev_load rfl ag_3 (by first | assumption | exact hS12.cell 0 rfl rfl)) ?_
 refine vc_p rfl rfl rfl (fun _ => (ev_move rfl)) ?_
 refine vc_p rfl rfl rfl (fun _ => (ev_move rfl)) ?_
 refine vc_s rfl rfl rfl rfl rfl rfl ?_
 have hC13 := hS12.split [] [false, false, false] rfl; dsimp only [selF, pickA, nthA, List.cons_append, List.nil_append] at hC13
 refine wl_call cal_100 rfl (begin_sp hC13 (other C1)) rfl ?_
 rintro e w13 ⟨_, rfl, rfl, hS13⟩; refine ⟨_, rfl, ?_⟩
 replace hS13 := hS13.join rfl; dsimp only [List.dropLast, List.cons_append, List.nil_append] at hS13; clear hC13
 clear hS12
 refine vc_e (.cons (.inl ⟨rfl, (ev_load rfl ag_3 (by first | assumption | exact hS13.cell 0 rfl rfl))⟩) (.cons (.inl ⟨rfl, (ev_load rfl ag_46 (by first | assumption | exact hS13.cell 0 rfl rfl))⟩) .nil)) ?_
 refine vc_s rfl rfl rfl rfl rfl rfl ?_
 have hC14 := hS13.split [1] [false, true, false] rfl; dsimp only [selF, pickA, nthA, List.cons_append, List.nil_append] at hC14
 refine wl_call cal_21 rfl (writeRT hC14 C1.f (slotOff (other C1)) s (by omega)) rfl ?_
 rintro e w14 ⟨_, rfl, rfl, hS14⟩; refine ⟨_, rfl, ?_⟩
 replace hS14 := hS14.join rfl; dsimp only [List.dropLast, List.cons_append, List.nil_append] at hS14; clear hC14
 clear hS13
 refine vc_e (.skip (by kernel_rfl) (.skip (by kernel_rfl) .nil)) ?_
 refine vc_p rfl rfl rfl (fun _ => (ev_assign rfl)) ?_
 refine VC.nil (qs_seq ?_)
 refine wc_sub (L' := [(7, _), (0, _), (1, _), (6, _)]) (.cons rfl (.cons rfl (.cons rfl (.cons rfl .nil)))) ?_
 refine wc_seq (wc_seq (wc_region (wl_move rfl rfl ?_)))
 refine wl_neq rfl rfl rfl ?_
 refine wl_nil (qs_seq ?_)
 refine wc_condD rfl (fun h15 => ?_) (fun h15 => ?_)
 ·have h4 := h15
  refine wc_seq (wc_region (wl_move rfl rfl (wl_assign rfl rfl (wl_nil (qs_seq (wc_ret (qs_then_ret ?_)))))))
  refine fin1 (.inr rfl) rfl rfl ?_
  exact ⟨_, rfl, by rw [hj, setR2_a h4], by rw [hj, setR2_a h4]; exact hS14.pick [1, 0, 2] rfl⟩
 have h4 := Decidable.not_not.1 h15
 refine wc_skip (qs_seq (wc_seq ?_))
 have hS16 := hS14.drew
 refine wc_draw [0, 1, 2, 3, 4, 5, 6, 7, 8, 9] [8] mix (by kernel_rfl) ?_
 refine vc_p rfl rfl rfl (fun _ => (ev_move rfl)) ?_
 refine vc_p rfl rfl rfl (fun _ => (ev_nilCheck rfl)) ?_
 refine vc_p rfl rfl rfl (fun _ => (ev_fieldAddr rfl fo_138_0)) ?_
 refine vc_q rfl rfl rfl (ev_load rfl ag_46 (by first | assumption | exact hS16.cell 1 rfl rfl)) ?_
 refine vc_p rfl rfl rfl (fun _ => (ev_move rfl)) ?_
 refine vc_p rfl rfl rfl (fun _ => (ev_nilCheck rfl)) ?_
 refine vc_p rfl rfl rfl (fun _ => (ev_fieldAddr rfl fo_138_1)) ?_
 refine vc_q rfl rfl rfl (ev_load rfl ag_3 (by first | assumption | exact hS16.cell 1 rfl rfl)) ?_
 refine vc_s rfl rfl rfl rfl rfl rfl ?_
 have hC17 := hS16.split [0] [true, false, false] rfl; dsimp only [selF, pickA, nthA, List.cons_append, List.nil_append] at hC17
 refine wl_call cal_23 rfl (syncRT hC17 C1.f) rfl ?_
 rintro e w17 ⟨_, rfl, rfl, hS17⟩; refine ⟨_, rfl, ?_⟩
 replace hS17 := hS17.join rfl; dsimp only [List.dropLast, List.cons_append, List.nil_append] at hS17; clear hC17
 clear hS16
 refine vc_e (.skip (by kernel_rfl) (.skip (by kernel_rfl) .nil)) ?_
 refine vc_p rfl rfl rfl (fun _ => (ev_assign rfl)) ?_
 refine VC.nil (qs_seq ?_)
 refine wc_sub (L' := [(7, _), (0, _), (1, _), (6, _)]) (.cons rfl (.cons rfl (.cons rfl (.cons rfl .nil)))) ?_
 refine wc_seq (wc_seq (wc_region (wl_move rfl rfl ?_)))
 refine wl_neq rfl rfl rfl ?_
 refine wl_nil (qs_seq ?_)
 refine wc_condD rfl (fun h18 => ?_) (fun h18 => ?_)
 ·have h5 := h18
  refine wc_seq (wc_region (wl_move rfl rfl (wl_assign rfl rfl (wl_nil (qs_seq (wc_ret (qs_then_ret ?_)))))))
  refine fin1 (.inr rfl) rfl rfl ?_
  exact ⟨_, rfl, by rw [hj, setR2_b h4 h5], by rw [hj, setR2_b h4 h5]; exact hS17.pick [1, 0, 2] rfl⟩
 have h5 := Decidable.not_not.1 h18
 refine wc_skip (qs_seq (wc_seq (wc_region (wl_move rfl rfl ?_))))
 refine wl_lenS Tryz.underlying9 rfl rfl ?_
 refine wl_assign rfl rfl (wl_nil (qs_seq (wc_seq ?_)))
 have hS19 := hS17.drew
 refine wc_draw [0, 1, 2, 3, 4, 5, 6, 7, 8, 9, 10, 11, 12, 13, 14, 15, 16, 17, 18, 19, 20, 21, 22, 23] [20, 22] mix (by kernel_rfl) ?_
 refine vc_p rfl rfl rfl (fun _ => (ev_move rfl)) ?_
 refine vc_p rfl rfl rfl (fun _ => (ev_nilCheck rfl)) ?_
 refine vc_p rfl rfl rfl (fun _ => (ev_fieldAddr rfl fo_138_0)) ?_
 refine vc_q rfl rfl rfl (ev_load rfl ag_46 (by first | assumption | exact hS19.cell 1 rfl rfl)) ?_
 refine vc_p rfl rfl rfl (fun _ => (ev_move rfl)) ?_
 refine vc_p rfl rfl rfl (fun _ => (ev_nilCheck rfl)) ?_
 refine vc_p rfl rfl rfl (fun _ => (ev_fieldAddr rfl fo_138_1)) ?_
 refine vc_q rfl rfl rfl (ev_load rfl ag_3 (by first | assumption | exact hS19.cell 1 rfl rfl)) ?_
 refine vc_p rfl rfl rfl (fun _ => (ev_move rfl)) ?_
 refine vc_p rfl rfl rfl (fun _ => (ev_convToU8 (other C1) Tryz.underlying3 Tryz.underlying5 rfl (by first | rfl | omega))) ?_
 refine vc_p rfl rfl rfl (fun _ => (ev_move rfl)) ?_
 refine vc_p rfl rfl rfl (fun _ => (ev_rem rfl rfl (by omega) (by omega))) ?_
 refine vc_p rfl rfl rfl (fun _ => (ev_convToU8 (s.length % 256) Tryz.underlying3 Tryz.underlying5 rfl (by first | rfl | omega))) ?_
 refine vc_p rfl rfl rfl (fun _ => (ev_move rfl)) ?_
 refine vc_p rfl rfl rfl (fun _ => (ev_quo rfl rfl (by omega) (by omega) (by omega))) ?_
 refine vc_p rfl rfl rfl (fun _ => (ev_rem rfl rfl (by omega) (by omega))) ?_
 refine vc_p rfl rfl rfl (fun _ => (ev_convToU8 (s.length / 256 % 256) Tryz.underlying3 Tryz.underlying5 rfl (by first | rfl | omega))) ?_
 refine vc_p rfl rfl rfl (fun _ => (ev_move rfl)) ?_
 refine vc_p rfl rfl rfl (fun _ => (ev_quo rfl rfl (by omega) (by omega) (by omega))) ?_
 refine vc_p rfl rfl rfl (fun _ => (ev_convToU8 (s.length / 65536) Tryz.underlying3 Tryz.underlying5 rfl (by first | rfl | omega))) ?_
 refine vc_s rfl rfl rfl rfl rfl rfl ?_
 refine wl_rowBuild byC (hdrX (other C1) s.length) hS19 rfl Tryz.underlying118 ifz_5 rfl rfl rfl rfl (by first | rfl | simp [RowC.cells, fillL, splice]) rfl ?_
 intro b20 w20 hS20
 clear hS19
 refine vc_e (.cons (.inl ⟨rfl, (ev_load rfl ag_3 (by first | assumption | exact hS20.cell 2 rfl rfl))⟩) (.cons (.inl ⟨rfl, (ev_load rfl ag_46 (by first | assumption | exact hS20.cell 2 rfl rfl))⟩) .nil)) ?_
 refine vc_q rfl rfl rfl (ev_rowStr 0 hS20 rfl rfl Tryz.underlying118 Tryz.underlying5 Tryz.underlying9) ?_
 rw [hdrX_eq]
 refine vc_s rfl rfl rfl rfl rfl rfl ?_
 have hC21 := hS20.split [1] [false, true, false, false] rfl; dsimp only [selF, pickA, nthA, List.cons_append, List.nil_append] at hC21
 refine wl_call cal_21 rfl (writeRT hC21 C1.f 0 (hdrB (other C1) s.length) (by simp [hdrB])) rfl ?_
 rintro e w21 ⟨_, rfl, rfl, hS21⟩; refine ⟨_, rfl, ?_⟩
 replace hS21 := hS21.join rfl; dsimp only [List.dropLast, List.cons_append, List.nil_append] at hS21; clear hC21
 clear hS20
 refine vc_e (.skip (by kernel_rfl) (.skip (by kernel_rfl) (.skip (by kernel_rfl) .nil))) ?_
 refine vc_p rfl rfl rfl (fun _ => (ev_assign rfl)) ?_
 refine VC.nil (qs_seq ?_)
 refine wc_sub (L' := [(7, _), (0, _), (1, _), (6, _)]) (.cons rfl (.cons rfl (.cons rfl (.cons rfl .nil)))) ?_
 refine wc_seq (wc_seq (wc_region (wl_move rfl rfl ?_)))
 refine wl_neq rfl rfl rfl ?_
 refine wl_nil (qs_seq ?_)
 refine wc_condD rfl (fun h22 => ?_) (fun h22 => ?_)
 ·have h6 := h22
  refine wc_seq (wc_region (wl_move rfl rfl (wl_assign rfl rfl (wl_nil (qs_seq (wc_ret (qs_then_ret ?_)))))))
  refine fin1 (.inr rfl) rfl rfl ?_
  exact ⟨_, rfl, by rw [hj, setR2_c h4 h5 h6], by rw [hj, setR2_c h4 h5 h6]; exact hS21.pick [2, 0, 3] rfl⟩
 have h6 := Decidable.not_not.1 h22
 refine wc_skip (qs_seq (wc_seq (wc_region (wl_move rfl rfl (wl_move rfl rfl (wl_nilCheck rfl rfl ?_))))))
 refine wl_fieldAddr rfl fo_138_2 rfl ?_
 first | (refine wl_store hS21 rfl rfl sz_3 (by first | rfl | assumption | exact hS21.own_one 1 rfl) (i := 2) rfl (by first | decide | exact Nat.le_of_ble_eq_true rfl | (simp; done) | omega) ?_)
 intro w23 hS24; dsimp only [List.set] at hS24
 clear hS21
 refine wl_nil (qs_seq (wc_seq (wc_region (wl_move rfl rfl (wl_move rfl rfl (wl_nilCheck rfl rfl ?_))))))
 refine wl_fieldAddr rfl fo_138_3 rfl ?_
 first | (refine wl_store hS24 rfl rfl sz_9 (by first | rfl | assumption | exact hS24.own_one 1 rfl) (i := 2) rfl (by first | decide | exact Nat.le_of_ble_eq_true rfl | (simp; done) | omega) ?_)
 intro w25 hS26; dsimp only [List.set] at hS26
 clear hS24
 refine wl_nil (qs_seq ?_)
 refine wc_sub (L' := [(7, _), (0, _)]) (.cons rfl (.cons rfl .nil)) ?_
 refine wc_seq (wc_region (wl_move rfl rfl (wl_nilCheck rfl rfl ?_)))
 refine wl_fieldAddr rfl fo_138_4 rfl ?_
 first | (refine wl_store hS26 rfl rfl sz_4 (by first | rfl | assumption | exact hS26.own_one 1 rfl) (i := 2) rfl (by first | decide | exact Nat.le_of_ble_eq_true rfl | (simp; done) | omega) ?_)
 intro w27 hS28; dsimp only [List.set] at hS28
 clear hS26
 refine wl_nil (qs_seq (wc_seq ?_))
 have hS29 := hS28.drew
 refine wc_draw [0, 1, 2, 3, 4, 5, 6, 7, 8, 9] [8] mix (by kernel_rfl) ?_
 refine vc_p rfl rfl rfl (fun _ => (ev_move rfl)) ?_
 refine vc_p rfl rfl rfl (fun _ => (ev_nilCheck rfl)) ?_
 refine vc_p rfl rfl rfl (fun _ => (ev_fieldAddr rfl fo_138_0)) ?_
 refine vc_q rfl rfl rfl (ev_load rfl ag_46 (by first | assumption | exact hS29.cell 2 rfl rfl)) ?_
 refine vc_p rfl rfl rfl (fun _ => (ev_move rfl)) ?_
 refine vc_p rfl rfl rfl (fun _ => (ev_nilCheck rfl)) ?_
 refine vc_p rfl rfl rfl (fun _ => (ev_fieldAddr rfl fo_138_1)) ?_
 refine vc_q rfl rfl rfl (ev_load rfl ag_3 (by first | assumption | exact hS29.cell 2 rfl rfl)) ?_
 refine vc_s rfl rfl rfl rfl rfl rfl ?_
 have hC30 := hS29.split [0] [true, false, false, false] rfl; dsimp only [selF, pickA, nthA, List.cons_append, List.nil_append] at hC30
 refine wl_call cal_23 rfl (syncRT hC30 C1.f) rfl ?_
 rintro e w30 ⟨_, rfl, rfl, hS30⟩; refine ⟨_, rfl, ?_⟩
 replace hS30 := hS30.join rfl; dsimp only [List.dropLast, List.cons_append, List.nil_append] at hS30; clear hC30
 clear hS29
 refine vc_e (.skip (by kernel_rfl) (.skip (by kernel_rfl) .nil)) ?_
 refine vc_p rfl rfl rfl (fun _ => (ev_assign rfl)) ?_
 refine VC.nil (qs_seq ?_)
 refine wc_sub (L' := [(7, _), (0, _)]) (.cons rfl (.cons rfl .nil)) ?_
 refine wc_seq (wc_region (wl_move rfl rfl (wl_move rfl rfl ?_)))
 refine wl_eql rfl rfl rfl ?_
 refine wl_nilCheck rfl rfl ?_
 refine wl_fieldAddr rfl fo_138_4 rfl ?_
 first | (refine wl_store hS30 rfl rfl sz_4 (by first | rfl | assumption | exact hS30.own_one 1 rfl) (i := 2) rfl (by first | decide | exact Nat.le_of_ble_eq_true rfl | (simp; done) | omega) ?_)
 intro w31 hS32; dsimp only [List.set] at hS32
 clear hS30
 refine wl_nil (qs_seq (wc_seq (wc_region (wl_move rfl rfl (wl_assign rfl rfl (wl_nil (qs_seq (wc_ret ?_))))))))
 refine fin1 (.inr rfl) rfl rfl ?_
 exact ⟨_, rfl, by rw [hj, setR2_d h4 h5 h6], by rw [hj, setR2_d h4 h5 h6]; exact hS32.pick [2, 0, 3] rfl⟩
end Go.Proofs.YtfmkodmmbgibgaaGreatDoor
