/- journal: note, home, write, the closures -/
import Derived.Test.YtfmkodmmbgibgaaGreatDoorJw1
import Derived.Test.YtfmkodmmbgibgaaGreatDoorCellP
import Derived.RangeFuncIn
import Derived.RangeFuncRecord
import Derived.RangeFuncLeaves
import Derived.RangeFuncSeq
import Derived.TacticsIn
namespace Go.Proofs.YtfmkodmmbgibgaaGreatDoor
open Go.RowKit M
set_option linter.unusedVariables false
def jV (dp : Nat) (base : Int) (cp mb : Nat) (bad : Bool) : List Value := [ptrV dp 0, intV base, ptrV cp 0, .map (some mb), .bool bad]
section
variable {D : DS} {f : Int} {b : Blk} {l : List Blk}
theorem homeR_a (h : WriteE D f (128 * b.n) [UInt8.ofNat b.d.length] ≠ 0) : homeR D f (b :: l) = (WriteE D f (128 * b.n) [UInt8.ofNat b.d.length], WriteD D f (128 * b.n) [UInt8.ofNat b.d.length]) := by simp only [homeR]; rw [if_pos h]
theorem homeR_b (h : WriteE D f (128 * b.n) [UInt8.ofNat b.d.length] = 0) (h2 : b.d = []) : homeR D f (b :: l) = homeR (WriteD D f (128 * b.n) [UInt8.ofNat b.d.length]) f l := by simp only [homeR]; rw [if_neg (by omega), if_pos h2]
theorem homeR_c (h : WriteE D f (128 * b.n) [UInt8.ofNat b.d.length] = 0) (h2 : b.d ≠ []) (h3 : WriteE (WriteD D f (128 * b.n) [UInt8.ofNat b.d.length]) f (128 * b.n + 64) b.d ≠ 0) : homeR D f (b :: l) = (WriteE (WriteD D f (128 * b.n) [UInt8.ofNat b.d.length]) f (128 * b.n + 64) b.d, WriteD (WriteD D f (128 * b.n) [UInt8.ofNat b.d.length]) f (128 * b.n + 64) b.d) := by simp only [homeR]; rw [if_neg (by omega), if_neg h2, if_pos h3]
theorem homeR_d (h : WriteE D f (128 * b.n) [UInt8.ofNat b.d.length] = 0) (h2 : b.d ≠ []) (h3 : WriteE (WriteD D f (128 * b.n) [UInt8.ofNat b.d.length]) f (128 * b.n + 64) b.d = 0) : homeR D f (b :: l) = homeR (WriteD (WriteD D f (128 * b.n) [UInt8.ofNat b.d.length]) f (128 * b.n + 64) b.d) f l := by simp only [homeR]; rw [if_neg (by omega), if_neg h2, if_neg (by omega)]
end
theorem dropB {l : List Blk} {i : Nat} {x : Blk} (hx : l[i]? = some x) : l.drop i = x :: l.drop (i + 1) := by
  obtain ⟨hi, rfl⟩ := List.getElem?_eq_some_iff.1 hx
  exact List.drop_eq_getElem_cons hi
def CokJ (C : CS) : Prop := C.slot ≤ 2 ∧ C.val.length ≤ 20000000
theorem setR2_cok {D : DS} {C : CS} {s : Bytes} (h : CokJ C) (hs : s.length ≤ 65536) : CokJ (setR2 D C s).C := by
  simp only [setR2]
  split
  · exact h
  · split
    · exact h
    · split
      · exact h
      · refine ⟨?_, ?_⟩
        · show other C ≤ 2
          unfold other; split <;> omega
        · show s.length ≤ _
          omega
theorem setR_cok {D : DS} {C : CS} {s : Bytes} (h : CokJ C) : CokJ (setR D C s).C := by
  unfold setR
  split
  · exact h
  · split
    · split
      · exact h
      · exact setR2_cok (C := { C with sure := true }) h (by omega)
    · exact setR2_cok h (by omega)
set_option maxRecDepth 100000 in
theorem note_sp {w : World} {jp dp cp mb : Nat} {base : Int} {bad : Bool} {D : DS} {C : CS} {F : Th} (hS : Sat w [blkT jp (jV dp base cp mb bad), dT dp D, blkT cp (cellV dp C), F]) (hG : Ent F WireG) (hO : Ent F (Glob 0)) (hsl : C.slot ≤ 2) (n : Int) (hn : inI n) :
    Calls Tryz.prog 46 #[ptrV jp 0, intV n] w (Ret fun v w' => v = intV (noteR D C n).e ∧ Sat w' [blkT jp (jV dp base cp mb bad), dT dp (noteR D C n).D, blkT cp (cellV dp (noteR D C n).C), F]) := by
 refine calls_enter Tryz.func46 rfl Tryz.ntmps46 rfl ?_
 refine wc_seq (wc_region (wl_assign rfl rfl (wl_nil (qs_seq (wc_seq ?_)))))
 have hS1 := hS.drew
 refine wc_draw [0, 1, 2, 3, 4, 5, 6, 7] [5, 6] mix (by kernel_rfl) ?_
 refine vc_p rfl rfl rfl (fun _ => (ev_move rfl)) ?_
 refine vc_p rfl rfl rfl (fun _ => (ev_nilCheck rfl)) ?_
 refine vc_p rfl rfl rfl (fun _ => (ev_fieldAddr rfl fo_73_2)) ?_
 refine vc_q rfl rfl rfl (ev_load rfl ag_68 (by first | assumption | exact hS1.cell 0 rfl rfl | exact hS1.cell 2 rfl rfl)) ?_
 refine vc_p rfl rfl rfl (fun _ => (ev_move rfl)) ?_
 refine vc_s rfl rfl rfl rfl rfl rfl ?_
 have hC2 := hS1.split [] [false, false, false, false] rfl; dsimp only [selF, pickA, nthA, List.cons_append, List.nil_append] at hC2
 refine wl_call cal_78 rfl (wInt_sp hC2 (hG.starL 3 rfl) n hn) rfl ?_
 rintro e w2 ⟨_, rfl, rfl, hS2⟩; refine ⟨_, rfl, ?_⟩
 replace hS2 := hS2.join rfl; dsimp only [List.dropLast, List.cons_append, List.nil_append] at hS2; clear hC2
 clear hS1
 refine vc_e (.cons (.inl ⟨rfl, (ev_load rfl ag_68 (by first | assumption | exact hS2.cell 0 rfl rfl | exact hS2.cell 2 rfl rfl))⟩) .nil) ?_
 refine vc_s rfl rfl rfl rfl rfl rfl ?_
 have hC3 := hS2.split [2, 1] [false, true, true, false] rfl; dsimp only [selF, pickA, nthA, List.cons_append, List.nil_append] at hC3
 refine wl_call cal_88 rfl (set_sp hC3 (hO.starL 1 rfl) hsl (encN n)) rfl ?_
 rintro e w3 ⟨_, rfl, rfl, hS3⟩; refine ⟨_, rfl, ?_⟩
 replace hS3 := hS3.join rfl; dsimp only [List.dropLast, List.cons_append, List.nil_append] at hS3; clear hC3
 clear hS2
 refine vc_e (.skip (by kernel_rfl) .nil) ?_
 refine vc_p rfl rfl rfl (fun _ => (ev_assign rfl)) ?_
 refine VC.nil (qs_seq (wc_ret ?_))
 refine fin1 (.inr rfl) rfl rfl ?_
 exact ⟨_, rfl, rfl, hS3.pick [2, 1, 0, 3] rfl⟩
set_option maxRecDepth 100000 in
theorem home_sp {w : World} {jp dp cp mb : Nat} {base : Int} {bad : Bool} {D : DS} {F : Th} (hS : Sat w [blkT jp (jV dp base cp mb bad), dT dp D, F]) {lv : Value} {l : List Blk} (hL : Ent F (RdL jbC lv l)) (hr : ∀ x ∈ l, 0 ≤ x.n ∧ x.n < 2048 ∧ x.d.length ≤ 64) :
    Calls Tryz.prog 48 #[ptrV jp 0, lv] w (Ret fun v w' => v = intV (homeR D base l).1 ∧ Sat w' [blkT jp (jV dp base cp mb bad), dT dp (homeR D base l).2, F]) := by
 obtain ⟨ao, cap, rfl, hmax⟩ := (hL.sat hS 2 rfl).shape
 refine calls_enter Tryz.func48 rfl Tryz.ntmps48 rfl ?_
 refine wc_seq (wc_region (wl_assign rfl rfl (wl_nil (qs_seq (wc_seq (wc_seq (wc_region (wl_move rfl rfl ?_))))))))
 refine wl_lenL Tryz.underlying32 rfl rfl ?_
 refine wl_move rfl rfl (wl_nil (qs_seq (wc_block ?_)))
 refine wc_loop (fun K0 E0 W0 => ∃ (i : Nat) (D1 : DS), K0 = l.length - i ∧ E0 = [(0, ptrV jp 0), (9, .slice ao l.length cap), (10, intV (l.length : Int)), (11, intV (i : Int))] ∧ Sat W0 [blkT jp (jV dp base cp mb bad), dT dp D1, F] ∧ (i ≤ l.length) ∧ (homeR D base l = homeR D1 base (l.drop i))) (L0 := [(0, _), (9, _), (10, _), (11, _)]) (l.length - 0) (.cons rfl (.cons rfl (.cons rfl (.cons rfl .nil)))) ⟨0, D, rfl, rfl, hS, by omega, rfl⟩ ?_
 rintro _ _ w1 ⟨i, D1, rfl, rfl, hS1, hi, hH⟩
 refine wc_seq (wc_region ?_)
 refine wl_lss rfl rfl rfl ?_
 refine wl_nil (qs_seq (wc_seq ?_))
 refine wc_condD rfl (fun h2 => ?_) (fun h2 => ?_)
 ·obtain ⟨x, hx⟩ : ∃ x, l[i]? = some x := ⟨_, List.getElem?_eq_getElem (by omega)⟩
  obtain ⟨b, off, rfl, hc⟩ := (hL.sat hS1 2 rfl).get hx
  obtain ⟨hx0, hx1, hx2⟩ := hr x (List.mem_of_getElem? hx)
  refine wc_skip (qs_seq (wc_seq (wc_block (wc_seq (wc_region ?_)))))
  refine wl_indexAddr i rfl rfl (by first | rfl | omega) (by omega) es_32 rfl ?_
  refine wl_loadAt rfl ag_34 sz_34 (vs := bV x) hc rfl ?_
  refine wl_alloc hS1 zr_34 rfl rfl ?_
  intro b3 w3 hS3
  clear hS1
  first | (refine wl_storeA hS3 rfl rfl sz_34 rfl (by first | rfl | (simp [allOne, Value.oneCell']; done) | assumption | exact hone) (i := 0) rfl (by first | decide | exact Nat.le_of_ble_eq_true rfl | (simp; done) | omega) ?_) | (refine wl_storeA hS3 rfl rfl sz_34 rfl (by first | rfl | (simp [allOne, Value.oneCell']; done) | assumption | exact hone) (i := 1) rfl (by first | decide | exact Nat.le_of_ble_eq_true rfl | (simp; done) | omega) ?_)
  intro w4 hS5; dsimp only [List.set] at hS5
  clear hS3
  refine wl_nil (qs_seq (wc_seq (wc_seq ?_)))
  have hS6 := hS5.drew
  refine wc_draw [0, 1, 2, 3, 4, 5, 6, 7, 8, 9, 10, 11, 12, 13, 14, 15, 16, 17, 18] [15, 17] mix (by kernel_rfl) ?_
  refine vc_p rfl rfl rfl (fun _ => (ev_move rfl)) ?_
  refine vc_p rfl rfl rfl (fun _ => (ev_nilCheck rfl)) ?_
  refine vc_p rfl rfl rfl (fun _ => (ev_fieldAddr rfl fo_73_0)) ?_
  refine vc_q rfl rfl rfl (ev_load rfl ag_25 (by first | assumption | exact hS6.cell 0 rfl rfl | exact hS6.cell 1 rfl rfl)) ?_
  refine vc_p rfl rfl rfl (fun _ => (ev_move rfl)) ?_
  refine vc_p rfl rfl rfl (fun _ => (ev_nilCheck rfl)) ?_
  refine vc_p rfl rfl rfl (fun _ => (ev_fieldAddr rfl fo_73_1)) ?_
  refine vc_q rfl rfl rfl (ev_load rfl ag_3 (by first | assumption | exact hS6.cell 0 rfl rfl | exact hS6.cell 1 rfl rfl)) ?_
  refine vc_p rfl rfl rfl (fun _ => (ev_fieldAddr rfl fo_34_0)) ?_
  refine vc_q rfl rfl rfl (ev_load rfl ag_3 (by first | assumption | exact hS6.cell 0 rfl rfl | exact hS6.cell 1 rfl rfl)) ?_
  refine vc_p rfl rfl rfl (fun _ => (ev_mul rfl rfl (by omega) (by omega))) ?_
  refine vc_p rfl rfl rfl (fun _ => (ev_fieldAddr rfl fo_34_1)) ?_
  refine vc_q rfl rfl rfl (ev_load rfl ag_9 (by first | assumption | exact hS6.cell 0 rfl rfl | exact hS6.cell 1 rfl rfl)) ?_
  refine vc_p rfl rfl rfl (fun _ => (ev_lenS Tryz.underlying9 rfl)) ?_
  refine vc_p rfl rfl rfl (fun _ => (ev_convToU8 x.d.length Tryz.underlying3 Tryz.underlying5 rfl (by first | rfl | omega))) ?_
  refine vc_s rfl rfl rfl rfl rfl rfl ?_
  refine wl_rowBuild byC [UInt8.ofNat x.d.length] hS6 rfl Tryz.underlying118 ifz_5 rfl rfl rfl rfl (by first | rfl | simp [RowC.cells, fillL, splice]) rfl ?_
  intro b7 w7 hS7
  clear hS6
  refine vc_e (.skip (by kernel_rfl) (.cons (.inl ⟨rfl, (ev_load rfl ag_3 (by first | assumption | exact hS7.cell 1 rfl rfl | exact hS7.cell 2 rfl rfl))⟩) (.cons (.inl ⟨rfl, (ev_load rfl ag_3 (by first | assumption | exact hS7.cell 1 rfl rfl | exact hS7.cell 2 rfl rfl))⟩) (.cons (.inl ⟨rfl, (ev_load rfl ag_25 (by first | assumption | exact hS7.cell 1 rfl rfl | exact hS7.cell 2 rfl rfl))⟩) .nil)))) ?_
  refine vc_q rfl rfl rfl (ev_rowStr 0 hS7 rfl rfl Tryz.underlying118 Tryz.underlying5 Tryz.underlying9) ?_
  refine vc_s rfl rfl rfl rfl rfl rfl ?_
  have hC8 := hS7.split [3] [false, false, false, true, false] rfl; dsimp only [selF, pickA, nthA, List.cons_append, List.nil_append] at hC8
  refine wl_call cal_20 rfl (writeT hC8 base (128 * x.n) [UInt8.ofNat x.d.length]) rfl ?_
  rintro e w8 ⟨_, rfl, rfl, hS8⟩; refine ⟨_, rfl, ?_⟩
  replace hS8 := hS8.join rfl; dsimp only [List.dropLast, List.cons_append, List.nil_append] at hS8; clear hC8
  clear hS7
  refine vc_e (.skip (by kernel_rfl) (.skip (by kernel_rfl) (.skip (by kernel_rfl) (.skip (by kernel_rfl) (.skip (by kernel_rfl) .nil))))) ?_
  refine vc_p rfl rfl rfl (fun _ => (ev_assign rfl)) ?_
  refine VC.nil (qs_seq ?_)
  refine wc_sub (L' := [(7, _), (6, _), (0, _), (9, _), (10, _), (11, _)]) (.cons rfl (.cons rfl (.cons rfl (.cons rfl (.cons rfl (.cons rfl .nil)))))) ?_
  refine wc_seq (wc_region (wl_move rfl rfl ?_))
  refine wl_neq rfl rfl rfl ?_
  refine wl_nil (qs_seq ?_)
  refine wc_condD rfl (fun h9 => ?_) (fun h9 => ?_)
  ·have h1 := h9
   refine wc_seq (wc_region (wl_move rfl rfl (wl_assign rfl rfl (wl_nil (qs_seq (wc_ret (qs_then_ret (qs_block_ret (qs_then_ret (qs_then_ret (qs_block_ret (qs_then_ret ?_))))))))))))
   refine fin1 (.inr rfl) rfl rfl ?_
   exact ⟨_, rfl, by rw [hH, dropB hx, homeR_a h1], by rw [hH, dropB hx, homeR_a h1]; exact hS8.pick [3, 0, 4] rfl⟩
  have h1 := Decidable.not_not.1 h9
  refine wc_skip (qs_seq (wc_seq (wc_seq (wc_region ?_))))
  refine wl_fieldAddr rfl fo_34_1 rfl ?_
  refine wl_load rfl ag_9 (by first | assumption | exact hS8.cell 2 rfl rfl | exact hS8.cell 3 rfl rfl) rfl ?_
  refine wl_eqlS rfl rfl rfl ?_
  refine wl_nil (qs_seq ?_)
  refine wc_sub (L' := [(38, _), (6, _), (0, _), (9, _), (10, _), (11, _)]) (.cons rfl (.cons rfl (.cons rfl (.cons rfl (.cons rfl (.cons rfl .nil)))))) ?_
  refine wc_condD rfl (fun h10 => ?_) (fun h10 => ?_)
  ·have h2 := h10
   refine wc_exit (qs_then_exit (qs_block_exit (qs_seq (wc_region ?_))))
   refine wl_add rfl rfl (by omega) (by omega) rfl ?_
   refine wl_move rfl rfl (wl_nil ?_)
   exact qs_round (L1 := [(0, _), (9, _), (10, _), (11, intV ((i + 1 : Nat) : Int))]) (.cons rfl (.cons rfl (.cons rfl (.cons rfl .nil)))) (k1 := l.length - (i + 1)) (by omega) ⟨i + 1, _, rfl, rfl, hS8.pick [3, 0, 4] rfl, by omega, by rw [hH, dropB hx, homeR_b h1 h2]⟩
  have h2 := h10
  refine wc_skip (qs_seq (wc_seq ?_))
  have hS11 := hS8.drew
  refine wc_draw [0, 1, 2, 3, 4, 5, 6, 7, 8, 9, 10, 11, 12, 13, 14, 15] [14] mix (by kernel_rfl) ?_
  refine vc_p rfl rfl rfl (fun _ => (ev_move rfl)) ?_
  refine vc_p rfl rfl rfl (fun _ => (ev_nilCheck rfl)) ?_
  refine vc_p rfl rfl rfl (fun _ => (ev_fieldAddr rfl fo_73_0)) ?_
  refine vc_q rfl rfl rfl (ev_load rfl ag_25 (by first | assumption | exact hS11.cell 2 rfl rfl | exact hS11.cell 3 rfl rfl)) ?_
  refine vc_p rfl rfl rfl (fun _ => (ev_move rfl)) ?_
  refine vc_p rfl rfl rfl (fun _ => (ev_nilCheck rfl)) ?_
  refine vc_p rfl rfl rfl (fun _ => (ev_fieldAddr rfl fo_73_1)) ?_
  refine vc_q rfl rfl rfl (ev_load rfl ag_3 (by first | assumption | exact hS11.cell 2 rfl rfl | exact hS11.cell 3 rfl rfl)) ?_
  refine vc_p rfl rfl rfl (fun _ => (ev_fieldAddr rfl fo_34_0)) ?_
  refine vc_q rfl rfl rfl (ev_load rfl ag_3 (by first | assumption | exact hS11.cell 2 rfl rfl | exact hS11.cell 3 rfl rfl)) ?_
  refine vc_p rfl rfl rfl (fun _ => (ev_mul rfl rfl (by omega) (by omega))) ?_
  refine vc_p rfl rfl rfl (fun _ => (ev_add rfl rfl (by omega) (by omega))) ?_
  refine vc_p rfl rfl rfl (fun _ => (ev_fieldAddr rfl fo_34_1)) ?_
  refine vc_q rfl rfl rfl (ev_load rfl ag_9 (by first | assumption | exact hS11.cell 2 rfl rfl | exact hS11.cell 3 rfl rfl)) ?_
  refine vc_s rfl rfl rfl rfl rfl rfl ?_
  have hC12 := hS11.split [0] [true, false, false, false, false] rfl; dsimp only [selF, pickA, nthA, List.cons_append, List.nil_append] at hC12
  refine wl_call cal_20 rfl (writeT hC12 base (128 * x.n + 64) x.d) rfl ?_
  rintro e w12 ⟨_, rfl, rfl, hS12⟩; refine ⟨_, rfl, ?_⟩
  replace hS12 := hS12.join rfl; dsimp only [List.dropLast, List.cons_append, List.nil_append] at hS12; clear hC12
  clear hS11
  refine vc_e (.skip (by kernel_rfl) (.skip (by kernel_rfl) (.skip (by kernel_rfl) (.skip (by kernel_rfl) .nil)))) ?_
  refine vc_p rfl rfl rfl (fun _ => (ev_assign rfl)) ?_
  refine VC.nil (qs_seq ?_)
  refine wc_sub (L' := [(8, _), (0, _), (9, _), (10, _), (11, _)]) (.cons rfl (.cons rfl (.cons rfl (.cons rfl (.cons rfl .nil))))) ?_
  refine wc_seq (wc_region (wl_move rfl rfl ?_))
  refine wl_neq rfl rfl rfl ?_
  refine wl_nil (qs_seq ?_)
  refine wc_condD rfl (fun h13 => ?_) (fun h13 => ?_)
  ·have h3 := h13
   refine wc_seq (wc_region (wl_move rfl rfl (wl_assign rfl rfl (wl_nil (qs_seq (wc_ret (qs_block_ret (qs_then_ret (qs_then_ret (qs_block_ret (qs_then_ret ?_)))))))))))
   refine fin1 (.inr rfl) rfl rfl ?_
   exact ⟨_, rfl, by rw [hH, dropB hx, homeR_c h1 h2 h3], by rw [hH, dropB hx, homeR_c h1 h2 h3]; exact hS12.pick [3, 0, 4] rfl⟩
  have h3 := Decidable.not_not.1 h13
  refine wc_skip (qs_block_normal (qs_seq (wc_region ?_)))
  refine wl_add rfl rfl (by omega) (by omega) rfl ?_
  refine wl_move rfl rfl (wl_nil ?_)
  exact qs_round (L1 := [(0, _), (9, _), (10, _), (11, intV ((i + 1 : Nat) : Int))]) (.cons rfl (.cons rfl (.cons rfl (.cons rfl .nil)))) (k1 := l.length - (i + 1)) (by omega) ⟨i + 1, _, rfl, rfl, hS12.pick [3, 0, 4] rfl, by omega, by rw [hH, dropB hx, homeR_d h1 h2 h3]⟩
 refine wc_exit (qs_then_exit (qs_then_exit (qs_block_exit (qs_seq (wc_seq ?_)))))
 have hS14 := hS1.drew
 refine wc_draw [0, 1, 2, 3, 4, 5, 6, 7, 8, 9] [8] mix (by kernel_rfl) ?_
 refine vc_p rfl rfl rfl (fun _ => (ev_move rfl)) ?_
 refine vc_p rfl rfl rfl (fun _ => (ev_nilCheck rfl)) ?_
 refine vc_p rfl rfl rfl (fun _ => (ev_fieldAddr rfl fo_73_0)) ?_
 refine vc_q rfl rfl rfl (ev_load rfl ag_25 (by first | assumption | exact hS14.cell 0 rfl rfl)) ?_
 refine vc_p rfl rfl rfl (fun _ => (ev_move rfl)) ?_
 refine vc_p rfl rfl rfl (fun _ => (ev_nilCheck rfl)) ?_
 refine vc_p rfl rfl rfl (fun _ => (ev_fieldAddr rfl fo_73_1)) ?_
 refine vc_q rfl rfl rfl (ev_load rfl ag_3 (by first | assumption | exact hS14.cell 0 rfl rfl)) ?_
 refine vc_s rfl rfl rfl rfl rfl rfl ?_
 have hC15 := hS14.split [1] [false, true, false] rfl; dsimp only [selF, pickA, nthA, List.cons_append, List.nil_append] at hC15
 refine wl_call cal_22 rfl (syncT hC15 base) rfl ?_
 rintro e w15 ⟨_, rfl, rfl, hS15⟩; refine ⟨_, rfl, ?_⟩
 replace hS15 := hS15.join rfl; dsimp only [List.dropLast, List.cons_append, List.nil_append] at hS15; clear hC15
 clear hS14
 refine vc_e (.skip (by kernel_rfl) (.skip (by kernel_rfl) .nil)) ?_
 refine vc_p rfl rfl rfl (fun _ => (ev_assign rfl)) ?_
 refine VC.nil (qs_seq ?_)
 refine wc_sub (L' := [(4, _)]) (.cons rfl .nil) ?_
 refine wc_ret ?_
 refine fin1 (.inr rfl) rfl rfl ?_
 exact ⟨_, rfl, by rw [hH, List.drop_eq_nil_of_le (by omega)]; rfl, by rw [hH, List.drop_eq_nil_of_le (by omega)]; exact hS15.pick [1, 0, 2] rfl⟩
set_option maxRecDepth 100000 in
theorem write1_sp {σ : Type} {T : σ → Th} {C F : Th} {I : σ → Prop} {w : World} {sv : Value} {vs : List FnV} {gs : List (σ → Int × σ)} (hg : ∀ (i : Nat) (v : FnV), vs[i]? = some v → ∃ g, gs[i]? = some g ∧ Stp Tryz.prog T C I v g) (hl : gs.length = vs.length) (hln : vs.length ≤ 1000) (x : σ) (hI : I x) (hS : Sat w [T x, C, rowT fnC sv vs, F]) :
    Calls Tryz.prog 36 #[sv] w (Ret fun v w' => v = intV (runW gs x).1 ∧ I (runW gs x).2 ∧ Sat w' [T (runW gs x).2, C, rowT fnC sv vs, F]) := by
 refine calls_enter Tryz.func36 rfl Tryz.ntmps36 rfl ?_
 refine wc_seq (wc_region (wl_assign rfl rfl (wl_nil (qs_seq (wc_seq (wc_seq (wc_region (wl_move rfl rfl ?_))))))))
 first | refine wl_lenL Tryz.underlying112 rfl rfl ?_ | refine wl_lenO 2 hS Tryz.underlying112 rfl rfl rfl ?_
 refine wl_move rfl rfl (wl_nil (qs_seq (wc_block ?_)))
 refine wc_loop (fun K0 E0 W0 => ∃ (i : Nat) (y : σ), K0 = vs.length - i ∧ E0 = [(6, sv), (7, intV (vs.length : Int)), (8, intV (i : Int))] ∧ Sat W0 [T y, C, rowT fnC sv vs, F] ∧ (i ≤ vs.length) ∧ (runW gs x = runW (gs.drop i) y) ∧ (I y)) (L0 := [(6, _), (7, _), (8, _)]) (vs.length - 0) (.cons rfl (.cons rfl (.cons rfl .nil))) ⟨0, x, rfl, rfl, hS, by omega, rfl, hI⟩ ?_
 rintro _ _ w1 ⟨i, y, rfl, rfl, hS1, hi, hR, hIy⟩
 refine wc_seq (wc_region ?_)
 refine wl_lss rfl rfl rfl ?_
 refine wl_nil (qs_seq (wc_seq ?_))
 refine wc_condD rfl (fun h2 => ?_) (fun h2 => ?_)
 ·obtain ⟨v, hv⟩ : ∃ v, vs[i]? = some v := ⟨_, List.getElem?_eq_getElem (by omega)⟩
  obtain ⟨g, hgi, hcb, hst⟩ := hg i v hv
  refine wc_skip (qs_seq (wc_seq (wc_block (wc_seq (wc_region ?_)))))
  refine wl_rowIdx fnC 2 i hS1 rfl rfl rfl (by first | rfl | omega) hv es_112 rfl ?_
  intro bx3 capx3 hvx3
  refine wl_rowLoad 2 i 0 hS1 rfl hvx3 rfl rfl hv ag_75 rfl rfl ?_
  refine wl_assign rfl rfl (wl_nil (qs_seq (wc_seq (wc_region (wl_move rfl rfl ?_)))))
  have hCv := hS1.split [0, 1] [true, true, false, false] rfl; dsimp only [selF, pickA, nthA, List.cons_append, List.nil_append] at hCv
  refine wl_callF (f := v.f) (fs := v.fs) (cap := v.cap) rfl hcb (hst y _ _ hIy hCv) rfl ?_
  rintro e w5 ⟨_, rfl, rfl, hIz, hS5⟩; refine ⟨_, rfl, ?_⟩
  replace hS5 := hS5.join rfl; dsimp only [List.dropLast, List.cons_append, List.nil_append] at hS5
  clear hS1
  refine wl_assign rfl rfl (wl_nil (qs_seq (wc_seq (wc_region (wl_move rfl rfl ?_)))))
  refine wl_neq rfl rfl rfl ?_
  refine wl_nil (qs_seq ?_)
  refine wc_sub (L' := [(15, _), (5, _), (6, _), (7, _), (8, _)]) (.cons rfl (.cons rfl (.cons rfl (.cons rfl (.cons rfl .nil))))) ?_
  refine wc_condD rfl (fun h4 => ?_) (fun h4 => ?_)
  ·refine wc_seq (wc_region (wl_move rfl rfl (wl_assign rfl rfl (wl_nil (qs_seq (wc_ret (qs_block_ret (qs_then_ret (qs_then_ret (qs_block_ret (qs_then_ret ?_)))))))))))
   refine fin1 (.inr rfl) rfl rfl ?_
   have hfin : runW gs x = g y := by rw [hR, runW_step hgi, if_pos (by assumption)]
   exact ⟨_, rfl, by rw [hfin], by rw [hfin]; exact hIz, by rw [hfin]; exact hS5.pick [0, 1, 2, 3] rfl⟩
  refine wc_skip (qs_block_normal (qs_seq (wc_region ?_)))
  refine wl_add rfl rfl (by omega) (by omega) rfl ?_
  refine wl_move rfl rfl (wl_nil ?_)
  exact qs_round (L1 := [(6, _), (7, _), (8, intV ((i + 1 : Nat) : Int))]) (.cons rfl (.cons rfl (.cons rfl .nil))) (k1 := vs.length - (i + 1)) (by omega) ⟨i + 1, _, rfl, rfl, hS5.pick [0, 1, 2, 3] rfl, by omega, by rw [hR, runW_step hgi, if_neg (by first | assumption | omega)], hIz⟩
 refine wc_exit (qs_then_exit (qs_then_exit (qs_block_exit (qs_seq (wc_seq (wc_region (wl_assign rfl rfl (wl_nil (qs_seq (wc_ret ?_))))))))))
 refine fin1 (.inr rfl) rfl rfl ?_
 have hfin : runW gs x = (0, y) := by rw [hR, runW_end (by omega)]
 exact ⟨_, rfl, by rw [hfin], by rw [hfin]; exact hIy, by rw [hfin]; exact hS1.pick [0, 1, 2, 3] rfl⟩
def slotI (x : DS × CS) : Prop := CokJ x.2
def tJ (jp dp cp mb : Nat) (base : Int) (bad : Bool) (x : DS × CS) : Th := starL [blkT jp (jV dp base cp mb bad), dT dp x.1, blkT cp (cellV dp x.2)]
def cJ (bj jp bl bs bg : Nat) (base : Int) (s : Bs) (lv : Value) (F : Th) : Th := starL [blkT bj [ptrV jp 0], blkT bl [lv], blkT bs [strV s], blkT bg [intV (base + 1)], F]
def cR (bj jp bl : Nat) (lv : Value) (F : Th) : Th := starL [blkT bj [ptrV jp 0], blkT bl [lv], F]
section
variable {jp dp cp mb bj bl bs bg : Nat} {base : Int} {bad : Bool} {s : Bs} {lv : Value} {F X : Th} {x : DS × CS} {w : World}
theorem tJ_open (h : Sat w [tJ jp dp cp mb base bad x, cJ bj jp bl bs bg base s lv F, X]) : Sat w [blkT jp (jV dp base cp mb bad), dT dp x.1, blkT cp (cellV dp x.2), blkT bj [ptrV jp 0], blkT bl [lv], blkT bs [strV s], blkT bg [intV (base + 1)], X, F] := by
  have h1 := h.flat; dsimp only [List.cons_append, List.nil_append] at h1
  have h2 := (h1.pull 3 rfl).flat; dsimp only [List.cons_append, List.nil_append, List.eraseIdx] at h2
  exact h2.pick [5, 6, 7, 0, 1, 2, 3, 8, 4] rfl
theorem tJ_shut (h : Sat w [blkT jp (jV dp base cp mb bad), dT dp x.1, blkT cp (cellV dp x.2), blkT bj [ptrV jp 0], blkT bl [lv], blkT bs [strV s], blkT bg [intV (base + 1)], X, F]) : Sat w [tJ jp dp cp mb base bad x, cJ bj jp bl bs bg base s lv F, X] := by
  have h1 := Sat.fold (As := [blkT bj [ptrV jp 0], blkT bl [lv], blkT bs [strV s], blkT bg [intV (base + 1)], F]) (h.pick [3, 4, 5, 6, 8, 0, 1, 2, 7] rfl)
  exact Sat.fold (As := [blkT jp (jV dp base cp mb bad), dT dp x.1, blkT cp (cellV dp x.2)]) (h1.pick [1, 2, 3, 0, 4] rfl)
theorem tR_open (h : Sat w [tJ jp dp cp mb base bad x, cR bj jp bl lv F, X]) : Sat w [blkT jp (jV dp base cp mb bad), dT dp x.1, blkT cp (cellV dp x.2), blkT bj [ptrV jp 0], blkT bl [lv], X, F] := by
  have h1 := h.flat; dsimp only [List.cons_append, List.nil_append] at h1
  have h2 := (h1.pull 3 rfl).flat; dsimp only [List.cons_append, List.nil_append, List.eraseIdx] at h2
  exact h2.pick [3, 4, 5, 0, 1, 6, 2] rfl
theorem tR_shut (h : Sat w [blkT jp (jV dp base cp mb bad), dT dp x.1, blkT cp (cellV dp x.2), blkT bj [ptrV jp 0], blkT bl [lv], X, F]) : Sat w [tJ jp dp cp mb base bad x, cR bj jp bl lv F, X] := by
  have h1 := Sat.fold (As := [blkT bj [ptrV jp 0], blkT bl [lv], F]) (h.pick [3, 4, 6, 0, 1, 2, 5] rfl)
  exact Sat.fold (As := [blkT jp (jV dp base cp mb bad), dT dp x.1, blkT cp (cellV dp x.2)]) (h1.pick [1, 2, 3, 0, 4] rfl)
end
def gTrunc (base : Int) (x : DS × CS) : Int × (DS × CS) := (TruncE x.1 (base + 1) 0, (TruncD x.1 (base + 1) 0, x.2))
def gWrite (base : Int) (s : Bs) (x : DS × CS) : Int × (DS × CS) := (WriteE x.1 (base + 1) 0 s, (WriteD x.1 (base + 1) 0 s, x.2))
def gSync (base : Int) (x : DS × CS) : Int × (DS × CS) := (SyncE x.1 (base + 1), (SyncD x.1 (base + 1), x.2))
def gNote (n : Int) (x : DS × CS) : Int × (DS × CS) := ((noteR x.1 x.2 n).e, ((noteR x.1 x.2 n).D, (noteR x.1 x.2 n).C))
def gHome (base : Int) (l : List Blk) (x : DS × CS) : Int × (DS × CS) := ((homeR x.1 base l).1, ((homeR x.1 base l).2, x.2))
set_option maxRecDepth 100000 in
theorem stp41 {jp dp cp mb bj bl bs bg : Nat} {base : Int} {bad : Bool} {s : Bs} {lv : Value} {F : Th} (hb : 0 ≤ base ∧ base ≤ 13) (hG : Ent F WireG) (hO : Ent F (Glob 0)) {l : List Blk} (hL : Ent F (RdL jbC lv l)) (hr : ∀ x ∈ l, 0 ≤ x.n ∧ x.n < 2048 ∧ x.d.length ≤ 64) (hs : s.length ≤ 1000000000) : Stp Tryz.prog (tJ jp dp cp mb base bad) (cJ bj jp bl bs bg base s lv F) slotI ⟨41, [], [ptrV bj 0, ptrV bg 0]⟩ (gTrunc base) := by
 refine ⟨cal_41, fun x w X hI hS => ?_⟩
 replace hS := tJ_open hS
 show Calls Tryz.prog 41 #[ptrV bj 0, ptrV bg 0] w _
 refine calls_enter Tryz.func41 rfl Tryz.ntmps41 rfl ?_
 refine wc_seq (wc_region (wl_assign rfl rfl (wl_nil (qs_seq (wc_seq ?_)))))
 have hS1 := hS.drew
 refine wc_draw [0, 1, 2, 3, 4, 5, 6] [5] mix (by kernel_rfl) ?_
 refine vc_q rfl rfl rfl (ev_load rfl ag_27 (by first | assumption | exact hS1.cell 0 rfl rfl | exact hS1.cell 2 rfl rfl | exact hS1.cell 3 rfl rfl | exact hS1.cell 4 rfl rfl | exact hS1.cell 5 rfl rfl | exact hS1.cell 6 rfl rfl)) ?_
 refine vc_p rfl rfl rfl (fun _ => (ev_nilCheck rfl)) ?_
 refine vc_p rfl rfl rfl (fun _ => (ev_fieldAddr rfl fo_73_0)) ?_
 refine vc_q rfl rfl rfl (ev_load rfl ag_25 (by first | assumption | exact hS1.cell 0 rfl rfl | exact hS1.cell 2 rfl rfl | exact hS1.cell 3 rfl rfl | exact hS1.cell 4 rfl rfl | exact hS1.cell 5 rfl rfl | exact hS1.cell 6 rfl rfl)) ?_
 refine vc_q rfl rfl rfl (ev_load rfl ag_3 (by first | assumption | exact hS1.cell 0 rfl rfl | exact hS1.cell 2 rfl rfl | exact hS1.cell 3 rfl rfl | exact hS1.cell 4 rfl rfl | exact hS1.cell 5 rfl rfl | exact hS1.cell 6 rfl rfl)) ?_
 refine vc_s rfl rfl rfl rfl rfl rfl ?_
 have hC2 := hS1.split [1] [false, true, false, false, false, false, false, false, false] rfl; dsimp only [selF, pickA, nthA, List.cons_append, List.nil_append] at hC2
 refine wl_call cal_42 rfl (truncT hC2 (base + 1) 0) rfl ?_
 rintro e w2 ⟨_, rfl, rfl, hS2⟩; refine ⟨_, rfl, ?_⟩
 replace hS2 := hS2.join rfl; dsimp only [List.dropLast, List.cons_append, List.nil_append] at hS2; clear hC2
 clear hS1
 refine vc_e (.skip (by kernel_rfl) (.skip (by kernel_rfl) (.skip (by kernel_rfl) .nil))) ?_
 refine vc_p rfl rfl rfl (fun _ => (ev_assign rfl)) ?_
 refine VC.nil (qs_seq (wc_ret ?_))
 refine fin1 (.inr rfl) rfl rfl ?_
 exact ⟨_, rfl, rfl, hI, tJ_shut (x := (gTrunc base x).2) (hS2.pick [1, 0, 2, 3, 4, 5, 6, 7, 8] rfl)⟩
set_option maxRecDepth 100000 in
theorem stp43 {jp dp cp mb bj bl bs bg : Nat} {base : Int} {bad : Bool} {s : Bs} {lv : Value} {F : Th} (hb : 0 ≤ base ∧ base ≤ 13) (hG : Ent F WireG) (hO : Ent F (Glob 0)) {l : List Blk} (hL : Ent F (RdL jbC lv l)) (hr : ∀ x ∈ l, 0 ≤ x.n ∧ x.n < 2048 ∧ x.d.length ≤ 64) (hs : s.length ≤ 1000000000) : Stp Tryz.prog (tJ jp dp cp mb base bad) (cJ bj jp bl bs bg base s lv F) slotI ⟨43, [], [ptrV bj 0, ptrV bg 0, ptrV bs 0]⟩ (gWrite base s) := by
 refine ⟨cal_43, fun x w X hI hS => ?_⟩
 replace hS := tJ_open hS
 show Calls Tryz.prog 43 #[ptrV bj 0, ptrV bg 0, ptrV bs 0] w _
 refine calls_enter Tryz.func43 rfl Tryz.ntmps43 rfl ?_
 refine wc_seq (wc_region (wl_assign rfl rfl (wl_nil (qs_seq (wc_seq ?_)))))
 have hS1 := hS.drew
 refine wc_draw [0, 1, 2, 3, 4, 5, 6, 7] [6] mix (by kernel_rfl) ?_
 refine vc_q rfl rfl rfl (ev_load rfl ag_27 (by first | assumption | exact hS1.cell 0 rfl rfl | exact hS1.cell 2 rfl rfl | exact hS1.cell 3 rfl rfl | exact hS1.cell 4 rfl rfl | exact hS1.cell 5 rfl rfl | exact hS1.cell 6 rfl rfl)) ?_
 refine vc_p rfl rfl rfl (fun _ => (ev_nilCheck rfl)) ?_
 refine vc_p rfl rfl rfl (fun _ => (ev_fieldAddr rfl fo_73_0)) ?_
 refine vc_q rfl rfl rfl (ev_load rfl ag_25 (by first | assumption | exact hS1.cell 0 rfl rfl | exact hS1.cell 2 rfl rfl | exact hS1.cell 3 rfl rfl | exact hS1.cell 4 rfl rfl | exact hS1.cell 5 rfl rfl | exact hS1.cell 6 rfl rfl)) ?_
 refine vc_q rfl rfl rfl (ev_load rfl ag_3 (by first | assumption | exact hS1.cell 0 rfl rfl | exact hS1.cell 2 rfl rfl | exact hS1.cell 3 rfl rfl | exact hS1.cell 4 rfl rfl | exact hS1.cell 5 rfl rfl | exact hS1.cell 6 rfl rfl)) ?_
 refine vc_q rfl rfl rfl (ev_load rfl ag_9 (by first | assumption | exact hS1.cell 0 rfl rfl | exact hS1.cell 2 rfl rfl | exact hS1.cell 3 rfl rfl | exact hS1.cell 4 rfl rfl | exact hS1.cell 5 rfl rfl | exact hS1.cell 6 rfl rfl)) ?_
 refine vc_s rfl rfl rfl rfl rfl rfl ?_
 have hC2 := hS1.split [1] [false, true, false, false, false, false, false, false, false] rfl; dsimp only [selF, pickA, nthA, List.cons_append, List.nil_append] at hC2
 refine wl_call cal_20 rfl (writeT hC2 (base + 1) 0 s) rfl ?_
 rintro e w2 ⟨_, rfl, rfl, hS2⟩; refine ⟨_, rfl, ?_⟩
 replace hS2 := hS2.join rfl; dsimp only [List.dropLast, List.cons_append, List.nil_append] at hS2; clear hC2
 clear hS1
 refine vc_e (.skip (by kernel_rfl) (.skip (by kernel_rfl) (.skip (by kernel_rfl) (.skip (by kernel_rfl) .nil)))) ?_
 refine vc_p rfl rfl rfl (fun _ => (ev_assign rfl)) ?_
 refine VC.nil (qs_seq ?_)
 refine wc_sub (L' := [(3, _)]) (.cons rfl .nil) ?_
 refine wc_ret ?_
 refine fin1 (.inr rfl) rfl rfl ?_
 exact ⟨_, rfl, rfl, hI, tJ_shut (x := (gWrite base s x).2) (hS2.pick [1, 0, 2, 3, 4, 5, 6, 7, 8] rfl)⟩
set_option maxRecDepth 100000 in
theorem stp44 {jp dp cp mb bj bl bs bg : Nat} {base : Int} {bad : Bool} {s : Bs} {lv : Value} {F : Th} (hb : 0 ≤ base ∧ base ≤ 13) (hG : Ent F WireG) (hO : Ent F (Glob 0)) {l : List Blk} (hL : Ent F (RdL jbC lv l)) (hr : ∀ x ∈ l, 0 ≤ x.n ∧ x.n < 2048 ∧ x.d.length ≤ 64) (hs : s.length ≤ 1000000000) : Stp Tryz.prog (tJ jp dp cp mb base bad) (cJ bj jp bl bs bg base s lv F) slotI ⟨44, [], [ptrV bj 0, ptrV bg 0]⟩ (gSync base) := by
 refine ⟨cal_44, fun x w X hI hS => ?_⟩
 replace hS := tJ_open hS
 show Calls Tryz.prog 44 #[ptrV bj 0, ptrV bg 0] w _
 refine calls_enter Tryz.func44 rfl Tryz.ntmps44 rfl ?_
 refine wc_seq (wc_region (wl_assign rfl rfl (wl_nil (qs_seq (wc_seq ?_)))))
 have hS1 := hS.drew
 refine wc_draw [0, 1, 2, 3, 4, 5, 6] [5] mix (by kernel_rfl) ?_
 refine vc_q rfl rfl rfl (ev_load rfl ag_27 (by first | assumption | exact hS1.cell 0 rfl rfl | exact hS1.cell 2 rfl rfl | exact hS1.cell 3 rfl rfl | exact hS1.cell 4 rfl rfl | exact hS1.cell 5 rfl rfl | exact hS1.cell 6 rfl rfl)) ?_
 refine vc_p rfl rfl rfl (fun _ => (ev_nilCheck rfl)) ?_
 refine vc_p rfl rfl rfl (fun _ => (ev_fieldAddr rfl fo_73_0)) ?_
 refine vc_q rfl rfl rfl (ev_load rfl ag_25 (by first | assumption | exact hS1.cell 0 rfl rfl | exact hS1.cell 2 rfl rfl | exact hS1.cell 3 rfl rfl | exact hS1.cell 4 rfl rfl | exact hS1.cell 5 rfl rfl | exact hS1.cell 6 rfl rfl)) ?_
 refine vc_q rfl rfl rfl (ev_load rfl ag_3 (by first | assumption | exact hS1.cell 0 rfl rfl | exact hS1.cell 2 rfl rfl | exact hS1.cell 3 rfl rfl | exact hS1.cell 4 rfl rfl | exact hS1.cell 5 rfl rfl | exact hS1.cell 6 rfl rfl)) ?_
 refine vc_s rfl rfl rfl rfl rfl rfl ?_
 have hC2 := hS1.split [1] [false, true, false, false, false, false, false, false, false] rfl; dsimp only [selF, pickA, nthA, List.cons_append, List.nil_append] at hC2
 refine wl_call cal_22 rfl (syncT hC2 (base + 1)) rfl ?_
 rintro e w2 ⟨_, rfl, rfl, hS2⟩; refine ⟨_, rfl, ?_⟩
 replace hS2 := hS2.join rfl; dsimp only [List.dropLast, List.cons_append, List.nil_append] at hS2; clear hC2
 clear hS1
 refine vc_e (.skip (by kernel_rfl) (.skip (by kernel_rfl) (.skip (by kernel_rfl) .nil))) ?_
 refine vc_p rfl rfl rfl (fun _ => (ev_assign rfl)) ?_
 refine VC.nil (qs_seq (wc_ret ?_))
 refine fin1 (.inr rfl) rfl rfl ?_
 exact ⟨_, rfl, rfl, hI, tJ_shut (x := (gSync base x).2) (hS2.pick [1, 0, 2, 3, 4, 5, 6, 7, 8] rfl)⟩
set_option maxRecDepth 100000 in
theorem stp45 {jp dp cp mb bj bl bs bg : Nat} {base : Int} {bad : Bool} {s : Bs} {lv : Value} {F : Th} (hb : 0 ≤ base ∧ base ≤ 13) (hG : Ent F WireG) (hO : Ent F (Glob 0)) {l : List Blk} (hL : Ent F (RdL jbC lv l)) (hr : ∀ x ∈ l, 0 ≤ x.n ∧ x.n < 2048 ∧ x.d.length ≤ 64) (hs : s.length ≤ 1000000000) : Stp Tryz.prog (tJ jp dp cp mb base bad) (cJ bj jp bl bs bg base s lv F) slotI ⟨45, [], [ptrV bj 0, ptrV bs 0]⟩ (gNote (s.length : Int)) := by
 refine ⟨cal_45, fun x w X hI hS => ?_⟩
 replace hS := tJ_open hS
 show Calls Tryz.prog 45 #[ptrV bj 0, ptrV bs 0] w _
 refine calls_enter Tryz.func45 rfl Tryz.ntmps45 rfl ?_
 refine wc_seq (wc_region (wl_assign rfl rfl (wl_nil (qs_seq (wc_seq (wc_region ?_))))))
 refine wl_load rfl ag_27 (by first | assumption | exact hS.cell 0 rfl rfl | exact hS.cell 2 rfl rfl | exact hS.cell 3 rfl rfl | exact hS.cell 4 rfl rfl | exact hS.cell 5 rfl rfl | exact hS.cell 6 rfl rfl) rfl ?_
 refine wl_load rfl ag_9 (by first | assumption | exact hS.cell 0 rfl rfl | exact hS.cell 2 rfl rfl | exact hS.cell 3 rfl rfl | exact hS.cell 4 rfl rfl | exact hS.cell 5 rfl rfl | exact hS.cell 6 rfl rfl) rfl ?_
 refine wl_lenS Tryz.underlying9 rfl rfl ?_
 have hC1 := hS.split [0, 1, 2] [true, true, true, false, false, false, false, false, false] rfl; dsimp only [selF, pickA, nthA, List.cons_append, List.nil_append] at hC1
 refine wl_call cal_46 rfl (note_sp hC1 (hG.starL 5 rfl) (hO.starL 5 rfl) hI.1 (s.length : Int) (by unfold inI; omega)) rfl ?_
 rintro e w1 ⟨_, rfl, rfl, hS1⟩; refine ⟨_, rfl, ?_⟩
 replace hS1 := hS1.join rfl; dsimp only [List.dropLast, List.cons_append, List.nil_append] at hS1; clear hC1
 refine wl_assign rfl rfl (wl_nil (qs_seq (wc_ret ?_)))
 refine fin1 (.inr rfl) rfl rfl ?_
 exact ⟨_, rfl, rfl, setR_cok hI, tJ_shut (x := (gNote (s.length : Int) x).2) (hS1.pick [0, 1, 2, 3, 4, 5, 6, 7, 8] rfl)⟩
set_option maxRecDepth 100000 in
theorem stp47 {jp dp cp mb bj bl bs bg : Nat} {base : Int} {bad : Bool} {s : Bs} {lv : Value} {F : Th} (hb : 0 ≤ base ∧ base ≤ 13) (hG : Ent F WireG) (hO : Ent F (Glob 0)) {l : List Blk} (hL : Ent F (RdL jbC lv l)) (hr : ∀ x ∈ l, 0 ≤ x.n ∧ x.n < 2048 ∧ x.d.length ≤ 64) (hs : s.length ≤ 1000000000) : Stp Tryz.prog (tJ jp dp cp mb base bad) (cJ bj jp bl bs bg base s lv F) slotI ⟨47, [], [ptrV bj 0, ptrV bl 0]⟩ (gHome base l) := by
 refine ⟨cal_47, fun x w X hI hS => ?_⟩
 replace hS := tJ_open hS
 show Calls Tryz.prog 47 #[ptrV bj 0, ptrV bl 0] w _
 refine calls_enter Tryz.func47 rfl Tryz.ntmps47 rfl ?_
 refine wc_seq (wc_region (wl_assign rfl rfl (wl_nil (qs_seq (wc_seq (wc_region ?_))))))
 refine wl_load rfl ag_27 (by first | assumption | exact hS.cell 0 rfl rfl | exact hS.cell 2 rfl rfl | exact hS.cell 3 rfl rfl | exact hS.cell 4 rfl rfl | exact hS.cell 5 rfl rfl | exact hS.cell 6 rfl rfl) rfl ?_
 refine wl_load rfl ag_32 (by first | assumption | exact hS.cell 0 rfl rfl | exact hS.cell 2 rfl rfl | exact hS.cell 3 rfl rfl | exact hS.cell 4 rfl rfl | exact hS.cell 5 rfl rfl | exact hS.cell 6 rfl rfl) rfl ?_
 have hC1 := hS.split [0, 1] [true, true, false, false, false, false, false, false, false] rfl; dsimp only [selF, pickA, nthA, List.cons_append, List.nil_append] at hC1
 refine wl_call cal_48 rfl (home_sp hC1 (hL.starL 6 rfl) hr) rfl ?_
 rintro e w1 ⟨_, rfl, rfl, hS1⟩; refine ⟨_, rfl, ?_⟩
 replace hS1 := hS1.join rfl; dsimp only [List.dropLast, List.cons_append, List.nil_append] at hS1; clear hC1
 refine wl_assign rfl rfl (wl_nil (qs_seq (wc_ret ?_)))
 refine fin1 (.inr rfl) rfl rfl ?_
 exact ⟨_, rfl, rfl, hI, tJ_shut (x := (gHome base l x).2) (hS1.pick [0, 1, 2, 3, 4, 5, 6, 7, 8] rfl)⟩
set_option maxRecDepth 100000 in
theorem stp49 {jp dp cp mb bj bl bs bg : Nat} {base : Int} {bad : Bool} {s : Bs} {lv : Value} {F : Th} (hb : 0 ≤ base ∧ base ≤ 13) (hG : Ent F WireG) (hO : Ent F (Glob 0)) {l : List Blk} (hL : Ent F (RdL jbC lv l)) (hr : ∀ x ∈ l, 0 ≤ x.n ∧ x.n < 2048 ∧ x.d.length ≤ 64) (hs : s.length ≤ 1000000000) : Stp Tryz.prog (tJ jp dp cp mb base bad) (cJ bj jp bl bs bg base s lv F) slotI ⟨49, [], [ptrV bj 0]⟩ (gNote 0) := by
 refine ⟨cal_49, fun x w X hI hS => ?_⟩
 replace hS := tJ_open hS
 show Calls Tryz.prog 49 #[ptrV bj 0] w _
 refine calls_enter Tryz.func49 rfl Tryz.ntmps49 rfl ?_
 refine wc_seq (wc_region (wl_assign rfl rfl (wl_nil (qs_seq (wc_seq (wc_region ?_))))))
 refine wl_load rfl ag_27 (by first | assumption | exact hS.cell 0 rfl rfl | exact hS.cell 2 rfl rfl | exact hS.cell 3 rfl rfl | exact hS.cell 4 rfl rfl | exact hS.cell 5 rfl rfl | exact hS.cell 6 rfl rfl) rfl ?_
 have hC1 := hS.split [0, 1, 2] [true, true, true, false, false, false, false, false, false] rfl; dsimp only [selF, pickA, nthA, List.cons_append, List.nil_append] at hC1
 refine wl_call cal_46 rfl (note_sp hC1 (hG.starL 5 rfl) (hO.starL 5 rfl) hI.1 0 in0) rfl ?_
 rintro e w1 ⟨_, rfl, rfl, hS1⟩; refine ⟨_, rfl, ?_⟩
 replace hS1 := hS1.join rfl; dsimp only [List.dropLast, List.cons_append, List.nil_append] at hS1; clear hC1
 refine wl_assign rfl rfl (wl_nil (qs_seq (wc_ret ?_)))
 refine fin1 (.inr rfl) rfl rfl ?_
 exact ⟨_, rfl, rfl, setR_cok hI, tJ_shut (x := (gNote 0 x).2) (hS1.pick [0, 1, 2, 3, 4, 5, 6, 7, 8] rfl)⟩
set_option maxRecDepth 100000 in
theorem stp80 {jp dp cp mb bj bl : Nat} {base : Int} {bad : Bool} {lv : Value} {F : Th} (hb : 0 ≤ base ∧ base ≤ 13) (hG : Ent F WireG) (hO : Ent F (Glob 0)) {l : List Blk} (hL : Ent F (RdL jbC lv l)) (hr : ∀ x ∈ l, 0 ≤ x.n ∧ x.n < 2048 ∧ x.d.length ≤ 64) : Stp Tryz.prog (tJ jp dp cp mb base bad) (cR bj jp bl lv F) slotI ⟨80, [], [ptrV bj 0, ptrV bl 0]⟩ (gHome base l) := by
 refine ⟨cal_80, fun x w X hI hS => ?_⟩
 replace hS := tR_open hS
 show Calls Tryz.prog 80 #[ptrV bj 0, ptrV bl 0] w _
 refine calls_enter Tryz.func80 rfl Tryz.ntmps80 rfl ?_
 refine wc_seq (wc_region (wl_assign rfl rfl (wl_nil (qs_seq (wc_seq (wc_region ?_))))))
 refine wl_load rfl ag_27 (by first | assumption | exact hS.cell 0 rfl rfl | exact hS.cell 2 rfl rfl | exact hS.cell 3 rfl rfl | exact hS.cell 4 rfl rfl) rfl ?_
 refine wl_load rfl ag_32 (by first | assumption | exact hS.cell 0 rfl rfl | exact hS.cell 2 rfl rfl | exact hS.cell 3 rfl rfl | exact hS.cell 4 rfl rfl) rfl ?_
 have hC1 := hS.split [0, 1] [true, true, false, false, false, false, false] rfl; dsimp only [selF, pickA, nthA, List.cons_append, List.nil_append] at hC1
 refine wl_call cal_48 rfl (home_sp hC1 (hL.starL 4 rfl) hr) rfl ?_
 rintro e w1 ⟨_, rfl, rfl, hS1⟩; refine ⟨_, rfl, ?_⟩
 replace hS1 := hS1.join rfl; dsimp only [List.dropLast, List.cons_append, List.nil_append] at hS1; clear hC1
 refine wl_assign rfl rfl (wl_nil (qs_seq (wc_ret ?_)))
 refine fin1 (.inr rfl) rfl rfl ?_
 exact ⟨_, rfl, rfl, hI, tR_shut (x := (gHome base l x).2) (hS1.pick [0, 1, 2, 3, 4, 5, 6] rfl)⟩
set_option maxRecDepth 100000 in
theorem stp81 {jp dp cp mb bj bl : Nat} {base : Int} {bad : Bool} {lv : Value} {F : Th} (hb : 0 ≤ base ∧ base ≤ 13) (hG : Ent F WireG) (hO : Ent F (Glob 0)) {l : List Blk} (hL : Ent F (RdL jbC lv l)) (hr : ∀ x ∈ l, 0 ≤ x.n ∧ x.n < 2048 ∧ x.d.length ≤ 64) : Stp Tryz.prog (tJ jp dp cp mb base bad) (cR bj jp bl lv F) slotI ⟨81, [], [ptrV bj 0]⟩ (gNote 0) := by
 refine ⟨cal_81, fun x w X hI hS => ?_⟩
 replace hS := tR_open hS
 show Calls Tryz.prog 81 #[ptrV bj 0] w _
 refine calls_enter Tryz.func81 rfl Tryz.ntmps81 rfl ?_
 refine wc_seq (wc_region (wl_assign rfl rfl (wl_nil (qs_seq (wc_seq (wc_region ?_))))))
 refine wl_load rfl ag_27 (by first | assumption | exact hS.cell 0 rfl rfl | exact hS.cell 2 rfl rfl | exact hS.cell 3 rfl rfl | exact hS.cell 4 rfl rfl) rfl ?_
 have hC1 := hS.split [0, 1, 2] [true, true, true, false, false, false, false] rfl; dsimp only [selF, pickA, nthA, List.cons_append, List.nil_append] at hC1
 refine wl_call cal_46 rfl (note_sp hC1 (hG.starL 3 rfl) (hO.starL 3 rfl) hI.1 0 in0) rfl ?_
 rintro e w1 ⟨_, rfl, rfl, hS1⟩; refine ⟨_, rfl, ?_⟩
 replace hS1 := hS1.join rfl; dsimp only [List.dropLast, List.cons_append, List.nil_append] at hS1; clear hC1
 refine wl_assign rfl rfl (wl_nil (qs_seq (wc_ret ?_)))
 refine fin1 (.inr rfl) rfl rfl ?_
 exact ⟨_, rfl, rfl, setR_cok hI, tR_shut (x := (gNote 0 x).2) (hS1.pick [0, 1, 2, 3, 4, 5, 6] rfl)⟩
theorem runW_cons {σ : Type} (g : σ → Int × σ) (gs : List (σ → Int × σ)) (x : σ) : runW (g :: gs) x = if (g x).1 ≠ 0 then g x else runW gs (g x).2 := rfl
theorem runW_one {σ : Type} (g : σ → Int × σ) (x : σ) : runW [g] x = g x := by
  rw [runW_cons]
  split
  · rfl
  · rename_i h
    have h := Decidable.not_not.1 h
    show (0, (g x).2) = g x
    rw [← h]
def toP (R : SR) : Int × (DS × CS) := (R.e, (R.D, R.C))
theorem run_put {D : DS} {C : CS} {f : Int} {l : List Blk} : runW [gTrunc f, gWrite f (encJ l), gSync f, gNote ((encJ l).length : Int), gHome f l, gNote 0] (D, C) = toP (putR0 D C f l) := by
  unfold putR0 midR endR
  simp only [apply_ite toP]
  rw [runW_cons, runW_cons, runW_cons, runW_cons, runW_cons, runW_one]
  rfl
theorem run_end {D : DS} {C : CS} {f : Int} {l : List Blk} : runW [gHome f l, gNote 0] (D, C) = toP (endR D C f l) := by
  unfold endR
  simp only [apply_ite toP]
  rw [runW_cons, runW_one]
  rfl
end Go.Proofs.YtfmkodmmbgibgaaGreatDoor
/- A range over a function, as things: the loop's record, a round, the statement. Conditions: each rule's own hypotheses. -/
namespace Go.Proofs.YtfmkodmmbgibgaaGreatDoor.M
open Go.RowKit
section
variable {P : Program} {n m l : Nat} {ops : Array Oper} {Q : Exit → Act → World → Prop} {L : Env} {w : World}
abbrev RF (l : Nat) : Fence := Fence.wide.inRound l
theorem callsIn_round {f : FuncId} {args : Array Value} {R : Ending → World → Prop} (h : Calls P f args w R) : CallsIn (RF l) m P f args w R := (callsIn_wide (n := m)).2 h
theorem rowsIn_round {row : String} {args : Array Value} {R : Value → World → Prop} (h : Rows P row args w R) : RowsIn (RF l) m P row args w R := fun c cs _ => by
  obtain ⟨v, w', r, s⟩ := h c cs
  exact ⟨v, w', r, stepsIn_wide.2 s⟩
theorem uponIn_of_upon {o : Oper} {a : Act} {next : Act → World → Prop} {r : Result Next} (h : o.upon P a next Q r) : o.uponIn (RF l) m P a next Q r := by
  unfold Oper.upon at h
  split at h
  · exact h
  · exact h
  · exact h
  · exact ⟨fun q => by simp [RF, Fence.wide, Fence.inRound] at q, callsIn_round h⟩
  · exact ⟨fun q => by simp [RF, Fence.wide, Fence.inRound] at q, rowsIn_round h⟩
  · exact h
  · exact h.elim
def noDefer (rest : List Oper) : Prop := ∀ o ∈ rest, ∀ c, o.op ≠ .defer c
theorem listIn_of (hQ : ¬ LetsOut Q) : ∀ (rest : List Oper) (a : Act) (w : World), noDefer rest → wpList P ops Q rest a w → wpListIn (RF l) m P ops Q rest a w
  | [], _, _, _, h => h
  | o :: rest, a, w, hd, h => by
    unfold wpList at h
    unfold wpListIn
    have hr : noDefer rest := fun q hq => hd q (List.mem_cons_of_mem _ hq)
    split
    · rename_i hw
      rw [if_pos hw] at h
      rcases h with h | h
      · refine ⟨fun _ _ => trivial, ?_⟩
        rw [Oper.semAt_eq _ _ _ (hd o (by simp))]
        have h2 := uponIn_of_upon (l := l) (m := m) h
        revert h2
        generalize (execOp a.eval o).run P w = r
        intro h2
        unfold Oper.uponIn at h2 ⊢
        split at h2
        · exact listIn_of hQ rest _ _ hr h2
        · exact listIn_of hQ rest _ _ hr h2
        · exact listIn_of hQ rest _ _ hr h2
        · refine ⟨h2.1, h2.2.mono fun e w' he => ?_⟩
          cases e with
          | returned v => exact listIn_of hQ rest _ _ hr he
          | panicked c => exact he
          | outgrown => exact he
        · exact ⟨h2.1, h2.2.mono fun v w' he => listIn_of hQ rest _ _ hr he⟩
        · refine ⟨h2.1, h2.2.mono fun e w' he => ?_⟩
          cases e with
          | returned v => exact listIn_of hQ rest _ _ hr he
          | panicked c => exact he
          | outgrown => exact he
        · exact h2
        · exact h2.elim
      · exact absurd h.2 hQ
    · rename_i hw
      rw [if_neg hw] at h
      exact ⟨fun _ _ => trivial, listIn_of hQ rest _ _ hr h⟩
/-- one round of the loop, out of the walks of its assignment and of its body -/
theorem yield_sp {t : Nat} {x : Value} {rec : Loop} {idA idB idR : Nat} {opsA opsR : Array Oper} {L0 : Env} {R : World → Prop}
    (hrec : w.heap[l]? = some (.loop rec)) (hst : rec.state = .ready) (hpd : rec.pending = none) (hps : rec.params = #[t]) (has : rec.assign = .region idA opsA false) (hbo : rec.body = .block idB (.region idR opsR false)) (htn : rec.tmps.size = n)
    (hfr : ∀ t v, eget L0 t = some v → rec.tmps[t]? = some v) (ht : Nat.blt t n = true) (hdA : noDefer opsA.toList) (hdR : noDefer opsR.toList)
    (h : ∀ QA : Exit → Act → World → Prop,
      (∀ L1 w1, w1.heap[l]? = some (.loop rec) → (∀ QB : Exit → Act → World → Prop, (∀ L2 w2, w2.heap[l]? = some (.loop { rec with state := .busy }) → R (w2.putObj l (.loop rec)) → qs n QB .normal L2 w2) → wl P n opsR QB opsR.toList L1 (w1.putObj l (.loop { rec with state := .busy }))) → qs n QA .normal L1 w1) →
      wl P n opsA QA opsA.toList ((t, x) :: L0) w) :
    YieldAt Fence.wide m P l #[x] w (fun e w' => e = .returned (.bool true) ∧ R w') := by
  refine ⟨rec.fn, rec.tmps.setIfInBounds t x, rec.assign, rec.body, ?_, roundIn_of_wpIn trivial ?_⟩
  · have := run_yield (P := P) (args := #[x]) hrec (by simp [hps])
    simpa [hps] using this
  · have hA := h (Exit.then (fun a₁ w₁ => ∃ w₂, (Instr.beginRound l).run P w₁ = .ok () w₂ ∧ rec.body.wpIn (RF l) m P (roundPost P l fun e w' => e = .returned (.bool true) ∧ R w') a₁ w₂) (fun _ _ _ => False)) ?_
    · unfold wl at hA
      have ha0 : Fr n L0 { tmps := rec.tmps, defers := [] } := ⟨htn, rfl, hfr⟩
      have h1 := hA _ (ha0.put (some t) x ht)
      rw [has]
      exact wpIn_region_list (listIn_of (by rintro ⟨a, w, q⟩; exact q) _ _ _ hdA h1)
    · intro L1 w1 hr1 hB
      unfold qs
      intro a ha
      refine ⟨_, run_beginRound hr1 hst, ?_⟩
      have key : ∀ c : Code, c = .block idB (.region idR opsR false) → c.wpIn (RF l) m P (roundPost P l fun e w' => e = .returned (.bool true) ∧ R w') a (w1.putObj l (.loop { rec with state := .busy })) := ?_
      · exact key _ hbo
      rintro _ rfl
      refine wpIn_block (wpIn_region_list ?_)
      have h2 := hB (Exit.inBlock idB (roundPost P l fun e w' => e = .returned (.bool true) ∧ R w')) ?_
      · unfold wl at h2
        exact listIn_of (by rintro ⟨a, w, q⟩; exact q) _ _ _ hdR (h2 a ha)
      · intro L2 w2 hr2 hR
        unfold qs
        intro a2 _
        refine ⟨_, _, run_endRound none hr2, rfl, ?_⟩
        have e : ({ { rec with state := .busy } with state := if (none : Option Code).isNone then .ready else .done, pending := none } : Loop) = rec := by
          cases rec; simp at hst hpd; subst hst hpd; rfl
        rw [e]; exact hR
/-- the statement -/
theorem wc_rangeFunc {g : Operand} {ps : Array Tmp} {assign body : Code} {gf : Nat} {caps : List Value} (hg : look L g = some (.func (.func gf) #[] caps.toArray)) (hc : callB P gf = true)
    (h : ∀ rec : Loop, rec.state = .ready → rec.pending = none → rec.params = ps → rec.assign = assign → rec.body = body → rec.tmps.size = n → (∀ t v, eget L t = some v → rec.tmps[t]? = some v) →
      Calls P gf (Value.func (.yield (w.heap.size + 1)) #[] #[] :: caps).toArray ((w.alloc (.deferred (some []))).alloc (.loop rec)) (fun e w3 => (∃ v, e = .returned v) ∧ ∃ rec' : Loop, w3.heap[w.heap.size + 1]? = some (.loop rec') ∧ rec'.state ≠ .busy ∧ rec'.pending = none ∧
        ∀ a : Act, a.tmps = rec.tmps → a.defers = [{ target := .collected w.heap.size, args := #[] }] → Q .normal a (w3.putObj (w.heap.size + 1) (.loop { rec' with state := .exhausted })))) :
    wc P n (.rangeFunc g ps assign body) Q L w := by
  unfold wc
  intro a ha
  refine (wpIn_wide (n := 0)).1 (wpIn_rangeFunc fun fn _ => ?_)
  obtain ⟨W1, hW1⟩ : ∃ W1, W1 = (w.alloc (.deferred (some []))).alloc (.loop { state := .ready, pending := none, fn, tmps := a.tmps, params := ps, assign, body, defers := w.heap.size }) := ⟨_, rfl⟩
  have e1 : (Instr.enterLoop fn a.tmps ps assign body none).run P w = .ok (w.heap.size + 1, [{ target := .collected w.heap.size, args := #[] }]) W1 := by rw [hW1]; exact run_enterLoop_outer fn a.tmps ps assign body
  have e2 : (resolve a.eval (rangeCall g (w.heap.size + 1)) 0).run P W1 = .ok { target := .fn (.func gf) caps.toArray, args := #[Value.func (.yield (w.heap.size + 1)) #[] #[]] } W1 := by
    simp only [resolve, rangeCall, ha.eval hg, Deferred.ofValue]
    simp [Act.eval]
  have e3 : (invoke (.fn (.func gf) caps.toArray) #[Value.func (.yield (w.heap.size + 1)) #[] #[]]).run P W1 = .ok (.enter gf (Value.func (.yield (w.heap.size + 1)) #[] #[] :: caps).toArray) W1 := by
    have := callB_run hc (Value.func (.yield (w.heap.size + 1)) #[] #[] :: caps).toArray W1
    simp only [invoke]
    simpa using this
  refine ⟨w.heap.size + 1, [{ target := .collected w.heap.size, args := #[] }], W1, { target := .fn (.func gf) caps.toArray, args := #[Value.func (.yield (w.heap.size + 1)) #[] #[]] }, W1, gf, (Value.func (.yield (w.heap.size + 1)) #[] #[] :: caps).toArray, W1, e1, e2, fun _ _ => trivial, e3, fun q => by simp [Fence.wide] at q, ?_⟩
  subst hW1
  · refine callsIn_wide.2 ((h { state := .ready, pending := none, fn, tmps := a.tmps, params := ps, assign, body, defers := w.heap.size } rfl rfl rfl rfl rfl ha.size ha.get).mono fun e w3 ⟨⟨v, he⟩, rec, h1, h2, h3, h4⟩ => ?_)
    subst he
    obtain ⟨st, pd, f1, t1, p1, a1, b1, d1⟩ := rec
    simp only at h3
    subst h3
    exact ⟨none, _, run_endLoop h1 h2, h4 { a with defers := [{ target := .collected w.heap.size, args := #[] }] ++ a.defers } rfl (by rw [ha.defers]; rfl)⟩
/-- a function that holds one -/
theorem calls_enterM {f : FuncId} {fn : Func} {c : Code} {args : List Value} {R : Ending → World → Prop} (hf : P.funcs[f]? = some fn) (hb : fn.body = some c) (hn : fn.ntmps = n) (hl : Nat.ble args.length n = true)
    (h : wc P n c (bodyPostM Fence.wide 0 P fn R) (argsE 0 args) w) : Calls P f args.toArray w R := by
  have hle : args.length ≤ n := Nat.le_of_ble_eq_true hl
  unfold wc at h
  refine callsIn_wide.1 (callsIn_of_wp_marks (F := Fence.wide) (n := 0) hf hb trivial ((wpIn_wide (n := 0)).2 (h _ ⟨by simp [hn]; omega, rfl, fun t v ht => ?_⟩)))
  obtain ⟨_, h2⟩ := argsE_get args 0 t v ht
  simp only [Nat.sub_zero] at h2
  have hlt := (List.getElem?_eq_some_iff.1 h2).1
  rw [Array.getElem?_append_left (by simpa using hlt)]
  simpa using h2
/-! ### an iterator's own walk: a region that calls yield -/
@[irreducible] def wlI (P : Program) (n : Nat) (ops : Array Oper) (Q : Exit → Act → World → Prop) (rest : List Oper) (L : Env) (w : World) : Prop := ∀ a, Fr n L a → wpListIn Fence.wide 0 P ops Q rest a w
theorem wc_regionI {id : Nat} (h : wlI P n ops Q ops.toList L w) : wc P n (.region id ops false) Q L w := by
  unfold wlI at h; unfold wc
  intro a ha
  exact (wpIn_wide (n := 0)).1 (wpIn_region_list (h a ha))
theorem wlI_nil (h : qs n Q .normal L w) : wlI P n ops Q [] L w := by
  unfold wlI; unfold qs at h
  exact h
theorem wlI_val {rest : List Oper} {d : Nat} {op : Op} {v : Value} {ty : TypeId} {pos : String} {aft : Array Edge} (hd : Nat.blt d n = true) (h : Ev P L w ⟨some d, op, ty, pos, aft, none⟩ v) (hk : wlI P n ops Q rest ((d, v) :: L) w) : wlI P n ops Q (⟨some d, op, ty, pos, aft, none⟩ :: rest) L w := by
  unfold wlI at *
  intro a ha
  unfold wpListIn
  rw [if_pos (by simp [Region.wanted])]
  refine ⟨fun _ _ => trivial, ?_⟩
  have h1 := h a.eval (fun x u hx => ha.eval hx)
  show Oper.uponIn _ _ _ _ _ _ _ ((Oper.semAt none a.eval _).run P w)
  rw [Oper.semAt_none, h1]
  exact hk _ (ha.put (some d) v hd)
theorem wlI_yield {rest : List Oper} {d : Nat} {x y : Operand} {u v : Value} {ts : Array TypeId} {ty : TypeId} {pos : String} {aft : Array Edge} {R : World → Prop} (hx : look L x = some (.func (.yield l) #[] #[])) (hy : look L y = some v) (hd : Nat.blt d n = true)
    (hY : YieldAt Fence.wide 0 P l #[v] w (fun e w' => e = .returned u ∧ R w')) (hk : ∀ w', R w' → wlI P n ops Q rest ((d, u) :: L) w') : wlI P n ops Q (⟨some d, .call ⟨.value x, #[y], ts⟩, ty, pos, aft, none⟩ :: rest) L w := by
  obtain ⟨fn, tmps, assign, body, h1, h2⟩ := hY
  unfold wlI at *
  intro a ha
  unfold wpListIn
  rw [if_pos (by simp [Region.wanted])]
  refine ⟨fun _ _ => trivial, ?_⟩
  have h3 : (execOp a.eval ⟨some d, .call ⟨.value x, #[y], ts⟩, ty, pos, aft, none⟩).run P w = .ok (.round l fn tmps assign body) w := by
    simp only [execOp, resolve, ha.eval hx, Deferred.ofValue, invoke]
    simp [ha.eval hy, h1]
  show Oper.uponIn _ _ _ _ _ _ _ ((Oper.semAt none a.eval _).run P w)
  rw [Oper.semAt_none, h3]
  refine ⟨fun q => by simp [Fence.wide] at q, h2.mono fun e w' ⟨he, hR⟩ => ?_⟩
  subst he
  exact hk w' hR _ (ha.put (some d) u hd)
/-! ### the record and its block as things -/
def loopT (l : Nat) (rec : Loop) : Th where
  at_ := fun w F => (F = fun k => k = l) ∧ w.heap[l]? = some (.loop rec)
  fr := fun a ⟨e, h⟩ => ⟨e, by rw [a.blk _ (by rw [e])]; exact h⟩
  lt := fun {w F} ⟨e, h⟩ k hk => by
    rw [e] at hk; subst hk
    rcases Nat.lt_or_ge k w.heap.size with g | g
    · exact g
    · rw [Array.getElem?_eq_none g] at h; cases h
def deferT (b : Nat) : Th where
  at_ := fun w F => (F = fun k => k = b) ∧ w.heap[b]? = some (.deferred (some []))
  fr := fun a ⟨e, h⟩ => ⟨e, by rw [a.blk _ (by rw [e])]; exact h⟩
  lt := fun {w F} ⟨e, h⟩ k hk => by
    rw [e] at hk; subst hk
    rcases Nat.lt_or_ge k w.heap.size with g | g
    · exact g
    · rw [Array.getElem?_eq_none g] at h; cases h
variable {As : List Th}
theorem Sat.loop (h : Sat w As) (i : Nat) {rec : Loop} (hi : As[i]? = some (loopT l rec)) : w.heap[l]? = some (.loop rec) := by
  obtain ⟨F, _, h⟩ := h.get i hi; exact h
theorem Sat.loop_put (h : Sat w As) (i : Nat) {rec rec' : Loop} (hi : As[i]? = some (loopT l rec)) : Sat (w.putObj l (.loop rec')) (As.set i (loopT l rec')) := by
  have hl := h.loop i hi
  have hlt : l < w.heap.size := by
    rcases Nat.lt_or_ge l w.heap.size with g | g
    · exact g
    · rw [Array.getElem?_eq_none g] at hl; cases hl
  refine h.step i hi fun F ⟨e, _⟩ => ⟨F, ⟨e, World.putObj_heap_same hlt⟩, fun k hk => .inl hk, rfl, rfl, rfl, fun k hk => World.putObj_heap_other fun q => hk.2 (by rw [e]; exact q)⟩
theorem Sat.enter_loop (h : Sat w As) (rec : Loop) : Sat ((w.alloc (.deferred (some []))).alloc (.loop rec)) (loopT (w.heap.size + 1) rec :: deferT w.heap.size :: As) := by
  have h1 : Sat (w.alloc (.deferred (some []))) (deferT w.heap.size :: As) := h.new ((Only.refl _ _).alloc _) (A := deferT w.heap.size) (F' := fun k => k = w.heap.size) ⟨rfl, heap_alloc_new w _⟩ (fun k hk => by rw [hk]; exact Nat.le_refl _)
  have h2 := h1.new (w' := (w.alloc (.deferred (some []))).alloc (.loop rec)) ((Only.refl _ _).alloc _) (A := loopT (w.heap.size + 1) rec) (F' := fun k => k = w.heap.size + 1) ⟨rfl, by have := heap_alloc_new (w.alloc (.deferred (some []))) (.loop rec); simpa using this⟩ (fun k hk => by rw [hk]; simp)
  exact h2
/-- whatever the rounds keep: a round by each key -/
def YieldsT {κ : Type} (P : Program) (l : Nat) (kv : κ → Value) (ok : List κ → κ → Prop) (J : List κ → Th) : Prop :=
  ∀ (ks : List κ) (k : κ) (R : Th) (w : World), ok ks k → Sat w [J ks, R] → YieldAt Fence.wide 0 P l #[kv k] w (fun e w' => e = .returned (.bool true) ∧ Sat w' [J (ks ++ [k]), R])
structure Came {κ : Type} (g : κ → Option Value) (ks : List κ) : Prop where
  nodup : ks.Nodup
  has : ∀ k ∈ ks, g k ≠ none
def okC {κ : Type} (g : κ → Option Value) (ks : List κ) (k : κ) : Prop := Came g (ks ++ [k])
structure CSt {κ : Type} (g : κ → Option Value) (dn : κ → Prop) (ks : List κ) : Prop where
  came : Came g ks
  mem : ∀ k, k ∈ ks ↔ dn k
theorem CSt.start {κ : Type} (g : κ → Option Value) : CSt g (fun _ => False) [] := ⟨⟨List.nodup_nil, by simp⟩, by simp⟩
theorem CSt.ok {κ : Type} {g : κ → Option Value} {dn : κ → Prop} {ks : List κ} {k : κ} {v : Value} (h : CSt g dn ks) (hn : ¬ dn k) (hg : g k = some v) : okC g ks k := by
  refine ⟨List.nodup_append.2 ⟨h.came.nodup, by simp, ?_⟩, fun j hj => ?_⟩
  · rintro a ha b hb rfl
    simp at hb; subst hb
    exact hn ((h.mem _).1 ha)
  · rcases List.mem_append.1 hj with hj | hj
    · exact h.came.has j hj
    · simp at hj; subst hj; rw [hg]; simp
theorem CSt.step {κ : Type} {g : κ → Option Value} {dn : κ → Prop} {ks : List κ} {k : κ} {v : Value} (h : CSt g dn ks) (hn : ¬ dn k) (hg : g k = some v) : CSt g (fun j => dn j ∨ j = k) (ks ++ [k]) :=
  ⟨h.ok hn hg, fun j => by rw [List.mem_append, h.mem j]; simp⟩
/-- all keys have come, each once -/
structure AllC {κ : Type} (g : κ → Option Value) (ks : List κ) : Prop where
  nodup : ks.Nodup
  mem : ∀ k, k ∈ ks ↔ g k ≠ none
theorem CSt.all {κ : Type} {g : κ → Option Value} {dn : κ → Prop} {ks : List κ} (h : CSt g dn ks) (hd : ∀ k v, g k = some v → dn k) : AllC g ks :=
  ⟨h.came.nodup, fun k => ⟨h.came.has k, fun hk => by
    cases hq : g k with
    | none => exact absurd hq hk
    | some v => exact (h.mem k).2 (hd k v hq)⟩⟩
/-- the end of a function that holds a range over a function: it reads a variable and returns it; the mark is come to -/
theorem tail_ret {fn : Func} {R : Ending → World → Prop} {a : Act} {id d1 d2 t b D : Nat} {x : Operand} {v : Value} {ty1 ty2 : TypeId} {p1 p2 : String} {f1 f2 : Array Edge} (hsz : a.tmps.size = n) (hget : ∀ t v, eget L t = some v → a.tmps[t]? = some v) (hdef : a.defers = [{ target := .collected D, args := #[] }])
    (hx : look L x = some (ptrV b 0)) (ha : aggB P t = some false) (hc : w.cell? ⟨b, 0, none⟩ = some v) (hD : w.heap[D]? = some (.deferred (some []))) (h1 : Nat.blt d1 n = true) (h2 : Nat.blt d2 n = true) (hres : fn.results = #[.tmp d2])
    (hR : R (.returned v) (w.putObj D (.deferred none))) :
    (Code.seq (.region id #[⟨some d1, .load t x, ty1, p1, f1, none⟩, ⟨some d2, .assign (.tmp d1), ty2, p2, f2, none⟩] false) .ret).wp P (bodyPostM Fence.wide 0 P fn R) a w := by
  have ha0 : Fr n L { tmps := a.tmps, defers := [] } := ⟨hsz, rfl, hget⟩
  have hev : ∀ y, a.eval y = ({ tmps := a.tmps, defers := [] } : Act).eval y := fun y => by cases y <;> rfl
  refine Go.wp_seq (Go.wp_region_lit ?_)
  refine wpList_does (R := fun u w' => u = v ∧ w' = w) rfl ⟨v, w, .inl (ev_load (d := d1) (ty := ty1) (pos := p1) (aft := f1) hx ha hc a.eval fun y u hy => by rw [hev]; exact ha0.eval hy), rfl, rfl⟩ ?_
  rintro v1 w1 ⟨q1, q2⟩
  rw [q1, q2]
  have hd1 : d1 < a.tmps.size := by rw [hsz]; simpa using h1
  have e1 : (a.put (some d1) v).eval (.tmp d1) = v := by simp [Act.put, Act.eval, hd1]
  refine wpList_does (R := fun u w' => u = v ∧ w' = w) rfl ⟨v, w, .inl ?_, rfl, rfl⟩ ?_
  · simp [execOp, e1]
  rintro v2 w2 ⟨q3, q4⟩
  rw [q3, q4]
  show Code.wp P .ret _ _ w
  refine Go.wp_ret ?_
  show LeavesInM Fence.wide 0 P fn _ R _ .returning w
  have hdf : ((a.put (some d1) v).put (some d2) v).defers = [{ target := .collected D, args := #[] }] := by simp [Act.put, hdef]
  rw [hdf]
  refine ⟨by simp, .inl ⟨D, _, rfl, run_takeDeferred hD, ?_⟩⟩
  refine ⟨v, ?_, hR⟩
  have hd2 : d2 < a.tmps.size := by rw [hsz]; simpa using h2
  simp [results, hres, Act.put, hd2]
theorem Sat.defer_put {As : List Th} (h : Sat w As) (i : Nat) {D : Nat} {o : Obj} (hi : As[i]? = some (deferT D)) : w.heap[D]? = some (.deferred (some [])) ∧ Sat (w.putObj D o) (As.eraseIdx i) := by
  have hp := h.pull i hi
  obtain ⟨F, F1, F2, rfl, dj, ⟨e1, h1⟩, h2⟩ := hp
  have hag : Agree F2 w (w.putObj D o) := ⟨rfl, rfl, rfl, fun k hk => World.putObj_heap_other fun q => dj k (by rw [e1]; exact q) hk⟩
  exact ⟨h1, F2, (starL (As.eraseIdx i)).fr hag h2⟩
end
end Go.Proofs.YtfmkodmmbgibgaaGreatDoor.M
