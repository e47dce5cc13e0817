/- journal: note, home, write, the closures -/
import Derived.Test.YtfmkodmmbgibgaaGreatDoorBld
namespace Go.Proofs.YtfmkodmmbgibgaaGreatDoor
open Go.RowKit M
set_option linter.unusedVariables false
def jV (dp : Nat) (base : Int) (cp mb : Nat) (bad : Bool) : List Value := [ptrV dp 0, intV base, ptrV cp 0, .map (some mb), .bool bad]
section
variable {D : DS} {f : Int} {b : Blk} {l : List Blk}
theorem homeR_a (h : WriteE D f (128 * b.n) [UInt8.ofNat b.d.length] ≠ 0) : homeR D f (b :: l) = (WriteE D f (128 * b.n) [UInt8.ofNat b.d.length], WriteD D f (128 * b.n) [UInt8.ofNat b.d.length]) := by simp only [homeR]; rw [if_pos h]
theorem homeR_b (h : WriteE D f (128 * b.n) [UInt8.ofNat b.d.length] = 0) (h2 : b.d = []) : homeR D f (b :: l) = homeR (WriteD D f (128 * b.n) [UInt8.ofNat b.d.length]) f l := by simp only [homeR]; rw [if_neg (by omega), if_pos h2]
theorem homeR_c (h : WriteE D f (128 * b.n) [UInt8.ofNat b.d.length] = 0) (h2 : b.d ≠ []) (h3 : WriteE (WriteD D f (128 * b.n) [UInt8.ofNat b.d.length]) f (128 * b.n + 64) b.d ≠ 0) : homeR D f (b :: l) = (WriteE (WriteD D f (128 * b.n) [UInt8.ofNat b.d.length]) f (128 * b.n + 64) b.d, WriteD (WriteD D f (128 * b.n) [UInt8.ofNat b.d.length]) f (128 * b.n + 64) b.d) := by simp only [homeR]; rw [if_neg (by omega), if_neg h2, if_pos h3]
theorem homeR_d (h : WriteE D f (128 * b.n) [UInt8.ofNat b.d.length] = 0) (h2 : b.d ≠ []) (h3 : WriteE (WriteD D f (128 * b.n) [UInt8.ofNat b.d.length]) f (128 * b.n + 64) b.d = 0) : homeR D f (b :: l) = homeR (WriteD (WriteD D f (128 * b.n) [UInt8.ofNat b.d.length]) f (128 * b.n + 64) b.d) f l := by simp only [homeR]; rw [if_neg (by omega), if_neg h2, if_neg (by omega)]
end
theorem dropB {l : List Blk} {i : Nat} {x : Blk} (hx : l[i]? = some x) : l.drop i = x :: l.drop (i + 1) := by
  obtain ⟨hi, rfl⟩ := List.getElem?_eq_some_iff.1 hx
  exact List.drop_eq_getElem_cons hi
def CokJ (C : CS) : Prop := C.slot ≤ 2 ∧ C.val.length ≤ 20000000
theorem setR2_cok {D : DS} {C : CS} {s : Bytes} (h : CokJ C) (hs : s.length ≤ 65536) : CokJ (setR2 D C s).C := by
  simp only [setR2]
  split
  · exact h
  · split
    · exact h
    · split
      · exact h
      · refine ⟨?_, ?_⟩
        · show other C ≤ 2
          unfold other; split <;> omega
        · show s.length ≤ _
          omega
theorem setR_cok {D : DS} {C : CS} {s : Bytes} (h : CokJ C) : CokJ (setR D C s).C := by
  unfold setR
  split
  · exact h
  · split
    · split
      · exact h
      · exact setR2_cok (C := { C with sure := true }) h (by omega)
    · exact setR2_cok h (by omega)
set_option maxRecDepth 100000 in
theorem note_sp {w : World} {jp dp cp mb : Nat} {base : Int} {bad : Bool} {D : DS} {C : CS} {F : Th} (hS : Sat w [blkT jp (jV dp base cp mb bad), dT dp D, blkT cp (cellV dp C), F]) (hG : Ent F WireG) (hO : Ent F (Glob 0)) (hsl : C.slot ≤ 2) (n : Int) (hn : inI n) :
    Calls Tryz.prog 46 #[ptrV jp 0, intV n] w (Ret fun v w' => v = intV (noteR D C n).e ∧ Sat w' [blkT jp (jV dp base cp mb bad), dT dp (noteR D C n).D, blkT cp (cellV dp (noteR D C n).C), F]) := by
  refine calls_enter Tryz.func46 rfl Tryz.ntmps46 rfl ?_
  refine wc_seq ?_
  refine wc_region ?_
  refine wl_assign rfl rfl ?_
  refine wl_nil ?_
  refine qs_seq ?_
  refine wc_seq ?_
  have hS1 := hS.drew
  refine wc_draw [0, 1, 2, 3, 4, 5, 6, 7] [5, 6] mix (by kernel_rfl) ?_
  refine vc_p rfl rfl rfl (fun _ => (ev_move rfl)) ?_
  refine vc_p rfl rfl rfl (fun _ => (ev_nilCheck rfl)) ?_
  refine vc_p rfl rfl rfl (fun _ => (ev_fieldAddr rfl fo_73_2)) ?_
  refine vc_q rfl rfl rfl (ev_load rfl ag_68 (by first | assumption | exact hS1.cell 0 rfl rfl | exact hS1.cell 2 rfl rfl)) ?_
  refine vc_p rfl rfl rfl (fun _ => (ev_move rfl)) ?_
  refine vc_s rfl rfl rfl rfl rfl rfl ?_
  have hC2 := hS1.split [] [false, false, false, false] rfl; dsimp only [selF, pickA, nthA, List.cons_append, List.nil_append] at hC2
  refine wl_call cal_78 rfl (wInt_sp hC2 (hG.starL 3 rfl) n hn) rfl ?_
  rintro e w2 ⟨_, rfl, rfl, hS2⟩; refine ⟨_, rfl, ?_⟩
  replace hS2 := hS2.join rfl; dsimp only [List.dropLast, List.cons_append, List.nil_append] at hS2; clear hC2
  clear hS1
  refine vc_e (.cons (.inl ⟨rfl, (ev_load rfl ag_68 (by first | assumption | exact hS2.cell 0 rfl rfl | exact hS2.cell 2 rfl rfl))⟩) .nil) ?_
  refine vc_s rfl rfl rfl rfl rfl rfl ?_
  have hC3 := hS2.split [2, 1] [false, true, true, false] rfl; dsimp only [selF, pickA, nthA, List.cons_append, List.nil_append] at hC3
  refine wl_call cal_88 rfl (set_sp hC3 (hO.starL 1 rfl) hsl (encN n)) rfl ?_
  rintro e w3 ⟨_, rfl, rfl, hS3⟩; refine ⟨_, rfl, ?_⟩
  replace hS3 := hS3.join rfl; dsimp only [List.dropLast, List.cons_append, List.nil_append] at hS3; clear hC3
  clear hS2
  refine vc_e (.skip (by kernel_rfl) .nil) ?_
  refine vc_p rfl rfl rfl (fun _ => (ev_assign rfl)) ?_
  refine VC.nil ?_
  refine qs_seq ?_
  refine wc_ret ?_
  refine fin1 (.inr rfl) rfl rfl ?_
  exact ⟨_, rfl, rfl, hS3.pick [2, 1, 0, 3] rfl⟩
set_option maxRecDepth 100000 in
theorem home_sp {w : World} {jp dp cp mb : Nat} {base : Int} {bad : Bool} {D : DS} {F : Th} (hS : Sat w [blkT jp (jV dp base cp mb bad), dT dp D, F]) {lv : Value} {l : List Blk} (hL : Ent F (RdL jbC lv l)) (hr : ∀ x ∈ l, 0 ≤ x.n ∧ x.n < 2048 ∧ x.d.length ≤ 64) :
    Calls Tryz.prog 48 #[ptrV jp 0, lv] w (Ret fun v w' => v = intV (homeR D base l).1 ∧ Sat w' [blkT jp (jV dp base cp mb bad), dT dp (homeR D base l).2, F]) := by
  obtain ⟨ao, cap, rfl, hmax⟩ := (hL.sat hS 2 rfl).shape
  refine calls_enter Tryz.func48 rfl Tryz.ntmps48 rfl ?_
  refine wc_seq ?_
  refine wc_region ?_
  refine wl_assign rfl rfl ?_
  refine wl_nil ?_
  refine qs_seq ?_
  refine wc_seq ?_
  refine wc_seq ?_
  refine wc_region ?_
  refine wl_move rfl rfl ?_
  refine wl_lenL Tryz.underlying32 rfl rfl ?_
  refine wl_move rfl rfl ?_
  refine wl_nil ?_
  refine qs_seq ?_
  refine wc_block ?_
  refine wc_loop (fun K0 E0 W0 => ∃ (i : Nat) (D1 : DS), K0 = l.length - i ∧ E0 = [(0, ptrV jp 0), (9, .slice ao l.length cap), (10, intV (l.length : Int)), (11, intV (i : Int))] ∧ Sat W0 [blkT jp (jV dp base cp mb bad), dT dp D1, F] ∧ (i ≤ l.length) ∧ (homeR D base l = homeR D1 base (l.drop i))) (L0 := [(0, _), (9, _), (10, _), (11, _)]) (l.length - 0) (.cons rfl (.cons rfl (.cons rfl (.cons rfl .nil)))) ⟨0, D, rfl, rfl, hS, by omega, rfl⟩ ?_
  rintro _ _ w1 ⟨i, D1, rfl, rfl, hS1, hi, hH⟩
  refine wc_seq ?_
  refine wc_region ?_
  refine wl_lss rfl rfl rfl ?_
  refine wl_nil ?_
  refine qs_seq ?_
  refine wc_seq ?_
  refine wc_condD rfl (fun h2 => ?_) (fun h2 => ?_)
  · skip
    obtain ⟨x, hx⟩ : ∃ x, l[i]? = some x := ⟨_, List.getElem?_eq_getElem (by omega)⟩
    obtain ⟨b, off, rfl, hc⟩ := (hL.sat hS1 2 rfl).get hx
    obtain ⟨hx0, hx1, hx2⟩ := hr x (List.mem_of_getElem? hx)
    refine wc_skip ?_
    refine qs_seq ?_
    refine wc_seq ?_
    refine wc_block ?_
    refine wc_seq ?_
    refine wc_region ?_
    refine wl_indexAddr i rfl rfl (by first | rfl | omega) (by omega) es_32 rfl ?_
    refine wl_loadAt rfl ag_34 sz_34 (vs := bV x) hc rfl ?_
    refine wl_alloc hS1 zr_34 rfl rfl ?_
    intro b3 w3 hS3
    clear hS1
    first | (refine wl_storeA hS3 rfl rfl sz_34 rfl (by first | rfl | (simp [allOne, Value.oneCell']; done) | assumption | exact hone) (i := 0) rfl (by first | decide | exact Nat.le_of_ble_eq_true rfl | (simp; done) | omega) ?_) | (refine wl_storeA hS3 rfl rfl sz_34 rfl (by first | rfl | (simp [allOne, Value.oneCell']; done) | assumption | exact hone) (i := 1) rfl (by first | decide | exact Nat.le_of_ble_eq_true rfl | (simp; done) | omega) ?_)
    intro w4 hS5; dsimp only [List.set] at hS5
    clear hS3
    refine wl_nil ?_
    refine qs_seq ?_
    refine wc_seq ?_
    refine wc_seq ?_
    have hS6 := hS5.drew
    refine wc_draw [0, 1, 2, 3, 4, 5, 6, 7, 8, 9, 10, 11, 12, 13, 14, 15, 16, 17, 18] [15, 17] mix (by kernel_rfl) ?_
    refine vc_p rfl rfl rfl (fun _ => (ev_move rfl)) ?_
    refine vc_p rfl rfl rfl (fun _ => (ev_nilCheck rfl)) ?_
    refine vc_p rfl rfl rfl (fun _ => (ev_fieldAddr rfl fo_73_0)) ?_
    refine vc_q rfl rfl rfl (ev_load rfl ag_25 (by first | assumption | exact hS6.cell 0 rfl rfl | exact hS6.cell 1 rfl rfl)) ?_
    refine vc_p rfl rfl rfl (fun _ => (ev_move rfl)) ?_
    refine vc_p rfl rfl rfl (fun _ => (ev_nilCheck rfl)) ?_
    refine vc_p rfl rfl rfl (fun _ => (ev_fieldAddr rfl fo_73_1)) ?_
    refine vc_q rfl rfl rfl (ev_load rfl ag_3 (by first | assumption | exact hS6.cell 0 rfl rfl | exact hS6.cell 1 rfl rfl)) ?_
    refine vc_p rfl rfl rfl (fun _ => (ev_fieldAddr rfl fo_34_0)) ?_
    refine vc_q rfl rfl rfl (ev_load rfl ag_3 (by first | assumption | exact hS6.cell 0 rfl rfl | exact hS6.cell 1 rfl rfl)) ?_
    refine vc_p rfl rfl rfl (fun _ => (ev_mul rfl rfl (by omega) (by omega))) ?_
    refine vc_p rfl rfl rfl (fun _ => (ev_fieldAddr rfl fo_34_1)) ?_
    refine vc_q rfl rfl rfl (ev_load rfl ag_9 (by first | assumption | exact hS6.cell 0 rfl rfl | exact hS6.cell 1 rfl rfl)) ?_
    refine vc_p rfl rfl rfl (fun _ => (ev_lenS Tryz.underlying9 rfl)) ?_
    refine vc_p rfl rfl rfl (fun _ => (ev_convToU8 x.d.length Tryz.underlying3 Tryz.underlying5 rfl (by first | rfl | omega))) ?_
    refine vc_s rfl rfl rfl rfl rfl rfl ?_
    refine wl_rowBuild byC [UInt8.ofNat x.d.length] hS6 rfl Tryz.underlying118 ifz_5 rfl rfl rfl rfl (by first | rfl | simp [RowC.cells, fillL, splice]) rfl ?_
    intro b7 w7 hS7
    clear hS6
    refine vc_e (.skip (by kernel_rfl) (.cons (.inl ⟨rfl, (ev_load rfl ag_3 (by first | assumption | exact hS7.cell 1 rfl rfl | exact hS7.cell 2 rfl rfl))⟩) (.cons (.inl ⟨rfl, (ev_load rfl ag_3 (by first | assumption | exact hS7.cell 1 rfl rfl | exact hS7.cell 2 rfl rfl))⟩) (.cons (.inl ⟨rfl, (ev_load rfl ag_25 (by first | assumption | exact hS7.cell 1 rfl rfl | exact hS7.cell 2 rfl rfl))⟩) .nil)))) ?_
    refine vc_q rfl rfl rfl (ev_rowStr 0 hS7 rfl rfl Tryz.underlying118 Tryz.underlying5 Tryz.underlying9) ?_
    refine vc_s rfl rfl rfl rfl rfl rfl ?_
    have hC8 := hS7.split [3] [false, false, false, true, false] rfl; dsimp only [selF, pickA, nthA, List.cons_append, List.nil_append] at hC8
    refine wl_call cal_20 rfl (writeT hC8 base (128 * x.n) [UInt8.ofNat x.d.length]) rfl ?_
    rintro e w8 ⟨_, rfl, rfl, hS8⟩; refine ⟨_, rfl, ?_⟩
    replace hS8 := hS8.join rfl; dsimp only [List.dropLast, List.cons_append, List.nil_append] at hS8; clear hC8
    clear hS7
    refine vc_e (.skip (by kernel_rfl) (.skip (by kernel_rfl) (.skip (by kernel_rfl) (.skip (by kernel_rfl) (.skip (by kernel_rfl) .nil))))) ?_
    refine vc_p rfl rfl rfl (fun _ => (ev_assign rfl)) ?_
    refine VC.nil ?_
    refine qs_seq ?_
    refine wc_sub (L' := [(7, _), (6, _), (0, _), (9, _), (10, _), (11, _)]) (.cons rfl (.cons rfl (.cons rfl (.cons rfl (.cons rfl (.cons rfl .nil)))))) ?_
    refine wc_seq ?_
    refine wc_region ?_
    refine wl_move rfl rfl ?_
    refine wl_neq rfl rfl rfl ?_
    refine wl_nil ?_
    refine qs_seq ?_
    refine wc_condD rfl (fun h9 => ?_) (fun h9 => ?_)
    · skip
      have h1 := h9
      refine wc_seq ?_
      refine wc_region ?_
      refine wl_move rfl rfl ?_
      refine wl_assign rfl rfl ?_
      refine wl_nil ?_
      refine qs_seq ?_
      refine wc_ret ?_
      refine qs_then_ret ?_
      refine qs_block_ret ?_
      refine qs_then_ret ?_
      refine qs_then_ret ?_
      refine qs_block_ret ?_
      refine qs_then_ret ?_
      refine fin1 (.inr rfl) rfl rfl ?_
      exact ⟨_, rfl, by rw [hH, dropB hx, homeR_a h1], by rw [hH, dropB hx, homeR_a h1]; exact hS8.pick [3, 0, 4] rfl⟩
    have h1 := Decidable.not_not.1 h9
    refine wc_skip ?_
    refine qs_seq ?_
    refine wc_seq ?_
    refine wc_seq ?_
    refine wc_region ?_
    refine wl_fieldAddr rfl fo_34_1 rfl ?_
    refine wl_load rfl ag_9 (by first | assumption | exact hS8.cell 2 rfl rfl | exact hS8.cell 3 rfl rfl) rfl ?_
    refine wl_eqlS rfl rfl rfl ?_
    refine wl_nil ?_
    refine qs_seq ?_
    refine wc_sub (L' := [(38, _), (6, _), (0, _), (9, _), (10, _), (11, _)]) (.cons rfl (.cons rfl (.cons rfl (.cons rfl (.cons rfl (.cons rfl .nil)))))) ?_
    refine wc_condD rfl (fun h10 => ?_) (fun h10 => ?_)
    · skip
      have h2 := h10
      refine wc_exit ?_
      refine qs_then_exit ?_
      refine qs_block_exit ?_
      refine qs_seq ?_
      refine wc_region ?_
      refine wl_add rfl rfl (by omega) (by omega) rfl ?_
      refine wl_move rfl rfl ?_
      refine wl_nil ?_
      exact qs_round (L1 := [(0, _), (9, _), (10, _), (11, intV ((i + 1 : Nat) : Int))]) (.cons rfl (.cons rfl (.cons rfl (.cons rfl .nil)))) (k1 := l.length - (i + 1)) (by omega) ⟨i + 1, _, rfl, rfl, hS8.pick [3, 0, 4] rfl, by omega, by rw [hH, dropB hx, homeR_b h1 h2]⟩
    have h2 := h10
    refine wc_skip ?_
    refine qs_seq ?_
    refine wc_seq ?_
    have hS11 := hS8.drew
    refine wc_draw [0, 1, 2, 3, 4, 5, 6, 7, 8, 9, 10, 11, 12, 13, 14, 15] [14] mix (by kernel_rfl) ?_
    refine vc_p rfl rfl rfl (fun _ => (ev_move rfl)) ?_
    refine vc_p rfl rfl rfl (fun _ => (ev_nilCheck rfl)) ?_
    refine vc_p rfl rfl rfl (fun _ => (ev_fieldAddr rfl fo_73_0)) ?_
    refine vc_q rfl rfl rfl (ev_load rfl ag_25 (by first | assumption | exact hS11.cell 2 rfl rfl | exact hS11.cell 3 rfl rfl)) ?_
    refine vc_p rfl rfl rfl (fun _ => (ev_move rfl)) ?_
    refine vc_p rfl rfl rfl (fun _ => (ev_nilCheck rfl)) ?_
    refine vc_p rfl rfl rfl (fun _ => (ev_fieldAddr rfl fo_73_1)) ?_
    refine vc_q rfl rfl rfl (ev_load rfl ag_3 (by first | assumption | exact hS11.cell 2 rfl rfl | exact hS11.cell 3 rfl rfl)) ?_
    refine vc_p rfl rfl rfl (fun _ => (ev_fieldAddr rfl fo_34_0)) ?_
    refine vc_q rfl rfl rfl (ev_load rfl ag_3 (by first | assumption | exact hS11.cell 2 rfl rfl | exact hS11.cell 3 rfl rfl)) ?_
    refine vc_p rfl rfl rfl (fun _ => (ev_mul rfl rfl (by omega) (by omega))) ?_
    refine vc_p rfl rfl rfl (fun _ => (ev_add rfl rfl (by omega) (by omega))) ?_
    refine vc_p rfl rfl rfl (fun _ => (ev_fieldAddr rfl fo_34_1)) ?_
    refine vc_q rfl rfl rfl (ev_load rfl ag_9 (by first | assumption | exact hS11.cell 2 rfl rfl | exact hS11.cell 3 rfl rfl)) ?_
    refine vc_s rfl rfl rfl rfl rfl rfl ?_
    have hC12 := hS11.split [0] [true, false, false, false, false] rfl; dsimp only [selF, pickA, nthA, List.cons_append, List.nil_append] at hC12
    refine wl_call cal_20 rfl (writeT hC12 base (128 * x.n + 64) x.d) rfl ?_
    rintro e w12 ⟨_, rfl, rfl, hS12⟩; refine ⟨_, rfl, ?_⟩
    replace hS12 := hS12.join rfl; dsimp only [List.dropLast, List.cons_append, List.nil_append] at hS12; clear hC12
    clear hS11
    refine vc_e (.skip (by kernel_rfl) (.skip (by kernel_rfl) (.skip (by kernel_rfl) (.skip (by kernel_rfl) .nil)))) ?_
    refine vc_p rfl rfl rfl (fun _ => (ev_assign rfl)) ?_
    refine VC.nil ?_
    refine qs_seq ?_
    refine wc_sub (L' := [(8, _), (0, _), (9, _), (10, _), (11, _)]) (.cons rfl (.cons rfl (.cons rfl (.cons rfl (.cons rfl .nil))))) ?_
    refine wc_seq ?_
    refine wc_region ?_
    refine wl_move rfl rfl ?_
    refine wl_neq rfl rfl rfl ?_
    refine wl_nil ?_
    refine qs_seq ?_
    refine wc_condD rfl (fun h13 => ?_) (fun h13 => ?_)
    · skip
      have h3 := h13
      refine wc_seq ?_
      refine wc_region ?_
      refine wl_move rfl rfl ?_
      refine wl_assign rfl rfl ?_
      refine wl_nil ?_
      refine qs_seq ?_
      refine wc_ret ?_
      refine qs_block_ret ?_
      refine qs_then_ret ?_
      refine qs_then_ret ?_
      refine qs_block_ret ?_
      refine qs_then_ret ?_
      refine fin1 (.inr rfl) rfl rfl ?_
      exact ⟨_, rfl, by rw [hH, dropB hx, homeR_c h1 h2 h3], by rw [hH, dropB hx, homeR_c h1 h2 h3]; exact hS12.pick [3, 0, 4] rfl⟩
    have h3 := Decidable.not_not.1 h13
    refine wc_skip ?_
    refine qs_block_normal ?_
    refine qs_seq ?_
    refine wc_region ?_
    refine wl_add rfl rfl (by omega) (by omega) rfl ?_
    refine wl_move rfl rfl ?_
    refine wl_nil ?_
    exact qs_round (L1 := [(0, _), (9, _), (10, _), (11, intV ((i + 1 : Nat) : Int))]) (.cons rfl (.cons rfl (.cons rfl (.cons rfl .nil)))) (k1 := l.length - (i + 1)) (by omega) ⟨i + 1, _, rfl, rfl, hS12.pick [3, 0, 4] rfl, by omega, by rw [hH, dropB hx, homeR_d h1 h2 h3]⟩
  refine wc_exit ?_
  refine qs_then_exit ?_
  refine qs_then_exit ?_
  refine qs_block_exit ?_
  refine qs_seq ?_
  refine wc_seq ?_
  have hS14 := hS1.drew
  refine wc_draw [0, 1, 2, 3, 4, 5, 6, 7, 8, 9] [8] mix (by kernel_rfl) ?_
  refine vc_p rfl rfl rfl (fun _ => (ev_move rfl)) ?_
  refine vc_p rfl rfl rfl (fun _ => (ev_nilCheck rfl)) ?_
  refine vc_p rfl rfl rfl (fun _ => (ev_fieldAddr rfl fo_73_0)) ?_
  refine vc_q rfl rfl rfl (ev_load rfl ag_25 (by first | assumption | exact hS14.cell 0 rfl rfl)) ?_
  refine vc_p rfl rfl rfl (fun _ => (ev_move rfl)) ?_
  refine vc_p rfl rfl rfl (fun _ => (ev_nilCheck rfl)) ?_
  refine vc_p rfl rfl rfl (fun _ => (ev_fieldAddr rfl fo_73_1)) ?_
  refine vc_q rfl rfl rfl (ev_load rfl ag_3 (by first | assumption | exact hS14.cell 0 rfl rfl)) ?_
  refine vc_s rfl rfl rfl rfl rfl rfl ?_
  have hC15 := hS14.split [1] [false, true, false] rfl; dsimp only [selF, pickA, nthA, List.cons_append, List.nil_append] at hC15
  refine wl_call cal_22 rfl (syncT hC15 base) rfl ?_
  rintro e w15 ⟨_, rfl, rfl, hS15⟩; refine ⟨_, rfl, ?_⟩
  replace hS15 := hS15.join rfl; dsimp only [List.dropLast, List.cons_append, List.nil_append] at hS15; clear hC15
  clear hS14
  refine vc_e (.skip (by kernel_rfl) (.skip (by kernel_rfl) .nil)) ?_
  refine vc_p rfl rfl rfl (fun _ => (ev_assign rfl)) ?_
  refine VC.nil ?_
  refine qs_seq ?_
  refine wc_sub (L' := [(4, _)]) (.cons rfl .nil) ?_
  refine wc_ret ?_
  refine fin1 (.inr rfl) rfl rfl ?_
  exact ⟨_, rfl, by rw [hH, List.drop_eq_nil_of_le (by omega)]; rfl, by rw [hH, List.drop_eq_nil_of_le (by omega)]; exact hS15.pick [1, 0, 2] rfl⟩
set_option maxRecDepth 100000 in
theorem write1_sp {σ : Type} {T : σ → Th} {C F : Th} {I : σ → Prop} {w : World} {sv : Value} {vs : List FnV} {gs : List (σ → Int × σ)} (hg : ∀ (i : Nat) (v : FnV), vs[i]? = some v → ∃ g, gs[i]? = some g ∧ Stp Tryz.prog T C I v g) (hl : gs.length = vs.length) (hln : vs.length ≤ 1000) (x : σ) (hI : I x) (hS : Sat w [T x, C, rowT fnC sv vs, F]) :
    Calls Tryz.prog 36 #[sv] w (Ret fun v w' => v = intV (runW gs x).1 ∧ I (runW gs x).2 ∧ Sat w' [T (runW gs x).2, C, rowT fnC sv vs, F]) := by
  refine calls_enter Tryz.func36 rfl Tryz.ntmps36 rfl ?_
  refine wc_seq ?_
  refine wc_region ?_
  refine wl_assign rfl rfl ?_
  refine wl_nil ?_
  refine qs_seq ?_
  refine wc_seq ?_
  refine wc_seq ?_
  refine wc_region ?_
  refine wl_move rfl rfl ?_
  first | refine wl_lenL Tryz.underlying112 rfl rfl ?_ | refine wl_lenO 2 hS Tryz.underlying112 rfl rfl rfl ?_
  refine wl_move rfl rfl ?_
  refine wl_nil ?_
  refine qs_seq ?_
  refine wc_block ?_
  refine wc_loop (fun K0 E0 W0 => ∃ (i : Nat) (y : σ), K0 = vs.length - i ∧ E0 = [(6, sv), (7, intV (vs.length : Int)), (8, intV (i : Int))] ∧ Sat W0 [T y, C, rowT fnC sv vs, F] ∧ (i ≤ vs.length) ∧ (runW gs x = runW (gs.drop i) y) ∧ (I y)) (L0 := [(6, _), (7, _), (8, _)]) (vs.length - 0) (.cons rfl (.cons rfl (.cons rfl .nil))) ⟨0, x, rfl, rfl, hS, by omega, rfl, hI⟩ ?_
  rintro _ _ w1 ⟨i, y, rfl, rfl, hS1, hi, hR, hIy⟩
  refine wc_seq ?_
  refine wc_region ?_
  refine wl_lss rfl rfl rfl ?_
  refine wl_nil ?_
  refine qs_seq ?_
  refine wc_seq ?_
  refine wc_condD rfl (fun h2 => ?_) (fun h2 => ?_)
  · skip
    obtain ⟨v, hv⟩ : ∃ v, vs[i]? = some v := ⟨_, List.getElem?_eq_getElem (by omega)⟩
    obtain ⟨g, hgi, hcb, hst⟩ := hg i v hv
    refine wc_skip ?_
    refine qs_seq ?_
    refine wc_seq ?_
    refine wc_block ?_
    refine wc_seq ?_
    refine wc_region ?_
    refine wl_rowIdx fnC 2 i hS1 rfl rfl rfl (by first | rfl | omega) hv es_112 rfl ?_
    intro bx3 capx3 hvx3
    refine wl_rowLoad 2 i 0 hS1 rfl hvx3 rfl rfl hv ag_75 rfl rfl ?_
    refine wl_assign rfl rfl ?_
    refine wl_nil ?_
    refine qs_seq ?_
    refine wc_seq ?_
    refine wc_region ?_
    refine wl_move rfl rfl ?_
    have hCv := hS1.split [0, 1] [true, true, false, false] rfl; dsimp only [selF, pickA, nthA, List.cons_append, List.nil_append] at hCv
    refine wl_callF (f := v.f) (fs := v.fs) (cap := v.cap) rfl hcb (hst y _ _ hIy hCv) rfl ?_
    rintro e w5 ⟨_, rfl, rfl, hIz, hS5⟩; refine ⟨_, rfl, ?_⟩
    replace hS5 := hS5.join rfl; dsimp only [List.dropLast, List.cons_append, List.nil_append] at hS5
    clear hS1
    refine wl_assign rfl rfl ?_
    refine wl_nil ?_
    refine qs_seq ?_
    refine wc_seq ?_
    refine wc_region ?_
    refine wl_move rfl rfl ?_
    refine wl_neq rfl rfl rfl ?_
    refine wl_nil ?_
    refine qs_seq ?_
    refine wc_sub (L' := [(15, _), (5, _), (6, _), (7, _), (8, _)]) (.cons rfl (.cons rfl (.cons rfl (.cons rfl (.cons rfl .nil))))) ?_
    refine wc_condD rfl (fun h4 => ?_) (fun h4 => ?_)
    · skip
      refine wc_seq ?_
      refine wc_region ?_
      refine wl_move rfl rfl ?_
      refine wl_assign rfl rfl ?_
      refine wl_nil ?_
      refine qs_seq ?_
      refine wc_ret ?_
      refine qs_block_ret ?_
      refine qs_then_ret ?_
      refine qs_then_ret ?_
      refine qs_block_ret ?_
      refine qs_then_ret ?_
      refine fin1 (.inr rfl) rfl rfl ?_
      have hfin : runW gs x = g y := by rw [hR, runW_step hgi, if_pos (by assumption)]
      exact ⟨_, rfl, by rw [hfin], by rw [hfin]; exact hIz, by rw [hfin]; exact hS5.pick [0, 1, 2, 3] rfl⟩
    refine wc_skip ?_
    refine qs_block_normal ?_
    refine qs_seq ?_
    refine wc_region ?_
    refine wl_add rfl rfl (by omega) (by omega) rfl ?_
    refine wl_move rfl rfl ?_
    refine wl_nil ?_
    exact qs_round (L1 := [(6, _), (7, _), (8, intV ((i + 1 : Nat) : Int))]) (.cons rfl (.cons rfl (.cons rfl .nil))) (k1 := vs.length - (i + 1)) (by omega) ⟨i + 1, _, rfl, rfl, hS5.pick [0, 1, 2, 3] rfl, by omega, by rw [hR, runW_step hgi, if_neg (by first | assumption | omega)], hIz⟩
  refine wc_exit ?_
  refine qs_then_exit ?_
  refine qs_then_exit ?_
  refine qs_block_exit ?_
  refine qs_seq ?_
  refine wc_seq ?_
  refine wc_region ?_
  refine wl_assign rfl rfl ?_
  refine wl_nil ?_
  refine qs_seq ?_
  refine wc_ret ?_
  refine fin1 (.inr rfl) rfl rfl ?_
  have hfin : runW gs x = (0, y) := by rw [hR, runW_end (by omega)]
  exact ⟨_, rfl, by rw [hfin], by rw [hfin]; exact hIy, by rw [hfin]; exact hS1.pick [0, 1, 2, 3] rfl⟩
def slotI (x : DS × CS) : Prop := CokJ x.2
def tJ (jp dp cp mb : Nat) (base : Int) (bad : Bool) (x : DS × CS) : Th := starL [blkT jp (jV dp base cp mb bad), dT dp x.1, blkT cp (cellV dp x.2)]
def cJ (bj jp bl bs bg : Nat) (base : Int) (s : Bs) (lv : Value) (F : Th) : Th := starL [blkT bj [ptrV jp 0], blkT bl [lv], blkT bs [strV s], blkT bg [intV (base + 1)], F]
def cR (bj jp bl : Nat) (lv : Value) (F : Th) : Th := starL [blkT bj [ptrV jp 0], blkT bl [lv], F]
section
variable {jp dp cp mb bj bl bs bg : Nat} {base : Int} {bad : Bool} {s : Bs} {lv : Value} {F X : Th} {x : DS × CS} {w : World}
theorem tJ_open (h : Sat w [tJ jp dp cp mb base bad x, cJ bj jp bl bs bg base s lv F, X]) : Sat w [blkT jp (jV dp base cp mb bad), dT dp x.1, blkT cp (cellV dp x.2), blkT bj [ptrV jp 0], blkT bl [lv], blkT bs [strV s], blkT bg [intV (base + 1)], X, F] := by
  have h1 := h.flat; dsimp only [List.cons_append, List.nil_append] at h1
  have h2 := (h1.pull 3 rfl).flat; dsimp only [List.cons_append, List.nil_append, List.eraseIdx] at h2
  exact h2.pick [5, 6, 7, 0, 1, 2, 3, 8, 4] rfl
theorem tJ_shut (h : Sat w [blkT jp (jV dp base cp mb bad), dT dp x.1, blkT cp (cellV dp x.2), blkT bj [ptrV jp 0], blkT bl [lv], blkT bs [strV s], blkT bg [intV (base + 1)], X, F]) : Sat w [tJ jp dp cp mb base bad x, cJ bj jp bl bs bg base s lv F, X] := by
  have h1 := Sat.fold (As := [blkT bj [ptrV jp 0], blkT bl [lv], blkT bs [strV s], blkT bg [intV (base + 1)], F]) (h.pick [3, 4, 5, 6, 8, 0, 1, 2, 7] rfl)
  exact Sat.fold (As := [blkT jp (jV dp base cp mb bad), dT dp x.1, blkT cp (cellV dp x.2)]) (h1.pick [1, 2, 3, 0, 4] rfl)
theorem tR_open (h : Sat w [tJ jp dp cp mb base bad x, cR bj jp bl lv F, X]) : Sat w [blkT jp (jV dp base cp mb bad), dT dp x.1, blkT cp (cellV dp x.2), blkT bj [ptrV jp 0], blkT bl [lv], X, F] := by
  have h1 := h.flat; dsimp only [List.cons_append, List.nil_append] at h1
  have h2 := (h1.pull 3 rfl).flat; dsimp only [List.cons_append, List.nil_append, List.eraseIdx] at h2
  exact h2.pick [3, 4, 5, 0, 1, 6, 2] rfl
theorem tR_shut (h : Sat w [blkT jp (jV dp base cp mb bad), dT dp x.1, blkT cp (cellV dp x.2), blkT bj [ptrV jp 0], blkT bl [lv], X, F]) : Sat w [tJ jp dp cp mb base bad x, cR bj jp bl lv F, X] := by
  have h1 := Sat.fold (As := [blkT bj [ptrV jp 0], blkT bl [lv], F]) (h.pick [3, 4, 6, 0, 1, 2, 5] rfl)
  exact Sat.fold (As := [blkT jp (jV dp base cp mb bad), dT dp x.1, blkT cp (cellV dp x.2)]) (h1.pick [1, 2, 3, 0, 4] rfl)
end
def gTrunc (base : Int) (x : DS × CS) : Int × (DS × CS) := (TruncE x.1 (base + 1) 0, (TruncD x.1 (base + 1) 0, x.2))
def gWrite (base : Int) (s : Bs) (x : DS × CS) : Int × (DS × CS) := (WriteE x.1 (base + 1) 0 s, (WriteD x.1 (base + 1) 0 s, x.2))
def gSync (base : Int) (x : DS × CS) : Int × (DS × CS) := (SyncE x.1 (base + 1), (SyncD x.1 (base + 1), x.2))
def gNote (n : Int) (x : DS × CS) : Int × (DS × CS) := ((noteR x.1 x.2 n).e, ((noteR x.1 x.2 n).D, (noteR x.1 x.2 n).C))
def gHome (base : Int) (l : List Blk) (x : DS × CS) : Int × (DS × CS) := ((homeR x.1 base l).1, ((homeR x.1 base l).2, x.2))
set_option maxRecDepth 100000 in
theorem stp41 {jp dp cp mb bj bl bs bg : Nat} {base : Int} {bad : Bool} {s : Bs} {lv : Value} {F : Th} (hb : 0 ≤ base ∧ base ≤ 13) (hG : Ent F WireG) (hO : Ent F (Glob 0)) {l : List Blk} (hL : Ent F (RdL jbC lv l)) (hr : ∀ x ∈ l, 0 ≤ x.n ∧ x.n < 2048 ∧ x.d.length ≤ 64) (hs : s.length ≤ 1000000000) : Stp Tryz.prog (tJ jp dp cp mb base bad) (cJ bj jp bl bs bg base s lv F) slotI ⟨41, [], [ptrV bj 0, ptrV bg 0]⟩ (gTrunc base) := by
  refine ⟨cal_41, fun x w X hI hS => ?_⟩
  replace hS := tJ_open hS
  show Calls Tryz.prog 41 #[ptrV bj 0, ptrV bg 0] w _
  refine calls_enter Tryz.func41 rfl Tryz.ntmps41 rfl ?_
  refine wc_seq ?_
  refine wc_region ?_
  refine wl_assign rfl rfl ?_
  refine wl_nil ?_
  refine qs_seq ?_
  refine wc_seq ?_
  have hS1 := hS.drew
  refine wc_draw [0, 1, 2, 3, 4, 5, 6] [5] mix (by kernel_rfl) ?_
  refine vc_q rfl rfl rfl (ev_load rfl ag_27 (by first | assumption | exact hS1.cell 0 rfl rfl | exact hS1.cell 2 rfl rfl | exact hS1.cell 3 rfl rfl | exact hS1.cell 4 rfl rfl | exact hS1.cell 5 rfl rfl | exact hS1.cell 6 rfl rfl)) ?_
  refine vc_p rfl rfl rfl (fun _ => (ev_nilCheck rfl)) ?_
  refine vc_p rfl rfl rfl (fun _ => (ev_fieldAddr rfl fo_73_0)) ?_
  refine vc_q rfl rfl rfl (ev_load rfl ag_25 (by first | assumption | exact hS1.cell 0 rfl rfl | exact hS1.cell 2 rfl rfl | exact hS1.cell 3 rfl rfl | exact hS1.cell 4 rfl rfl | exact hS1.cell 5 rfl rfl | exact hS1.cell 6 rfl rfl)) ?_
  refine vc_q rfl rfl rfl (ev_load rfl ag_3 (by first | assumption | exact hS1.cell 0 rfl rfl | exact hS1.cell 2 rfl rfl | exact hS1.cell 3 rfl rfl | exact hS1.cell 4 rfl rfl | exact hS1.cell 5 rfl rfl | exact hS1.cell 6 rfl rfl)) ?_
  refine vc_s rfl rfl rfl rfl rfl rfl ?_
  have hC2 := hS1.split [1] [false, true, false, false, false, false, false, false, false] rfl; dsimp only [selF, pickA, nthA, List.cons_append, List.nil_append] at hC2
  refine wl_call cal_42 rfl (truncT hC2 (base + 1) 0) rfl ?_
  rintro e w2 ⟨_, rfl, rfl, hS2⟩; refine ⟨_, rfl, ?_⟩
  replace hS2 := hS2.join rfl; dsimp only [List.dropLast, List.cons_append, List.nil_append] at hS2; clear hC2
  clear hS1
  refine vc_e (.skip (by kernel_rfl) (.skip (by kernel_rfl) (.skip (by kernel_rfl) .nil))) ?_
  refine vc_p rfl rfl rfl (fun _ => (ev_assign rfl)) ?_
  refine VC.nil ?_
  refine qs_seq ?_
  refine wc_ret ?_
  refine fin1 (.inr rfl) rfl rfl ?_
  exact ⟨_, rfl, rfl, hI, tJ_shut (x := (gTrunc base x).2) (hS2.pick [1, 0, 2, 3, 4, 5, 6, 7, 8] rfl)⟩
set_option maxRecDepth 100000 in
theorem stp43 {jp dp cp mb bj bl bs bg : Nat} {base : Int} {bad : Bool} {s : Bs} {lv : Value} {F : Th} (hb : 0 ≤ base ∧ base ≤ 13) (hG : Ent F WireG) (hO : Ent F (Glob 0)) {l : List Blk} (hL : Ent F (RdL jbC lv l)) (hr : ∀ x ∈ l, 0 ≤ x.n ∧ x.n < 2048 ∧ x.d.length ≤ 64) (hs : s.length ≤ 1000000000) : Stp Tryz.prog (tJ jp dp cp mb base bad) (cJ bj jp bl bs bg base s lv F) slotI ⟨43, [], [ptrV bj 0, ptrV bg 0, ptrV bs 0]⟩ (gWrite base s) := by
  refine ⟨cal_43, fun x w X hI hS => ?_⟩
  replace hS := tJ_open hS
  show Calls Tryz.prog 43 #[ptrV bj 0, ptrV bg 0, ptrV bs 0] w _
  refine calls_enter Tryz.func43 rfl Tryz.ntmps43 rfl ?_
  refine wc_seq ?_
  refine wc_region ?_
  refine wl_assign rfl rfl ?_
  refine wl_nil ?_
  refine qs_seq ?_
  refine wc_seq ?_
  have hS1 := hS.drew
  refine wc_draw [0, 1, 2, 3, 4, 5, 6, 7] [6] mix (by kernel_rfl) ?_
  refine vc_q rfl rfl rfl (ev_load rfl ag_27 (by first | assumption | exact hS1.cell 0 rfl rfl | exact hS1.cell 2 rfl rfl | exact hS1.cell 3 rfl rfl | exact hS1.cell 4 rfl rfl | exact hS1.cell 5 rfl rfl | exact hS1.cell 6 rfl rfl)) ?_
  refine vc_p rfl rfl rfl (fun _ => (ev_nilCheck rfl)) ?_
  refine vc_p rfl rfl rfl (fun _ => (ev_fieldAddr rfl fo_73_0)) ?_
  refine vc_q rfl rfl rfl (ev_load rfl ag_25 (by first | assumption | exact hS1.cell 0 rfl rfl | exact hS1.cell 2 rfl rfl | exact hS1.cell 3 rfl rfl | exact hS1.cell 4 rfl rfl | exact hS1.cell 5 rfl rfl | exact hS1.cell 6 rfl rfl)) ?_
  refine vc_q rfl rfl rfl (ev_load rfl ag_3 (by first | assumption | exact hS1.cell 0 rfl rfl | exact hS1.cell 2 rfl rfl | exact hS1.cell 3 rfl rfl | exact hS1.cell 4 rfl rfl | exact hS1.cell 5 rfl rfl | exact hS1.cell 6 rfl rfl)) ?_
  refine vc_q rfl rfl rfl (ev_load rfl ag_9 (by first | assumption | exact hS1.cell 0 rfl rfl | exact hS1.cell 2 rfl rfl | exact hS1.cell 3 rfl rfl | exact hS1.cell 4 rfl rfl | exact hS1.cell 5 rfl rfl | exact hS1.cell 6 rfl rfl)) ?_
  refine vc_s rfl rfl rfl rfl rfl rfl ?_
  have hC2 := hS1.split [1] [false, true, false, false, false, false, false, false, false] rfl; dsimp only [selF, pickA, nthA, List.cons_append, List.nil_append] at hC2
  refine wl_call cal_20 rfl (writeT hC2 (base + 1) 0 s) rfl ?_
  rintro e w2 ⟨_, rfl, rfl, hS2⟩; refine ⟨_, rfl, ?_⟩
  replace hS2 := hS2.join rfl; dsimp only [List.dropLast, List.cons_append, List.nil_append] at hS2; clear hC2
  clear hS1
  refine vc_e (.skip (by kernel_rfl) (.skip (by kernel_rfl) (.skip (by kernel_rfl) (.skip (by kernel_rfl) .nil)))) ?_
  refine vc_p rfl rfl rfl (fun _ => (ev_assign rfl)) ?_
  refine VC.nil ?_
  refine qs_seq ?_
  refine wc_sub (L' := [(3, _)]) (.cons rfl .nil) ?_
  refine wc_ret ?_
  refine fin1 (.inr rfl) rfl rfl ?_
  exact ⟨_, rfl, rfl, hI, tJ_shut (x := (gWrite base s x).2) (hS2.pick [1, 0, 2, 3, 4, 5, 6, 7, 8] rfl)⟩
set_option maxRecDepth 100000 in
theorem stp44 {jp dp cp mb bj bl bs bg : Nat} {base : Int} {bad : Bool} {s : Bs} {lv : Value} {F : Th} (hb : 0 ≤ base ∧ base ≤ 13) (hG : Ent F WireG) (hO : Ent F (Glob 0)) {l : List Blk} (hL : Ent F (RdL jbC lv l)) (hr : ∀ x ∈ l, 0 ≤ x.n ∧ x.n < 2048 ∧ x.d.length ≤ 64) (hs : s.length ≤ 1000000000) : Stp Tryz.prog (tJ jp dp cp mb base bad) (cJ bj jp bl bs bg base s lv F) slotI ⟨44, [], [ptrV bj 0, ptrV bg 0]⟩ (gSync base) := by
  refine ⟨cal_44, fun x w X hI hS => ?_⟩
  replace hS := tJ_open hS
  show Calls Tryz.prog 44 #[ptrV bj 0, ptrV bg 0] w _
  refine calls_enter Tryz.func44 rfl Tryz.ntmps44 rfl ?_
  refine wc_seq ?_
  refine wc_region ?_
  refine wl_assign rfl rfl ?_
  refine wl_nil ?_
  refine qs_seq ?_
  refine wc_seq ?_
  have hS1 := hS.drew
  refine wc_draw [0, 1, 2, 3, 4, 5, 6] [5] mix (by kernel_rfl) ?_
  refine vc_q rfl rfl rfl (ev_load rfl ag_27 (by first | assumption | exact hS1.cell 0 rfl rfl | exact hS1.cell 2 rfl rfl | exact hS1.cell 3 rfl rfl | exact hS1.cell 4 rfl rfl | exact hS1.cell 5 rfl rfl | exact hS1.cell 6 rfl rfl)) ?_
  refine vc_p rfl rfl rfl (fun _ => (ev_nilCheck rfl)) ?_
  refine vc_p rfl rfl rfl (fun _ => (ev_fieldAddr rfl fo_73_0)) ?_
  refine vc_q rfl rfl rfl (ev_load rfl ag_25 (by first | assumption | exact hS1.cell 0 rfl rfl | exact hS1.cell 2 rfl rfl | exact hS1.cell 3 rfl rfl | exact hS1.cell 4 rfl rfl | exact hS1.cell 5 rfl rfl | exact hS1.cell 6 rfl rfl)) ?_
  refine vc_q rfl rfl rfl (ev_load rfl ag_3 (by first | assumption | exact hS1.cell 0 rfl rfl | exact hS1.cell 2 rfl rfl | exact hS1.cell 3 rfl rfl | exact hS1.cell 4 rfl rfl | exact hS1.cell 5 rfl rfl | exact hS1.cell 6 rfl rfl)) ?_
  refine vc_s rfl rfl rfl rfl rfl rfl ?_
  have hC2 := hS1.split [1] [false, true, false, false, false, false, false, false, false] rfl; dsimp only [selF, pickA, nthA, List.cons_append, List.nil_append] at hC2
  refine wl_call cal_22 rfl (syncT hC2 (base + 1)) rfl ?_
  rintro e w2 ⟨_, rfl, rfl, hS2⟩; refine ⟨_, rfl, ?_⟩
  replace hS2 := hS2.join rfl; dsimp only [List.dropLast, List.cons_append, List.nil_append] at hS2; clear hC2
  clear hS1
  refine vc_e (.skip (by kernel_rfl) (.skip (by kernel_rfl) (.skip (by kernel_rfl) .nil))) ?_
  refine vc_p rfl rfl rfl (fun _ => (ev_assign rfl)) ?_
  refine VC.nil ?_
  refine qs_seq ?_
  refine wc_ret ?_
  refine fin1 (.inr rfl) rfl rfl ?_
  exact ⟨_, rfl, rfl, hI, tJ_shut (x := (gSync base x).2) (hS2.pick [1, 0, 2, 3, 4, 5, 6, 7, 8] rfl)⟩
set_option maxRecDepth 100000 in
theorem stp45 {jp dp cp mb bj bl bs bg : Nat} {base : Int} {bad : Bool} {s : Bs} {lv : Value} {F : Th} (hb : 0 ≤ base ∧ base ≤ 13) (hG : Ent F WireG) (hO : Ent F (Glob 0)) {l : List Blk} (hL : Ent F (RdL jbC lv l)) (hr : ∀ x ∈ l, 0 ≤ x.n ∧ x.n < 2048 ∧ x.d.length ≤ 64) (hs : s.length ≤ 1000000000) : Stp Tryz.prog (tJ jp dp cp mb base bad) (cJ bj jp bl bs bg base s lv F) slotI ⟨45, [], [ptrV bj 0, ptrV bs 0]⟩ (gNote (s.length : Int)) := by
  refine ⟨cal_45, fun x w X hI hS => ?_⟩
  replace hS := tJ_open hS
  show Calls Tryz.prog 45 #[ptrV bj 0, ptrV bs 0] w _
  refine calls_enter Tryz.func45 rfl Tryz.ntmps45 rfl ?_
  refine wc_seq ?_
  refine wc_region ?_
  refine wl_assign rfl rfl ?_
  refine wl_nil ?_
  refine qs_seq ?_
  refine wc_seq ?_
  refine wc_region ?_
  refine wl_load rfl ag_27 (by first | assumption | exact hS.cell 0 rfl rfl | exact hS.cell 2 rfl rfl | exact hS.cell 3 rfl rfl | exact hS.cell 4 rfl rfl | exact hS.cell 5 rfl rfl | exact hS.cell 6 rfl rfl) rfl ?_
  refine wl_load rfl ag_9 (by first | assumption | exact hS.cell 0 rfl rfl | exact hS.cell 2 rfl rfl | exact hS.cell 3 rfl rfl | exact hS.cell 4 rfl rfl | exact hS.cell 5 rfl rfl | exact hS.cell 6 rfl rfl) rfl ?_
  refine wl_lenS Tryz.underlying9 rfl rfl ?_
  have hC1 := hS.split [0, 1, 2] [true, true, true, false, false, false, false, false, false] rfl; dsimp only [selF, pickA, nthA, List.cons_append, List.nil_append] at hC1
  refine wl_call cal_46 rfl (note_sp hC1 (hG.starL 5 rfl) (hO.starL 5 rfl) hI.1 (s.length : Int) (by unfold inI; omega)) rfl ?_
  rintro e w1 ⟨_, rfl, rfl, hS1⟩; refine ⟨_, rfl, ?_⟩
  replace hS1 := hS1.join rfl; dsimp only [List.dropLast, List.cons_append, List.nil_append] at hS1; clear hC1
  refine wl_assign rfl rfl ?_
  refine wl_nil ?_
  refine qs_seq ?_
  refine wc_ret ?_
  refine fin1 (.inr rfl) rfl rfl ?_
  exact ⟨_, rfl, rfl, setR_cok hI, tJ_shut (x := (gNote (s.length : Int) x).2) (hS1.pick [0, 1, 2, 3, 4, 5, 6, 7, 8] rfl)⟩
set_option maxRecDepth 100000 in
theorem stp47 {jp dp cp mb bj bl bs bg : Nat} {base : Int} {bad : Bool} {s : Bs} {lv : Value} {F : Th} (hb : 0 ≤ base ∧ base ≤ 13) (hG : Ent F WireG) (hO : Ent F (Glob 0)) {l : List Blk} (hL : Ent F (RdL jbC lv l)) (hr : ∀ x ∈ l, 0 ≤ x.n ∧ x.n < 2048 ∧ x.d.length ≤ 64) (hs : s.length ≤ 1000000000) : Stp Tryz.prog (tJ jp dp cp mb base bad) (cJ bj jp bl bs bg base s lv F) slotI ⟨47, [], [ptrV bj 0, ptrV bl 0]⟩ (gHome base l) := by
  refine ⟨cal_47, fun x w X hI hS => ?_⟩
  replace hS := tJ_open hS
  show Calls Tryz.prog 47 #[ptrV bj 0, ptrV bl 0] w _
  refine calls_enter Tryz.func47 rfl Tryz.ntmps47 rfl ?_
  refine wc_seq ?_
  refine wc_region ?_
  refine wl_assign rfl rfl ?_
  refine wl_nil ?_
  refine qs_seq ?_
  refine wc_seq ?_
  refine wc_region ?_
  refine wl_load rfl ag_27 (by first | assumption | exact hS.cell 0 rfl rfl | exact hS.cell 2 rfl rfl | exact hS.cell 3 rfl rfl | exact hS.cell 4 rfl rfl | exact hS.cell 5 rfl rfl | exact hS.cell 6 rfl rfl) rfl ?_
  refine wl_load rfl ag_32 (by first | assumption | exact hS.cell 0 rfl rfl | exact hS.cell 2 rfl rfl | exact hS.cell 3 rfl rfl | exact hS.cell 4 rfl rfl | exact hS.cell 5 rfl rfl | exact hS.cell 6 rfl rfl) rfl ?_
  have hC1 := hS.split [0, 1] [true, true, false, false, false, false, false, false, false] rfl; dsimp only [selF, pickA, nthA, List.cons_append, List.nil_append] at hC1
  refine wl_call cal_48 rfl (home_sp hC1 (hL.starL 6 rfl) hr) rfl ?_
  rintro e w1 ⟨_, rfl, rfl, hS1⟩; refine ⟨_, rfl, ?_⟩
  replace hS1 := hS1.join rfl; dsimp only [List.dropLast, List.cons_append, List.nil_append] at hS1; clear hC1
  refine wl_assign rfl rfl ?_
  refine wl_nil ?_
  refine qs_seq ?_
  refine wc_ret ?_
  refine fin1 (.inr rfl) rfl rfl ?_
  exact ⟨_, rfl, rfl, hI, tJ_shut (x := (gHome base l x).2) (hS1.pick [0, 1, 2, 3, 4, 5, 6, 7, 8] rfl)⟩
set_option maxRecDepth 100000 in
theorem stp49 {jp dp cp mb bj bl bs bg : Nat} {base : Int} {bad : Bool} {s : Bs} {lv : Value} {F : Th} (hb : 0 ≤ base ∧ base ≤ 13) (hG : Ent F WireG) (hO : Ent F (Glob 0)) {l : List Blk} (hL : Ent F (RdL jbC lv l)) (hr : ∀ x ∈ l, 0 ≤ x.n ∧ x.n < 2048 ∧ x.d.length ≤ 64) (hs : s.length ≤ 1000000000) : Stp Tryz.prog (tJ jp dp cp mb base bad) (cJ bj jp bl bs bg base s lv F) slotI ⟨49, [], [ptrV bj 0]⟩ (gNote 0) := by
  refine ⟨cal_49, fun x w X hI hS => ?_⟩
  replace hS := tJ_open hS
  show Calls Tryz.prog 49 #[ptrV bj 0] w _
  refine calls_enter Tryz.func49 rfl Tryz.ntmps49 rfl ?_
  refine wc_seq ?_
  refine wc_region ?_
  refine wl_assign rfl rfl ?_
  refine wl_nil ?_
  refine qs_seq ?_
  refine wc_seq ?_
  refine wc_region ?_
  refine wl_load rfl ag_27 (by first | assumption | exact hS.cell 0 rfl rfl | exact hS.cell 2 rfl rfl | exact hS.cell 3 rfl rfl | exact hS.cell 4 rfl rfl | exact hS.cell 5 rfl rfl | exact hS.cell 6 rfl rfl) rfl ?_
  have hC1 := hS.split [0, 1, 2] [true, true, true, false, false, false, false, false, false] rfl; dsimp only [selF, pickA, nthA, List.cons_append, List.nil_append] at hC1
  refine wl_call cal_46 rfl (note_sp hC1 (hG.starL 5 rfl) (hO.starL 5 rfl) hI.1 0 in0) rfl ?_
  rintro e w1 ⟨_, rfl, rfl, hS1⟩; refine ⟨_, rfl, ?_⟩
  replace hS1 := hS1.join rfl; dsimp only [List.dropLast, List.cons_append, List.nil_append] at hS1; clear hC1
  refine wl_assign rfl rfl ?_
  refine wl_nil ?_
  refine qs_seq ?_
  refine wc_ret ?_
  refine fin1 (.inr rfl) rfl rfl ?_
  exact ⟨_, rfl, rfl, setR_cok hI, tJ_shut (x := (gNote 0 x).2) (hS1.pick [0, 1, 2, 3, 4, 5, 6, 7, 8] rfl)⟩
set_option maxRecDepth 100000 in
theorem stp80 {jp dp cp mb bj bl : Nat} {base : Int} {bad : Bool} {lv : Value} {F : Th} (hb : 0 ≤ base ∧ base ≤ 13) (hG : Ent F WireG) (hO : Ent F (Glob 0)) {l : List Blk} (hL : Ent F (RdL jbC lv l)) (hr : ∀ x ∈ l, 0 ≤ x.n ∧ x.n < 2048 ∧ x.d.length ≤ 64) : Stp Tryz.prog (tJ jp dp cp mb base bad) (cR bj jp bl lv F) slotI ⟨80, [], [ptrV bj 0, ptrV bl 0]⟩ (gHome base l) := by
  refine ⟨cal_80, fun x w X hI hS => ?_⟩
  replace hS := tR_open hS
  show Calls Tryz.prog 80 #[ptrV bj 0, ptrV bl 0] w _
  refine calls_enter Tryz.func80 rfl Tryz.ntmps80 rfl ?_
  refine wc_seq ?_
  refine wc_region ?_
  refine wl_assign rfl rfl ?_
  refine wl_nil ?_
  refine qs_seq ?_
  refine wc_seq ?_
  refine wc_region ?_
  refine wl_load rfl ag_27 (by first | assumption | exact hS.cell 0 rfl rfl | exact hS.cell 2 rfl rfl | exact hS.cell 3 rfl rfl | exact hS.cell 4 rfl rfl) rfl ?_
  refine wl_load rfl ag_32 (by first | assumption | exact hS.cell 0 rfl rfl | exact hS.cell 2 rfl rfl | exact hS.cell 3 rfl rfl | exact hS.cell 4 rfl rfl) rfl ?_
  have hC1 := hS.split [0, 1] [true, true, false, false, false, false, false] rfl; dsimp only [selF, pickA, nthA, List.cons_append, List.nil_append] at hC1
  refine wl_call cal_48 rfl (home_sp hC1 (hL.starL 4 rfl) hr) rfl ?_
  rintro e w1 ⟨_, rfl, rfl, hS1⟩; refine ⟨_, rfl, ?_⟩
  replace hS1 := hS1.join rfl; dsimp only [List.dropLast, List.cons_append, List.nil_append] at hS1; clear hC1
  refine wl_assign rfl rfl ?_
  refine wl_nil ?_
  refine qs_seq ?_
  refine wc_ret ?_
  refine fin1 (.inr rfl) rfl rfl ?_
  exact ⟨_, rfl, rfl, hI, tR_shut (x := (gHome base l x).2) (hS1.pick [0, 1, 2, 3, 4, 5, 6] rfl)⟩
set_option maxRecDepth 100000 in
theorem stp81 {jp dp cp mb bj bl : Nat} {base : Int} {bad : Bool} {lv : Value} {F : Th} (hb : 0 ≤ base ∧ base ≤ 13) (hG : Ent F WireG) (hO : Ent F (Glob 0)) {l : List Blk} (hL : Ent F (RdL jbC lv l)) (hr : ∀ x ∈ l, 0 ≤ x.n ∧ x.n < 2048 ∧ x.d.length ≤ 64) : Stp Tryz.prog (tJ jp dp cp mb base bad) (cR bj jp bl lv F) slotI ⟨81, [], [ptrV bj 0]⟩ (gNote 0) := by
  refine ⟨cal_81, fun x w X hI hS => ?_⟩
  replace hS := tR_open hS
  show Calls Tryz.prog 81 #[ptrV bj 0] w _
  refine calls_enter Tryz.func81 rfl Tryz.ntmps81 rfl ?_
  refine wc_seq ?_
  refine wc_region ?_
  refine wl_assign rfl rfl ?_
  refine wl_nil ?_
  refine qs_seq ?_
  refine wc_seq ?_
  refine wc_region ?_
  refine wl_load rfl ag_27 (by first | assumption | exact hS.cell 0 rfl rfl | exact hS.cell 2 rfl rfl | exact hS.cell 3 rfl rfl | exact hS.cell 4 rfl rfl) rfl ?_
  have hC1 := hS.split [0, 1, 2] [true, true, true, false, false, false, false] rfl; dsimp only [selF, pickA, nthA, List.cons_append, List.nil_append] at hC1
  refine wl_call cal_46 rfl (note_sp hC1 (hG.starL 3 rfl) (hO.starL 3 rfl) hI.1 0 in0) rfl ?_
  rintro e w1 ⟨_, rfl, rfl, hS1⟩; refine ⟨_, rfl, ?_⟩
  replace hS1 := hS1.join rfl; dsimp only [List.dropLast, List.cons_append, List.nil_append] at hS1; clear hC1
  refine wl_assign rfl rfl ?_
  refine wl_nil ?_
  refine qs_seq ?_
  refine wc_ret ?_
  refine fin1 (.inr rfl) rfl rfl ?_
  exact ⟨_, rfl, rfl, setR_cok hI, tR_shut (x := (gNote 0 x).2) (hS1.pick [0, 1, 2, 3, 4, 5, 6] rfl)⟩
theorem runW_cons {σ : Type} (g : σ → Int × σ) (gs : List (σ → Int × σ)) (x : σ) : runW (g :: gs) x = if (g x).1 ≠ 0 then g x else runW gs (g x).2 := rfl
theorem runW_one {σ : Type} (g : σ → Int × σ) (x : σ) : runW [g] x = g x := by
  rw [runW_cons]
  split
  · rfl
  · rename_i h
    have h := Decidable.not_not.1 h
    show (0, (g x).2) = g x
    rw [← h]
def toP (R : SR) : Int × (DS × CS) := (R.e, (R.D, R.C))
theorem run_put {D : DS} {C : CS} {f : Int} {l : List Blk} : runW [gTrunc f, gWrite f (encJ l), gSync f, gNote ((encJ l).length : Int), gHome f l, gNote 0] (D, C) = toP (putR0 D C f l) := by
  unfold putR0 midR endR
  simp only [apply_ite toP]
  rw [runW_cons, runW_cons, runW_cons, runW_cons, runW_cons, runW_one]
  rfl
theorem run_end {D : DS} {C : CS} {f : Int} {l : List Blk} : runW [gHome f l, gNote 0] (D, C) = toP (endR D C f l) := by
  unfold endR
  simp only [apply_ite toP]
  rw [runW_cons, runW_one]
  rfl
end Go.Proofs.YtfmkodmmbgibgaaGreatDoor
