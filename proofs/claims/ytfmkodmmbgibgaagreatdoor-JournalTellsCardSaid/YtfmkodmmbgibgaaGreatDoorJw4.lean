/- journal: replay, Open -/
import Derived.Test.YtfmkodmmbgibgaaGreatDoorWk1
import Derived.Test.YtfmkodmmbgibgaaGreatDoorDr
namespace Go.Proofs.YtfmkodmmbgibgaaGreatDoor
open Go.RowKit M
set_option linter.unusedVariables false
theorem hdrOf_ok {h : Bytes} {s n : Nat} (e : hdrOf h = .slot s n) : s ≤ 2 ∧ n ≤ 65536 := by
  unfold hdrOf at e
  split at e
  · cases e
  · split at e
    · cases e
    · split at e
      · split at e
        · rename_i q
          cases e
          refine ⟨?_, q.2⟩
          rcases q.1 with rfl | rfl <;> decide
        · cases e
      · cases e
theorem openC_cok (D : DS) (f : Int) : CokJ (openC D f) := by
  unfold openC
  split
  · rename_i s n e
    obtain ⟨h1, h2⟩ := hdrOf_ok e
    have h3 := ReadS_len (D := D) (f := f) (a := slotOff s) (n := (n : Int))
    exact ⟨h1, by show (ReadS D f (slotOff s) n).length ≤ _; omega⟩
  · exact ⟨by show 0 ≤ 2; omega, by show ([] : Bytes).length ≤ _; simp⟩
theorem endR_cok {D : DS} {C : CS} {f : Int} {l : List Blk} (h : CokJ C) : CokJ (endR D C f l).C := by
  unfold endR; split
  · exact h
  · exact setR_cok h
theorem replR_cok {D : DS} {C : CS} {f : Int} (h : CokJ C) : CokJ (replR D f C).C := by
  unfold replR; split
  · exact h
  · split
    · exact h
    · split
      · exact h
      · exact endR_cok h
section
variable {D : DS} {f n : Int} {C : CS} (hn : n = iV (C.val, false))
include hn
theorem replR_a (h : encN n ≠ C.val ∨ n ≤ 0) : replR D f C = ⟨0, D, C⟩ := by subst hn; unfold replR; rw [if_pos h]
theorem replR_b (h : encN n = C.val) (h0 : ¬ n ≤ 0) (h1 : ReadE D (f + 1) 0 n ≠ 0) : replR D f C = ⟨ReadE D (f + 1) 0 n, D, C⟩ := by subst hn; unfold replR; rw [if_neg (by rintro (q | q); exact q h; exact h0 q), if_pos h1]
theorem replR_c (h : encN n = C.val) (h0 : ¬ n ≤ 0) (h1 : ReadE D (f + 1) 0 n = 0) (h2 : okJ (ReadS D (f + 1) 0 n) = false) : replR D f C = ⟨2, D, C⟩ := by subst hn; unfold replR; rw [if_neg (by rintro (q | q); exact q h; exact h0 q), if_neg (by omega), if_pos h2]
theorem replR_d (h : encN n = C.val) (h0 : ¬ n ≤ 0) (h1 : ReadE D (f + 1) 0 n = 0) (h2 : okJ (ReadS D (f + 1) 0 n) = true) : replR D f C = endR D C f (rawJ (ReadS D (f + 1) 0 n)) := by subst hn; unfold replR; rw [if_neg (by rintro (q | q); exact q h; exact h0 q), if_neg (by omega), if_neg (by rw [h2]; decide)]
end
theorem readS_few {D : DS} (h : DInv D) (f a n : Int) : (ReadS D f a n).length ≤ 20000000 := by
  have := h.now f
  unfold ReadS; split
  · rw [List.length_take, List.length_drop]; omega
  · simp
theorem okJ_right {s : Bytes} (h : okJ s = true) : rightJ (rawJ s) = true := by
  unfold okJ at h; rw [Bool.and_eq_true] at h; exact h.2
section
variable {σ : Type} {P : Program} {T : σ → Th} {C : Th} {I : σ → Prop}
theorem stp_nil : ∀ (i : Nat) (v : FnV), ([] : List FnV)[i]? = some v → ∃ g, ([] : List (σ → Int × σ))[i]? = some g ∧ Stp P T C I v g := fun i v h => by simp at h
theorem stp_cons {v1 : FnV} {g1 : σ → Int × σ} {vs : List FnV} {gs : List (σ → Int × σ)} (h1 : Stp P T C I v1 g1) (h : ∀ (i : Nat) (v : FnV), vs[i]? = some v → ∃ g, gs[i]? = some g ∧ Stp P T C I v g) : ∀ (i : Nat) (v : FnV), (v1 :: vs)[i]? = some v → ∃ g, (g1 :: gs)[i]? = some g ∧ Stp P T C I v g := fun i v hv => by
  cases i with
  | zero => simp at hv; subst hv; exact ⟨g1, rfl, h1⟩
  | succ i => simp at hv; obtain ⟨g, q1, q2⟩ := h i v hv; exact ⟨g, by simpa using q1, q2⟩
end
set_option maxRecDepth 100000 in
theorem replay_sp {w : World} {jp dp cp mb : Nat} {base : Int} {bad : Bool} {D : DS} {C : CS} {F : Th} (hS : Sat w [blkT jp (jV dp base cp mb bad), dT dp D, blkT cp (cellV dp C), F]) (hG : Ent F WireG) (hO : Ent F (Glob 0)) (hb : 0 ≤ base ∧ base ≤ 13) (hC : CokJ C) :
    Calls Tryz.prog 37 #[ptrV jp 0] w (Ret fun v w' => v = intV (replR D base C).e ∧ Sat w' [blkT jp (jV dp base cp mb bad), dT dp (replR D base C).D, blkT cp (cellV dp (replR D base C).C), F]) := by
 refine calls_enter Tryz.func37 rfl Tryz.ntmps37 rfl ?_
 have hIv := dT_inv hS 1 rfl
 have hvl := hC.2
 refine wc_seq (wc_region ?_)
 refine wl_box hS rfl rfl rfl ?_
 intro bj wbj hSbj0
 have hSbj : Sat wbj [blkT bj [ptrV jp 0], blkT jp (jV dp base cp mb bad), dT dp D, blkT cp (cellV dp C), F] := hSbj0
 refine wl_assign rfl rfl (wl_nil (qs_seq (wc_seq (wc_region ?_))))
 refine wl_load rfl ag_27 (by first | assumption | exact hSbj.cell 0 rfl rfl | exact hSbj.cell 1 rfl rfl | exact hSbj.cell 3 rfl rfl) rfl ?_
 refine wl_nilCheck rfl rfl ?_
 refine wl_fieldAddr rfl fo_73_2 rfl ?_
 refine wl_load rfl ag_68 (by first | assumption | exact hSbj.cell 0 rfl rfl | exact hSbj.cell 1 rfl rfl | exact hSbj.cell 3 rfl rfl) rfl ?_
 have hC1 := hSbj.split [3] [false, false, false, true, false] rfl; dsimp only [selF, pickA, nthA, List.cons_append, List.nil_append] at hC1
 refine wl_call cal_75 rfl (get_sp hC1) rfl ?_
 rintro e w1 ⟨_, rfl, rfl, hS1⟩; refine ⟨_, rfl, ?_⟩
 replace hS1 := hS1.join rfl; dsimp only [List.dropLast, List.cons_append, List.nil_append] at hS1; clear hC1
 clear hSbj
 refine wl_move rfl rfl (wl_extract rfl rfl rfl (wl_extract rfl rfl rfl (wl_assign rfl rfl (wl_assign rfl rfl (wl_nil (qs_seq ?_))))))
 refine wc_sub (L' := [(3, _), (2, _), (1, _)]) (.cons rfl (.cons rfl (.cons rfl .nil))) ?_
 refine wc_seq (wc_region (wl_move rfl rfl ?_))
 have hC2 := hS1.split [] [false, false, false, false, false] rfl; dsimp only [selF, pickA, nthA, List.cons_append, List.nil_append] at hC2
 refine wl_call cal_76 rfl (wOpen_sp hC2 C.val) rfl ?_
 rintro e w2 ⟨_, rfl, rb, rfl, hS2⟩; refine ⟨_, rfl, ?_⟩
 replace hS2 := hS2.join rfl; dsimp only [List.dropLast, List.cons_append, List.nil_append] at hS2; clear hC2
 clear hS1
 have hC3 := hS2.split [0] [true, false, false, false, false, false] rfl; dsimp only [selF, pickA, nthA, List.cons_append, List.nil_append] at hC3
 refine wl_call cal_77 rfl (rInt_sp hC3 (hG.starL 4 rfl) (by dsimp only; omega)) rfl ?_
 rintro e w3 ⟨_, rfl, rfl, hS3⟩; refine ⟨_, rfl, ?_⟩
 replace hS3 := hS3.join rfl; dsimp only [List.dropLast, List.cons_append, List.nil_append] at hS3; clear hC3
 clear hS2
 refine wl_assign rfl rfl (wl_nil ?_)
 rw [iV_eq]
 obtain ⟨n, hn⟩ : ∃ n, n = iV (C.val, false) := ⟨_, rfl⟩
 rw [← hn]
 have hnI : inI n := by rw [hn]; exact numV_in _ _ _
 refine qs_seq (wc_seq (wc_seq (wc_region (wl_move rfl rfl ?_))))
 have hC4 := hS3.split [] [false, false, false, false, false, false] rfl; dsimp only [selF, pickA, nthA, List.cons_append, List.nil_append] at hC4
 refine wl_call cal_78 rfl (wInt_sp hC4 (hG.starL 5 rfl) n hnI) rfl ?_
 rintro e w4 ⟨_, rfl, rfl, hS4⟩; refine ⟨_, rfl, ?_⟩
 replace hS4 := hS4.join rfl; dsimp only [List.dropLast, List.cons_append, List.nil_append] at hS4; clear hC4
 clear hS3
 refine wl_move rfl rfl ?_
 refine wl_neqS rfl rfl rfl ?_
 refine wl_move rfl rfl ?_
 refine wl_splitD 24 rfl (fun h5 => ?_) (fun h5 => ?_)
 ·have h34 : encN n ≠ C.val := h5
  refine wl_unwanted rfl rfl (decide_eq_true h5) rfl ?_
  refine wl_unwanted rfl rfl (decide_eq_true h5) rfl ?_
  refine wl_pickT rfl (decide_eq_true h5) rfl rfl ?_
  refine wl_nil (qs_seq ?_)
  refine wc_sub (L' := [(27, _), (5, _), (3, _), (2, _), (1, _)]) (.cons rfl (.cons rfl (.cons rfl (.cons rfl (.cons rfl .nil))))) ?_
  refine wc_condT rfl ?_
  refine wc_seq (wc_region (wl_assign rfl rfl (wl_nil (qs_seq (wc_ret (qs_then_ret ?_))))))
  refine fin1 (.inr rfl) rfl rfl ?_
  exact ⟨_, rfl, by rw [replR_a hn (.inl h34)], by rw [replR_a hn (.inl h34)]; exact hS4.pick [3, 4, 1, 5] rfl⟩
 have h34 : encN n = C.val := Decidable.not_not.1 h5
 refine wl_guard rfl rfl (decide_eq_false h5) ?_
 refine wl_move rfl rfl ?_
 refine wl_guard rfl rfl (decide_eq_false h5) ?_
 refine wl_leq rfl rfl rfl ?_
 refine wl_pickF rfl (decide_eq_false h5) rfl rfl ?_
 refine wl_nil (qs_seq ?_)
 refine wc_sub (L' := [(27, _), (5, _), (3, _), (2, _), (1, _)]) (.cons rfl (.cons rfl (.cons rfl (.cons rfl (.cons rfl .nil))))) ?_
 refine wc_condD rfl (fun h6 => ?_) (fun h6 => ?_)
 ·refine wc_seq (wc_region (wl_assign rfl rfl (wl_nil (qs_seq (wc_ret (qs_then_ret ?_))))))
  refine fin1 (.inr rfl) rfl rfl ?_
  exact ⟨_, rfl, by rw [replR_a hn (.inr (by assumption))], by rw [replR_a hn (.inr (by assumption))]; exact hS4.pick [3, 4, 1, 5] rfl⟩
 have h0 : ¬ n ≤ 0 := by assumption
 refine wc_skip (qs_seq (wc_seq ?_))
 have hS7 := hS4.drew
 refine wc_draw [0, 1, 2, 3, 4, 5, 6, 7, 8, 9, 10, 11, 12, 13, 14, 15] [10] mix (by kernel_rfl) ?_
 refine vc_q rfl rfl rfl (ev_load rfl ag_27 (by first | assumption | exact hS7.cell 1 rfl rfl | exact hS7.cell 2 rfl rfl | exact hS7.cell 3 rfl rfl)) ?_
 refine vc_p rfl rfl rfl (fun _ => (ev_nilCheck rfl)) ?_
 refine vc_p rfl rfl rfl (fun _ => (ev_fieldAddr rfl fo_73_0)) ?_
 refine vc_q rfl rfl rfl (ev_load rfl ag_25 (by first | assumption | exact hS7.cell 1 rfl rfl | exact hS7.cell 2 rfl rfl | exact hS7.cell 3 rfl rfl)) ?_
 refine vc_q rfl rfl rfl (ev_load rfl ag_27 (by first | assumption | exact hS7.cell 1 rfl rfl | exact hS7.cell 2 rfl rfl | exact hS7.cell 3 rfl rfl)) ?_
 refine vc_p rfl rfl rfl (fun _ => (ev_nilCheck rfl)) ?_
 refine vc_p rfl rfl rfl (fun _ => (ev_fieldAddr rfl fo_73_1)) ?_
 refine vc_q rfl rfl rfl (ev_load rfl ag_3 (by first | assumption | exact hS7.cell 1 rfl rfl | exact hS7.cell 2 rfl rfl | exact hS7.cell 3 rfl rfl)) ?_
 refine vc_p rfl rfl rfl (fun _ => (ev_add rfl rfl (by omega) (by omega))) ?_
 refine vc_p rfl rfl rfl (fun _ => (ev_move rfl)) ?_
 refine vc_s rfl rfl rfl rfl rfl rfl ?_
 have hC8 := hS7.split [4] [false, false, false, false, true, false] rfl; dsimp only [selF, pickA, nthA, List.cons_append, List.nil_append] at hC8
 refine wl_call cal_31 rfl (dreadT hC8 (base + 1) 0 n) rfl ?_
 rintro e w8 ⟨_, rfl, rfl, hS8⟩; refine ⟨_, rfl, ?_⟩
 replace hS8 := hS8.join rfl; dsimp only [List.dropLast, List.cons_append, List.nil_append] at hS8; clear hC8
 clear hS7
 refine vc_e (.skip (by kernel_rfl) (.skip (by kernel_rfl) (.skip (by kernel_rfl) (.skip (by kernel_rfl) .nil)))) ?_
 refine vc_p rfl rfl rfl (fun _ => (ev_move rfl)) ?_
 refine vc_p rfl rfl rfl (fun _ => (ev_extract rfl rfl)) ?_
 refine vc_p rfl rfl rfl (fun _ => (ev_extract rfl rfl)) ?_
 refine vc_p rfl rfl rfl (fun _ => (ev_assign rfl)) ?_
 refine vc_p rfl rfl rfl (fun _ => (ev_assign rfl)) ?_
 refine VC.nil (qs_seq ?_)
 refine wc_sub (L' := [(6, _), (3, _), (2, _), (1, _)]) (.cons rfl (.cons rfl (.cons rfl (.cons rfl .nil)))) ?_
 refine wc_seq (wc_seq (wc_region (wl_move rfl rfl ?_)))
 refine wl_neq rfl rfl rfl ?_
 refine wl_nil (qs_seq ?_)
 refine wc_condD rfl (fun h9 => ?_) (fun h9 => ?_)
 ·have h1 := h9
  refine wc_seq (wc_region (wl_move rfl rfl (wl_assign rfl rfl (wl_nil (qs_seq (wc_ret (qs_then_ret ?_)))))))
  refine fin1 (.inr rfl) rfl rfl ?_
  exact ⟨_, rfl, by rw [replR_b hn h34 h0 h1], by rw [replR_b hn h34 h0 h1]; exact hS8.pick [4, 0, 2, 5] rfl⟩
 have h1 := Decidable.not_not.1 h9
 refine wc_skip (qs_seq (wc_seq ?_))
 have hz := readS_few hIv (base + 1) 0 n
 refine wc_region (wl_move rfl rfl ?_)
 have hC10 := hS8.split [] [false, false, false, false, false, false] rfl; dsimp only [selF, pickA, nthA, List.cons_append, List.nil_append] at hC10
 refine wl_call cal_79 rfl (decode_sp hC10 (hG.starL 5 rfl) (ReadS D (base + 1) 0 n) hz) rfl ?_
 rintro e w10 ⟨_, rfl, lv, rfl, hS10⟩; refine ⟨_, rfl, ?_⟩
 replace hS10 := hS10.join rfl; dsimp only [List.dropLast, List.cons_append, List.nil_append] at hS10; clear hC10
 clear hS8
 refine wl_move rfl rfl (wl_extract rfl rfl rfl (wl_extract rfl rfl rfl ?_))
 refine wl_alloc hS10 zr_32 rfl rfl ?_
 intro bl wbl hSbl
 clear hS10
 first | (refine wl_store hSbl rfl rfl sz_32 (by first | rfl | assumption | exact hSbl.own_one 1 rfl) (i := 0) rfl (by first | decide | exact Nat.le_of_ble_eq_true rfl | (simp; done) | omega) ?_) | (refine wl_store hSbl rfl rfl sz_32 (by first | rfl | assumption | exact hSbl.own_one 1 rfl) (i := 4) rfl (by first | decide | exact Nat.le_of_ble_eq_true rfl | (simp; done) | omega) ?_) | (refine wl_store hSbl rfl rfl sz_32 (by first | rfl | assumption | exact hSbl.own_one 1 rfl) (i := 5) rfl (by first | decide | exact Nat.le_of_ble_eq_true rfl | (simp; done) | omega) ?_) | (refine wl_store hSbl rfl rfl sz_32 (by first | rfl | assumption | exact hSbl.own_one 1 rfl) (i := 6) rfl (by first | decide | exact Nat.le_of_ble_eq_true rfl | (simp; done) | omega) ?_)
 intro w11 hS12; dsimp only [List.set] at hS12
 clear hSbl
 refine wl_assign rfl rfl (wl_nil (qs_seq ?_))
 refine wc_sub (L' := [(8, _), (7, _), (2, _), (1, _)]) (.cons rfl (.cons rfl (.cons rfl (.cons rfl .nil)))) ?_
 refine wc_seq (wc_seq (wc_region (wl_move rfl rfl ?_)))
 refine wl_not rfl rfl ?_
 refine wl_nil (qs_seq ?_)
 refine wc_cond rfl (fun h13 => ?_) (fun h13 => ?_)
 ·have hok : okJ (ReadS D (base + 1) 0 n) = false := by simpa using h13
  refine wc_seq (wc_region (wl_assign rfl rfl (wl_nil (qs_seq (wc_ret (qs_then_ret ?_))))))
  refine fin1 (.inr rfl) rfl rfl ?_
  exact ⟨_, rfl, by rw [replR_c hn h34 h0 h1 hok], by rw [replR_c hn h34 h0 h1 hok]; exact hS12.pick [6, 2, 4, 7] rfl⟩
 have hok : okJ (ReadS D (base + 1) 0 n) = true := by simpa using h13
 refine wc_skip (qs_seq (wc_seq (wc_region ?_)))
 refine wl_makeFunc rfl rfl ?_
 refine wl_makeFunc rfl rfl ?_
 refine wl_rowBuild fnC [⟨80, [], [ptrV bj 0, ptrV bl 0]⟩, ⟨81, [], [ptrV bj 0]⟩] hS12 rfl Tryz.underlying112 ifz_75 rfl rfl rfl rfl (by first | rfl | simp [RowC.cells, fillL, splice]) rfl ?_
 intro b14 w14 hS14
 clear hS12
 have hA := hS14.pick [2, 8, 7, 3, 5, 6, 1, 0, 4] rfl
 have hB := Sat.fold (As := [rowT jbC lv (rawJ (ReadS D (base + 1) 0 n)), F]) hA
 have hD := Sat.fold (As := [rowT fnC _ _, readT _ _]) (hB.reorder [6, 7, 1, 2, 3, 4, 5, 0] rfl)
 have hE := tR_shut (x := (D, C)) (hD.reorder [1, 2, 3, 4, 5, 0, 6] rfl)
 have hG9 := ((hE.reorder [2, 0, 1] rfl).flat).reorder [2, 3, 0, 1] rfl; dsimp only [pickA, nthA, List.cons_append, List.nil_append] at hG9
 have hrr := (right_mem (okJ_right hok)).2
 have hraw9 := raw_fit (ReadS D (base + 1) 0 n)
 refine wl_call cal_36 rfl (write1_sp (gs := [gHome base (rawJ (ReadS D (base + 1) 0 n)), gNote 0]) (stp_cons (stp80 hb (hG.starL 1 rfl) (hO.starL 1 rfl) (Ent.starL (ent_row (C := jbC) (l := rawJ (ReadS D (base + 1) 0 n)) (by omega)) 0 rfl) hrr) (stp_cons (stp81 hb (hG.starL 1 rfl) (hO.starL 1 rfl) (Ent.starL (ent_row (C := jbC) (l := rawJ (ReadS D (base + 1) 0 n)) (by omega)) 0 rfl) hrr) stp_nil)) rfl (by simp) (D, C) hC hG9) rfl ?_
 rintro e w9 ⟨_, rfl, rfl, hI9, hS9⟩; refine ⟨_, rfl, ?_⟩
 rw [run_end] at hS9 hI9 ⊢
 have hT := tR_open ((Sat.fold (As := [rowT fnC _ _, readT _ _]) (hS9.reorder [2, 3, 0, 1] rfl)).reorder [1, 2, 0] rfl)
 have hU := ((hT.reorder [6, 0, 1, 2, 3, 4, 5] rfl).flat).pick [2, 3, 4, 1] rfl; dsimp only [pickA, nthA, List.cons_append, List.nil_append] at hU
 clear hS14
 refine wl_assign rfl rfl (wl_nil (qs_seq (wc_ret ?_)))
 refine fin1 (.inr rfl) rfl rfl ?_
 exact ⟨_, rfl, by rw [replR_d hn h34 h0 h1 hok]; rfl, by rw [replR_d hn h34 h0 h1 hok]; exact hU.pick [0, 1, 2, 3] rfl⟩
def tK (jp dp cp mb : Nat) (base : Int) (bad : Bool) (x : DS × CS × (Int → Bytes)) : Th := starL [blkT jp (jV dp base cp mb bad), dT dp x.1, blkT cp (cellV dp x.2.1), mapT intK mb (jmG x.2.2)]
def slotK (x : DS × CS × (Int → Bytes)) : Prop := CokJ x.2.1
def gRepl (base : Int) (x : DS × CS × (Int → Bytes)) : Int × (DS × CS × (Int → Bytes)) := ((replR x.1 base x.2.1).e, ((replR x.1 base x.2.1).D, ((replR x.1 base x.2.1).C, x.2.2)))
def gLoad (base : Int) (x : DS × CS × (Int → Bytes)) : Int × (DS × CS × (Int → Bytes)) := (mayE x.1 base, (x.1, (x.2.1, if mayE x.1 base = 0 then loadF x.2.2 (x.1.F base).1 else x.2.2)))
section
variable {jp dp cp mb : Nat} {base : Int} {bad : Bool} {F : Th} (hb : 0 ≤ base ∧ base ≤ 13) (hG : Ent F WireG) (hO : Ent F (Glob 0))
include hb hG hO
theorem stp_repl : Stp Tryz.prog (tK jp dp cp mb base bad) F slotK ⟨37, [ptrV jp 0], []⟩ (gRepl base) := by
  refine ⟨cal_37, fun x w X hI hS => ?_⟩
  have h1 := hS.flat; dsimp only [List.cons_append, List.nil_append] at h1
  have h2 := h1.split [0, 1, 2] [true, true, true, false, false, false] rfl; dsimp only [selF, pickA, nthA, List.cons_append, List.nil_append] at h2
  refine (replay_sp h2 (hG.starL 1 rfl) (hO.starL 1 rfl) hb hI).mono fun e w' h => h.mono fun v w' ⟨h3, h4⟩ => ⟨h3, replR_cok hI, ?_⟩
  have h5 := h4.join rfl; dsimp only [List.dropLast, List.cons_append, List.nil_append] at h5
  exact Sat.fold (As := [blkT jp _, dT dp _, blkT cp _, mapT intK mb _]) h5
end
theorem stp_load {jp dp cp mb : Nat} {base : Int} {bad : Bool} {F : Th} : Stp Tryz.prog (tK jp dp cp mb base bad) F slotK ⟨38, [ptrV jp 0], []⟩ (gLoad base) := by
  refine ⟨cal_38, fun x w X hI hS => ?_⟩
  have h1 := hS.flat; dsimp only [List.cons_append, List.nil_append] at h1
  have h2 := h1.split [0, 1, 3] [true, true, false, true, false, false] rfl; dsimp only [selF, pickA, nthA, List.cons_append, List.nil_append] at h2
  refine (load_sp h2).mono fun e w' h => h.mono fun v w' ⟨h3, h4⟩ => ⟨h3, hI, ?_⟩
  have h5 := h4.join rfl; dsimp only [List.dropLast, List.cons_append, List.nil_append] at h5
  exact Sat.fold (As := [blkT jp _, dT dp _, blkT cp _, mapT intK mb _]) (h5.reorder [0, 1, 3, 2, 4, 5] rfl)
def JokJ (J : JS) : Prop := CokJ J.C ∧ (0 ≤ J.base ∧ J.base ≤ 13) ∧ Ran J.B
def jT (jp dp : Nat) (J : JS) : Th := exT fun q : Nat × Nat => starL [pureT (JokJ J), blkT jp (jV dp J.base q.1 q.2 J.bad), blkT q.1 (cellV dp J.C), mapT intK q.2 (jmG J.B)]
theorem jT_open {w : World} {jp dp : Nat} {J : JS} {As : List Th} (h : Sat w (jT jp dp J :: As)) : ∃ cp mb, JokJ J ∧ Sat w (blkT jp (jV dp J.base cp mb J.bad) :: blkT cp (cellV dp J.C) :: mapT intK mb (jmG J.B) :: As) := by
  obtain ⟨⟨cp, mb⟩, h⟩ := h.ex
  exact ⟨cp, mb, h.flat.pure_elim⟩
theorem jT_shut {w : World} {jp dp cp mb : Nat} {J : JS} {As : List Th} (hJ : JokJ J) (h : Sat w (blkT jp (jV dp J.base cp mb J.bad) :: blkT cp (cellV dp J.C) :: mapT intK mb (jmG J.B) :: As)) : Sat w (jT jp dp J :: As) :=
  Sat.ex_intro (cp, mb) (Sat.fold (As := [pureT (JokJ J), blkT jp (jV dp J.base cp mb J.bad), blkT cp (cellV dp J.C), mapT intK mb (jmG J.B)]) (Sat.pure_intro hJ h))
/-- what the two steps of Open make -/
def opR (D : DS) (f : Int) : Int × (DS × CS × (Int → Bytes)) := runW [gRepl f, gLoad f] (D, (openC D (f + 2), fun _ => []))
section
variable {D : DS} {f : Int}
theorem openJ_a (h : f < 0 ∨ 13 < f) : (openJ D f).e = 1 ∧ (openJ D f).D = D := by unfold openJ; rw [if_pos h]; exact ⟨rfl, rfl⟩
theorem openJ_b (h : ¬ (f < 0 ∨ 13 < f)) (h1 : openE D (f + 2) ≠ 0) : (openJ D f).e = openE D (f + 2) ∧ (openJ D f).D = D := by unfold openJ; rw [if_neg h, if_pos h1]; exact ⟨rfl, rfl⟩
theorem opR_a (h : (replR D f (openC D (f + 2))).e ≠ 0) : opR D f = ((replR D f (openC D (f + 2))).e, ((replR D f (openC D (f + 2))).D, ((replR D f (openC D (f + 2))).C, fun _ => []))) := by
  unfold opR; rw [runW_cons]; exact if_pos h
theorem opR_b (h : (replR D f (openC D (f + 2))).e = 0) : opR D f = (mayE (replR D f (openC D (f + 2))).D f, ((replR D f (openC D (f + 2))).D, ((replR D f (openC D (f + 2))).C, if mayE (replR D f (openC D (f + 2))).D f = 0 then loadF (fun _ => []) ((replR D f (openC D (f + 2))).D.F f).1 else fun _ => []))) := by
  unfold opR; rw [runW_cons, runW_one]; exact if_neg (fun q => q h)
theorem openJ_c (h : ¬ (f < 0 ∨ 13 < f)) (h1 : openE D (f + 2) = 0) : (openJ D f).e = (opR D f).1 ∧ (openJ D f).D = (opR D f).2.1 ∧ ((opR D f).1 = 0 → (openJ D f).J = ⟨f, (opR D f).2.2.1, (opR D f).2.2.2, false⟩ ∧ Ran (opR D f).2.2.2) := by
  by_cases h2 : (replR D f (openC D (f + 2))).e = 0
  · rw [opR_b h2]
    unfold openJ
    rw [if_neg h, if_neg (fun q => q h1), if_neg (fun q => q h2)]
    by_cases h3 : mayE (replR D f (openC D (f + 2))).D f = 0
    · rw [if_neg (fun q => q h3), if_pos h3, loadF_nil]
      exact ⟨h3.symm, rfl, fun _ => ⟨rfl, loadB_ran _⟩⟩
    · rw [if_pos h3]
      exact ⟨rfl, rfl, fun q => absurd q h3⟩
  · rw [opR_a h2]
    unfold openJ
    rw [if_neg h, if_neg (fun q => q h1), if_pos h2]
    exact ⟨rfl, rfl, fun q => absurd q h2⟩
end
set_option maxRecDepth 100000 in
theorem jopen_sp {w : World} {dp : Nat} {D : DS} {F : Th} (hS : Sat w [dT dp D, F]) (hG : Ent F WireG) (hO : Ent F (Glob 0)) (base : Int) :
    Calls Tryz.prog 9 #[ptrV dp 0, intV base] w (Ret fun v w' => ((openJ D base).e = 0 ∧ ∃ jp, v = .tuple #[ptrV jp 0, intV 0] ∧ Sat w' [jT jp dp (openJ D base).J, dT dp (openJ D base).D, F]) ∨ ((openJ D base).e ≠ 0 ∧ v = .tuple #[.pointer none, intV (openJ D base).e] ∧ Sat w' [dT dp (openJ D base).D, F])) := by
 refine calls_enter Tryz.func9 rfl Tryz.ntmps9 rfl ?_
 refine wc_seq (wc_region (wl_assign rfl rfl (wl_assign rfl rfl (wl_nil (qs_seq (wc_seq (wc_seq (wc_region (wl_move rfl rfl ?_)))))))))
 refine wl_lss rfl rfl rfl ?_
 refine wl_move rfl rfl ?_
 refine wl_splitD 12 rfl (fun h1 => ?_) (fun h1 => ?_)
 ·refine wl_unwanted rfl rfl (decide_eq_true h1) rfl ?_
  refine wl_unwanted rfl rfl (decide_eq_true h1) rfl ?_
  refine wl_pickT rfl (decide_eq_true h1) rfl rfl ?_
  refine wl_nil (qs_seq ?_)
  refine wc_condT rfl ?_
  refine wc_seq (wc_region (wl_assign rfl rfl (wl_assign rfl rfl (wl_nil (qs_seq (wc_ret (qs_then_ret ?_)))))))
  refine fin2 (.inr rfl) rfl rfl rfl ?_
  obtain ⟨q1, q2⟩ := openJ_a (D := D) (f := base) (by omega)
  exact ⟨_, rfl, .inr ⟨by rw [q1]; decide, by rw [q1], by rw [q2]; exact hS.pick [0, 1] rfl⟩⟩
 refine wl_guard rfl rfl (decide_eq_false h1) ?_
 refine wl_move rfl rfl ?_
 refine wl_guard rfl rfl (decide_eq_false h1) ?_
 refine wl_gtr rfl rfl rfl ?_
 refine wl_pickF rfl (decide_eq_false h1) rfl rfl ?_
 refine wl_nil (qs_seq ?_)
 refine wc_condD rfl (fun h2 => ?_) (fun h2 => ?_)
 ·refine wc_seq (wc_region (wl_assign rfl rfl (wl_assign rfl rfl (wl_nil (qs_seq (wc_ret (qs_then_ret ?_)))))))
  refine fin2 (.inr rfl) rfl rfl rfl ?_
  obtain ⟨q1, q2⟩ := openJ_a (D := D) (f := base) (by omega)
  exact ⟨_, rfl, .inr ⟨by rw [q1]; decide, by rw [q1], by rw [q2]; exact hS.pick [0, 1] rfl⟩⟩
 have hb : 0 ≤ base ∧ base ≤ 13 := by omega
 refine wc_skip (qs_seq (wc_seq (wc_region (wl_move rfl rfl (wl_move rfl rfl ?_)))))
 refine wl_add rfl rfl (by omega) (by omega) rfl ?_
 have hC3 := hS.split [0] [true, false] rfl; dsimp only [selF, pickA, nthA, List.cons_append, List.nil_append] at hC3
 refine wl_call cal_35 rfl (open_sp hC3 (hO.starL 0 rfl) (base + 2)) rfl ?_
 rintro e w3 ⟨_, rfl, (⟨hE1, cp, rfl, hS3⟩ | ⟨hE1, rfl, hS3⟩)⟩
 ·refine ⟨_, rfl, ?_⟩
  replace hS3 := hS3.join rfl; dsimp only [List.dropLast, List.cons_append, List.nil_append] at hS3; clear hC3
  refine wl_move rfl rfl (wl_extract rfl rfl rfl (wl_extract rfl rfl rfl (wl_assign rfl rfl (wl_assign rfl rfl (wl_nil (qs_seq ?_))))))
  refine wc_sub (L' := [(7, _), (6, _), (5, _), (4, _), (0, _), (1, _)]) (.cons rfl (.cons rfl (.cons rfl (.cons rfl (.cons rfl (.cons rfl .nil)))))) ?_
  refine wc_seq (wc_seq (wc_region (wl_move rfl rfl ?_)))
  refine wl_neq rfl rfl rfl ?_
  refine wl_nil (qs_seq ?_)
  refine wc_condD rfl (fun h4 => ?_) (fun h4 => ?_)
  ·exact absurd rfl h4
  refine wc_skip (qs_seq (wc_seq (wc_region (wl_move rfl rfl (wl_move rfl rfl (wl_move rfl rfl ?_))))))
  refine wl_makeMap intK hS3 rfl ?_
  intro mb wmb hSmb
  clear hS3
  refine wl_buildS rfl pl_73_0_1_2_3 asz_73 zr_73 rfl rfl ?_
  refine wl_box hSmb rfl rfl rfl ?_
  intro jp wjp hSjp0
  rw [← jm_nil] at hSjp0
  have hSjp : Sat wjp [blkT jp (jV dp base cp mb false), mapT intK mb (jmG fun _ => []), blkT cp (cellV dp (openC D (base + 2))), dT dp D, F] := hSjp0
  clear hSmb
  refine wl_assign rfl rfl (wl_nil (qs_seq ?_))
  refine wc_sub (L' := [(8, _), (5, _), (4, _)]) (.cons rfl (.cons rfl (.cons rfl .nil))) ?_
  refine wc_seq (wc_seq (wc_region (wl_move rfl rfl ?_)))
  refine wl_makeBound rfl rfl ?_
  refine wl_move rfl rfl ?_
  refine wl_makeBound rfl rfl ?_
  refine wl_rowBuild fnC [⟨37, [ptrV jp 0], []⟩, ⟨38, [ptrV jp 0], []⟩] hSjp rfl Tryz.underlying112 ifz_75 rfl rfl rfl rfl (by first | rfl | simp [RowC.cells, fillL, splice]) rfl ?_
  intro b5 w5 hS5
  clear hSjp
  have hA := Sat.fold (As := [blkT jp (jV dp base cp mb false), dT dp D, blkT cp (cellV dp (openC D (base + 2))), mapT intK mb (jmG fun _ => [])]) (hS5.pick [1, 4, 3, 2, 5, 0] rfl)
  have hB := (Sat.pure_intro (φ := True) trivial hA).reorder [1, 2, 3, 0] rfl; dsimp only [pickA, nthA] at hB
  refine wl_call cal_36 rfl (write1_sp (T := tK jp dp cp mb base false) (gs := [gRepl base, gLoad base]) (stp_cons (stp_repl hb hG hO) (stp_cons stp_load stp_nil)) rfl (by simp) (D, (openC D (base + 2), fun _ => [])) (openC_cok _ _) hB) rfl ?_
  rintro e w9 ⟨_, rfl, rfl, hI9, hS9⟩; refine ⟨_, rfl, ?_⟩
  have hR9 : runW [gRepl base, gLoad base] (D, (openC D (base + 2), fun _ => [])) = opR D base := rfl
  rw [hR9] at hS9 hI9 ⊢
  have hU := hS9.flat; dsimp only [List.cons_append, List.nil_append] at hU
  clear hS5
  refine wl_assign rfl rfl (wl_nil (qs_seq (wc_seq (wc_region (wl_move rfl rfl ?_)))))
  refine wl_neq rfl rfl rfl ?_
  refine wl_nil (qs_seq ?_)
  refine wc_sub (L' := [(39, _), (9, _), (8, _), (5, _), (4, _)]) (.cons rfl (.cons rfl (.cons rfl (.cons rfl (.cons rfl .nil))))) ?_
  refine wc_condD rfl (fun h6 => ?_) (fun h6 => ?_)
  ·refine wc_seq (wc_region (wl_move rfl rfl (wl_assign rfl rfl (wl_assign rfl rfl (wl_nil (qs_seq (wc_ret (qs_then_ret ?_))))))))
   refine fin2 (.inr rfl) rfl rfl rfl ?_
   obtain ⟨q1, q2, q3⟩ := openJ_c (D := D) (f := base) (by omega) hE1
   exact ⟨_, rfl, .inr ⟨by rw [q1]; assumption, by rw [q1], by rw [q2]; exact hU.pick [1, 4] rfl⟩⟩
  refine wc_skip (qs_seq (wc_seq (wc_region (wl_move rfl rfl (wl_assign rfl rfl (wl_assign rfl rfl (wl_nil (qs_seq (wc_ret ?_)))))))))
  refine fin2 (.inr rfl) rfl rfl rfl ?_
  obtain ⟨q1, q2, q3⟩ := openJ_c (D := D) (f := base) (by omega) hE1
  obtain ⟨q4, q5⟩ := q3 (Decidable.not_not.1 (by assumption))
  exact ⟨_, rfl, .inl ⟨by rw [q1]; exact Decidable.not_not.1 (by assumption), _, rfl, by rw [q2, q4]; exact jT_shut (J := ⟨base, (opR D base).2.2.1, (opR D base).2.2.2, false⟩) ⟨hI9, hb, q5⟩ (hU.pick [0, 2, 3, 1, 4] rfl)⟩⟩
 refine ⟨_, rfl, ?_⟩
 replace hS3 := hS3.join rfl; dsimp only [List.dropLast, List.cons_append, List.nil_append] at hS3; clear hC3
 refine wl_move rfl rfl (wl_extract rfl rfl rfl (wl_extract rfl rfl rfl (wl_assign rfl rfl (wl_assign rfl rfl (wl_nil (qs_seq ?_))))))
 refine wc_sub (L' := [(7, _), (6, _), (5, _), (4, _), (0, _), (1, _)]) (.cons rfl (.cons rfl (.cons rfl (.cons rfl (.cons rfl (.cons rfl .nil)))))) ?_
 refine wc_seq (wc_seq (wc_region (wl_move rfl rfl ?_)))
 refine wl_neq rfl rfl rfl ?_
 refine wl_nil (qs_seq ?_)
 refine wc_condD rfl (fun h7 => ?_) (fun h7 => ?_)
 ·refine wc_seq (wc_region (wl_move rfl rfl (wl_assign rfl rfl (wl_assign rfl rfl (wl_nil (qs_seq (wc_ret (qs_then_ret ?_))))))))
  refine fin2 (.inr rfl) rfl rfl rfl ?_
  obtain ⟨q1, q2⟩ := openJ_b (D := D) (f := base) (by omega) hE1
  exact ⟨_, rfl, .inr ⟨by rw [q1]; exact hE1, by rw [q1], by rw [q2]; exact hS3.pick [0, 1] rfl⟩⟩
 exact absurd h7 (by simpa using hE1)
end Go.Proofs.YtfmkodmmbgibgaaGreatDoor
/- A region that draws its order, where operations that change things may come in more than one order: by cases on which of two comes first. Conditions: the rule's own hypotheses. -/
namespace Go.Proofs.YtfmkodmmbgibgaaGreatDoor.M
open Go.RowKit
/-- s lists operations as a draw may, from what is listed on -/
def Sch (l : Array Oper) : Array Bool → List Nat → Prop
  | listed, [] => Region.ready .any l listed = []
  | listed, i :: s => i ∈ Region.ready .any l listed ∧ Sch l (listed.setIfInBounds i true) s
theorem ready_eq (ops : Array Oper) (listed : Array Bool) : Region.ready .any ops listed = (List.range ops.size).filter fun i => !listed.getD i true && ((ops[i]?).map (·.after.all fun e => !Region.binds .any e || listed.getD e.on false)).getD false := rfl
theorem getD_true {listed : Array Bool} {i : Nat} (h : (!listed.getD i true) = true) : i < listed.size ∧ listed.getD i false = false := by
  have hi : i < listed.size := by
    rcases Nat.lt_or_ge i listed.size with q | q
    · exact q
    · simp [Array.getD, Nat.not_lt.2 q] at h
  refine ⟨hi, ?_⟩
  simp [Array.getD, hi] at h ⊢
  exact h
theorem ready_lt {l : Array Oper} {listed : Array Bool} {i : Nat} (h : i ∈ Region.ready .any l listed) : i < l.size ∧ i < listed.size ∧ listed.getD i false = false := by
  rw [ready_eq] at h
  simp only [List.mem_filter, List.mem_range, Bool.and_eq_true] at h
  have := getD_true h.2.1
  exact ⟨h.1, this.1, this.2⟩
theorem go_sch (l : Array Oper) : ∀ (fuel t : Nat) (listed : Array Bool), todoN listed l.size ≤ fuel → Sch l listed (Region.linearise.go .any l fuel t listed [])
  | 0, t, listed, h => by
    simp only [Region.linearise.go, List.reverse_nil, Sch]
    cases hr : Region.ready .any l listed with
    | nil => rfl
    | cons i rs =>
      have hm : i ∈ Region.ready .any l listed := by rw [hr]; simp
      obtain ⟨h1, _, h2⟩ := ready_lt hm
      have h3 : i ∈ (List.range l.size).filter fun i => !listed.getD i false := by simp only [List.mem_filter, List.mem_range, h2]; exact ⟨h1, rfl⟩
      have h4 : ((List.range l.size).filter fun i => !listed.getD i false) = [] := List.eq_nil_of_length_eq_zero (by unfold todoN at h; omega)
      rw [h4] at h3; cases h3
  | fuel + 1, t, listed, h => by
    simp only [Region.linearise.go]
    change Sch l listed (match (Region.ready .any l listed)[t % (Region.ready .any l listed).length]? with
      | some i => Region.linearise.go .any l fuel (t / (Region.ready .any l listed).length) (listed.setIfInBounds i true) [i]
      | none => [].reverse)
    cases hi : (Region.ready .any l listed)[t % (Region.ready .any l listed).length]? with
    | none =>
      simp only [List.reverse_nil, Sch]
      cases hr : Region.ready .any l listed with
      | nil => rfl
      | cons x xs =>
        rw [hr] at hi
        have hlt : t % (x :: xs).length < (x :: xs).length := Nat.mod_lt _ (by simp)
        rw [List.getElem?_eq_getElem hlt] at hi; cases hi
    | some i =>
      simp only []
      have hm := List.mem_of_getElem? hi
      obtain ⟨h1, h2, h3⟩ := ready_lt hm
      rw [linearise_go_acc, List.reverse_singleton, List.singleton_append]
      refine ⟨hm, go_sch l fuel _ _ ?_⟩
      have := todoN_set h1 h2 h3
      omega
theorem any_sch {P : Program} {l : Array Oper} {Q : Exit → Act → World → Prop} : ∀ (s : List Nat) (fuel : Nat) (listed : Array Bool) (a : Act) (w : World), wpAny P .any l Q fuel listed a w → Sch l listed s → wpOps P l Q s a w
  | [], 0, _, _, _, h, _ => h.2
  | [], _ + 1, _, _, _, h, hs => h.1 hs
  | i :: s, 0, _, _, _, h, hs => by have := hs.1; rw [h.1] at this; cases this
  | i :: s, fuel + 1, _, _, _, h, hs => by
    rw [wpOps_cons]
    exact wpOp_mono (fun a w hk => any_sch s fuel _ a w hk hs.2) (h.2 i hs.1)
/-- what is done does not ask what stands before it -/
structure AlikeO (l l' : Array Oper) : Prop where
  at_ : ∀ i : Nat, (l[i]?).map (fun (o : Oper) => (o.dst, o.op, o.type, o.pos, o.guard)) = (l'[i]?).map (fun (o : Oper) => (o.dst, o.op, o.type, o.pos, o.guard))
theorem AlikeO.yielded {l l' : Array Oper} (h : AlikeO l l') (tmps : Array Value) : yielded l tmps = yielded l' tmps := by
  funext j
  have := h.at_ j
  unfold Go.yielded
  have e : (l[j]?).bind (·.dst) = (l'[j]?).bind (·.dst) := by
    cases h1 : l[j]? <;> cases h2 : l'[j]? <;> simp [h1, h2] at this ⊢
    exact this.1
  rw [e]
theorem AlikeO.wpOps {P : Program} {Q : Exit → Act → World → Prop} {l l' : Array Oper} (h : AlikeO l l') : ∀ (s : List Nat) (a : Act) (w : World), wpOps P l' Q s a w → wpOps P l Q s a w
  | [], _, _, hh => hh
  | i :: s, a, w, hh => by
    rw [wpOps_cons] at hh ⊢
    have hh2 := wpOp_mono (fun a w => h.wpOps s a w) hh
    have hi := h.at_ i
    unfold wpOp at hh2 ⊢
    cases h1 : l[i]? with
    | none =>
      cases h2 : l'[i]? with
      | none => rw [h2] at hh2; exact hh2
      | some o' => simp [h1, h2] at hi
    | some o =>
      cases h2 : l'[i]? with
      | none => simp [h1, h2] at hi
      | some o' =>
        rw [h2] at hh2
        simp only at hh2 ⊢
        obtain ⟨d, op, ty, pos, aft, g⟩ := o
        obtain ⟨d', op', ty', pos', aft', g'⟩ := o'
        simp [h1, h2] at hi
        obtain ⟨rfl, rfl, rfl, rfl, rfl⟩ := hi
        rw [h.yielded]
        have he : ∀ ρ : Operand → Value, execOp ρ ⟨d, op, ty, pos, aft, g⟩ = execOp ρ ⟨d, op, ty, pos, aft', g⟩ := by intro ρ; cases op <;> rfl
        have hw : Region.wanted ⟨d, op, ty, pos, aft, g⟩ (Go.yielded l' a.tmps) = Region.wanted ⟨d, op, ty, pos, aft', g⟩ (Go.yielded l' a.tmps) := rfl
        rw [hw]
        split
        · rename_i hwt
          rw [if_pos hwt] at hh2
          rcases hh2 with hq | ⟨hq, hl⟩
          · left
            unfold Oper.wp at hq ⊢
            rw [he]
            generalize (execOp a.eval ⟨d, op, ty, pos, aft', g⟩).run P w = r at hq ⊢
            cases r with
            | ok m w' => cases m <;> exact hq
            | halt x w' => cases x <;> exact hq
          · right
            refine ⟨?_, hl⟩
            unfold Oper.asks at hq ⊢
            rw [he]; exact hq
        · rename_i hwt
          rw [if_neg hwt] at hh2
          exact hh2
/-- operation i stands behind operation x, too -/
def addE : List Oper → Nat → Nat → List Oper
  | [], _, _ => []
  | o :: l, 0, x => { o with after := o.after.push ⟨x, .chain⟩ } :: l
  | o :: l, i + 1, x => o :: addE l i x
theorem addE_length : ∀ (l : List Oper) (i x : Nat), (addE l i x).length = l.length
  | [], _, _ => rfl
  | _ :: _, 0, _ => rfl
  | _ :: l, i + 1, x => by simp [addE, addE_length l i x]
theorem addE_get : ∀ (l : List Oper) (i x k : Nat), (addE l i x)[k]? = if k = i then (l[k]?).map (fun (o : Oper) => { o with after := o.after.push ⟨x, .chain⟩ }) else l[k]?
  | [], i, x, k => by simp [addE]
  | o :: l, 0, x, 0 => by simp [addE]
  | o :: l, 0, x, k + 1 => by simp [addE]
  | o :: l, i + 1, x, 0 => by simp [addE]
  | o :: l, i + 1, x, k + 1 => by simp [addE, addE_get l i x k]
theorem addE_ready {l : List Oper} {i x k : Nat} {listed : Array Bool} : k ∈ Region.ready .any (addE l i x).toArray listed ↔ k ∈ Region.ready .any l.toArray listed ∧ (k = i → listed.getD x false = true) := by
  rw [ready_eq, ready_eq]
  simp only [List.mem_filter, List.mem_range, List.size_toArray, addE_length, List.getElem?_toArray, addE_get, Bool.and_eq_true]
  by_cases hk : k = i
  · subst hk
    simp only [if_true]
    cases hl : l[k]? with
    | none => simp
    | some o => simp [Region.binds]; exact ⟨fun ⟨h1, h2, h3, h4⟩ => ⟨⟨h1, h2, h3⟩, h4⟩, fun ⟨⟨h1, h2, h3⟩, h4⟩ => ⟨h1, h2, h3, h4⟩⟩
  · simp [hk]
theorem addE_alike (l : List Oper) (i x : Nat) : AlikeO l.toArray (addE l i x).toArray := ⟨fun k => by
  simp only [List.getElem?_toArray, addE_get]
  split
  · cases l[k]? <;> rfl
  · rfl⟩
theorem AlikeO.trans {l l' l2 : Array Oper} (h : AlikeO l l') (g : AlikeO l' l2) : AlikeO l l2 := ⟨fun i => (h.at_ i).trans (g.at_ i)⟩
theorem AlikeO.refl (l : Array Oper) : AlikeO l l := ⟨fun _ => rfl⟩
theorem sch_add {l : List Oper} {i x : Nat} : ∀ (s : List Nat) (listed : Array Bool), Sch l.toArray listed s → (∀ p q, s = p ++ i :: q → listed.getD x false = true ∨ x ∈ p) → Sch (addE l i x).toArray listed s
  | [], listed, h, _ => by
    unfold Sch at h ⊢
    cases hr : Region.ready .any (addE l i x).toArray listed with
    | nil => rfl
    | cons k rs =>
      have hm : k ∈ Region.ready .any (addE l i x).toArray listed := by rw [hr]; simp
      have := (addE_ready.1 hm).1
      rw [h] at this; cases this
  | k :: s, listed, h, hx => by
    obtain ⟨h1, h2⟩ := h
    refine ⟨addE_ready.2 ⟨h1, fun e => ?_⟩, sch_add s _ h2 fun p q e => ?_⟩
    · subst e
      rcases hx [] s rfl with h3 | h3
      · exact h3
      · cases h3
    · rcases hx (k :: p) q (by rw [e]; rfl) with h3 | h3
      · left
        by_cases hkx : k = x
        · subst hkx; exact getD_set_same (ready_lt h1).2.1
        · rw [getD_set_other (fun e => hkx e.symm)]; exact h3
      · rcases List.mem_cons.1 h3 with h4 | h4
        · subst h4; exact .inl (getD_set_same (ready_lt h1).2.1)
        · exact .inr h4
theorem first_of (s : List Nat) {x y : Nat} (hne : x ≠ y) : (∀ p q, s = p ++ y :: q → x ∈ p) ∨ (∀ p q, s = p ++ x :: q → y ∈ p) := by
  by_cases h : ∀ p q, s = p ++ y :: q → x ∈ p
  · exact .inl h
  · right
    obtain ⟨p, hp⟩ := Classical.not_forall.1 h
    obtain ⟨q, hq⟩ := Classical.not_forall.1 hp
    obtain ⟨e, hx⟩ := Classical.not_imp.1 hq
    intro p' q' e'
    rw [e] at e'
    rcases List.append_eq_append_iff.1 e' with ⟨r, h1, h2⟩ | ⟨r, h1, h2⟩
    · cases r with
      | nil => simp at h2; exact absurd h2.1.symm hne
      | cons r0 r =>
        simp at h2
        rw [h1, h2.1]; simp
    · cases r with
      | nil => simp at h2; exact absurd h2.1 hne
      | cons r0 r =>
        simp at h2
        refine absurd ?_ hx
        rw [h1, h2.1]; simp
section
variable {P : Program} {n : Nat} {l0 l : List Oper} {sp : List Nat} {Q : Exit → Act → World → Prop}
@[irreducible] def DrW (P : Program) (n : Nat) (l0 l : List Oper) (Q : Exit → Act → World → Prop) (L : Env) (w : World) : Prop := AlikeO l0.toArray l.toArray → ∀ s, Sch l.toArray (Array.replicate l.length false) s → ∀ a, Fr n L a → wpOps P l0.toArray Q s a w
theorem wc_draws {id : Nat} {L : Env} {w : World} (hm : P.follows .mixedOrders = true) (h : DrW P n l l Q L w.drew) : wc P n (.region id l.toArray true) Q L w := by
  unfold wc
  unfold DrW at h
  intro a ha
  refine wp_region_draw fun t => ?_
  simp only [Region.schedule, hm, Bool.true_or, if_true]
  refine h (AlikeO.refl _) _ ?_ a ha
  have := go_sch l.toArray l.toArray.size t (Array.replicate l.length false) (by
    unfold todoN
    have := List.length_filter_le (fun i => !(Array.replicate l.length false).getD i false) (List.range l.toArray.size)
    simpa using this)
  simpa [Region.linearise] using this
theorem dr_split {L : Env} {w : World} (x y : Nat) (hne : Nat.beq x y = false) (h1 : DrW P n l0 (addE l y x) Q L w) (h2 : DrW P n l0 (addE l x y) Q L w) : DrW P n l0 l Q L w := by
  unfold DrW at *
  intro hal s hs a ha
  rcases first_of s (x := x) (y := y) (fun e => by subst e; rw [Nat.beq_refl] at hne; cases hne) with h | h
  · refine h1 (hal.trans (addE_alike l y x)) s ?_ a ha
    rw [addE_length]
    exact sch_add s _ hs fun p q e => .inr (h p q e)
  · refine h2 (hal.trans (addE_alike l x y)) s ?_ a ha
    rw [addE_length]
    exact sch_add s _ hs fun p q e => .inr (h p q e)
theorem dr_vc {L : Env} {w : World} (ord : List Nat) (hck : drawOk l n ord sp = true) (h : VC P n l (masks l []) sp Q ord L w []) : DrW P n l0 l Q L w := by
  unfold DrW
  intro hal s hs a ha
  refine hal.wpOps s a w (any_sch s l.length _ a w ?_ hs)
  have st := drawOk_spec hck
  have inv0 : Inv P n l sp ord Q a L (Array.replicate l.length false) a w [] ord [] false :=
    { size := by simp, closed := fun i o _ hl => (by rw [getD_replicate_false] at hl; cases hl), order := rfl, vc := h, head := (fun h => by cases h), inD := fun i hl => (by rw [getD_replicate_false] at hl; cases hl),
      spD := by simp, old := fun _ _ => rfl, val := by simp, quiet := (by intro D1 r D2 e; simp at e), again := (by intro D1 r D2 e; simp at e), ops := by simp, tsize := ha.size, defers := ha.defers }
  obtain ⟨D, suf, pf, inv⟩ := inv0.advance st
  have htodo : todoN (Array.replicate l.length false) l.length = l.length := by
    unfold todoN
    rw [List.filter_eq_self.2 (fun i _ => by rw [getD_replicate_false]; rfl)]
    simp
  exact vc_any st ha l.length (Array.replicate l.length false) a w D suf pf inv htodo
end
end Go.Proofs.YtfmkodmmbgibgaaGreatDoor.M
