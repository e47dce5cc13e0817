/- reference 05: Right, Bytes, read, note, home -/
import Derived.Test.YtfmkodmmbgibgaaGreatDoorJl0
import Derived.Test.YtfmkodmmbgibgaaGreatDoorRw1
import Derived.Test.YtfmkodmmbgibgaaGreatDoorRi
import Derived.ChangeKeysEq
import Derived.Laws.StructEq
namespace Go.Proofs.YtfmkodmmbgibgaaGreatDoor
open Go.RowKit M
set_option linter.unusedVariables false
theorem right_no {l : List Blk} {i : Nat} {x : Blk} (hx : l[i]? = some x) (h : okB x = false) : rightJ l = false := by
  unfold rightJ
  have : l.all okB = false := by
    rw [← Bool.not_eq_true, List.all_eq_true]; intro q
    have := q x (List.mem_of_getElem? hx)
    rw [h] at this; cases this
  rw [this, Bool.and_false]
theorem right_yes {l : List Blk} (h : ∀ (j : Nat) (y : Blk), l[j]? = some y → okB y = true) : decide ((l.length : Int) ≤ 2048) = rightJ l := by
  unfold rightJ
  have : l.all okB = true := by
    rw [List.all_eq_true]; intro x hx
    obtain ⟨j, hj⟩ := List.mem_iff_getElem?.1 hx
    exact h j x hj
  rw [this, Bool.and_true]
  exact decide_eq_decide.2 (by omega)
theorem okR_bk {z : St} (h : OkR z) : ∀ k, OkR (bkSt k z)
  | 0 => h
  | k + 1 => ((okR_bk h k).num 59 imin).txt
theorem okR_new (s : Bs) : OkR (numR 59 0 (s, false)) := OkR.num (s := (s, false)) (fun h => by cases h) 59 0
set_option maxRecDepth 100000 in
theorem r5Right_sp {w : World} {F : Th} (hS : Sat w [F]) {lv : Value} {l : List Blk} (hL : Ent F (RdL jbC lv l)) (hln : l.length ≤ 1000000000) :
    Calls Tryz.prog 72 #[lv] w (Ret fun v w' => v = .bool (rightJ l) ∧ Sat w' [F]) := by
 obtain ⟨ao, cap, rfl, hmax⟩ := (hL.sat hS 0 rfl).shape
 refine calls_enter Tryz.func72 rfl Tryz.ntmps72 rfl ?_
 refine wc_seq (wc_region (wl_assign rfl rfl (wl_nil (qs_seq (wc_seq (wc_seq (wc_region (wl_assign rfl rfl (wl_nil (qs_seq (wc_block ?_)))))))))))
 refine wc_loop (fun K0 E0 W0 => ∃ (i : Nat), K0 = l.length - i ∧ E0 = [(0, .slice ao l.length cap), (3, intV (i : Int))] ∧ Sat W0 [F] ∧ (i ≤ l.length) ∧ (∀ j y, j < i → l[j]? = some y → okB y = true)) (L0 := [(0, _), (3, _)]) (l.length - 0) (.cons rfl (.cons rfl .nil)) ⟨0, rfl, rfl, hS, by omega, by omega⟩ ?_
 rintro _ _ w1 ⟨i, rfl, rfl, hS1, hi, hok⟩
 refine wc_seq (wc_seq (wc_region (wl_move rfl rfl (wl_move rfl rfl ?_))))
 refine wl_lenL Tryz.underlying32 rfl rfl ?_
 refine wl_lss rfl rfl rfl ?_
 refine wl_nil (qs_seq ?_)
 refine wc_condD rfl (fun h2 => ?_) (fun h2 => ?_)
 ·obtain ⟨x, hx⟩ : ∃ x, l[i]? = some x := ⟨_, List.getElem?_eq_getElem (by omega)⟩
  obtain ⟨b, off, rfl, hc⟩ := (hL.sat hS1 0 rfl).get hx
  refine wc_skip (qs_seq (wc_seq (wc_block (wc_seq (wc_region (wl_move rfl rfl (wl_move rfl rfl ?_)))))))
  refine wl_indexAddr i rfl rfl (by first | rfl | omega) (by exact (List.getElem?_eq_some_iff.1 hx).1) es_32 rfl ?_
  refine wl_fieldAddr rfl fo_34_0 rfl ?_
  refine wl_load rfl ag_3 (((hL.sat hS1 0 rfl).at_ hx) 0 _ rfl) rfl ?_
  refine wl_lss rfl rfl rfl ?_
  refine wl_move rfl rfl ?_
  refine wl_splitD 16 rfl (fun h3 => ?_) (fun h3 => ?_)
  ·refine wl_unwanted rfl rfl (decide_eq_true h3) rfl ?_
   refine wl_unwanted rfl rfl (decide_eq_true h3) rfl ?_
   refine wl_unwanted rfl rfl (decide_eq_true h3) rfl ?_
   refine wl_unwanted rfl rfl (decide_eq_true h3) rfl ?_
   refine wl_unwanted rfl rfl (decide_eq_true h3) rfl ?_
   refine wl_unwanted rfl rfl (decide_eq_true h3) rfl ?_
   refine wl_pickT rfl (decide_eq_true h3) rfl rfl ?_
   refine wl_move rfl rfl ?_
   refine wl_unwanted rfl rfl rfl rfl ?_
   refine wl_unwanted rfl rfl rfl rfl ?_
   refine wl_unwanted rfl rfl rfl rfl ?_
   refine wl_unwanted rfl rfl rfl rfl ?_
   refine wl_unwanted rfl rfl rfl rfl ?_
   refine wl_unwanted rfl rfl rfl rfl ?_
   refine wl_unwanted rfl rfl rfl rfl ?_
   refine wl_pickT rfl rfl rfl rfl ?_
   refine wl_nil (qs_seq ?_)
   refine wc_sub (L' := [(32, _), (0, _), (3, _)]) (.cons rfl (.cons rfl (.cons rfl .nil))) ?_
   refine wc_condT rfl ?_
   refine wc_seq (wc_region (wl_assign rfl rfl (wl_nil (qs_seq (wc_ret (qs_block_ret (qs_then_ret (qs_then_ret (qs_block_ret (qs_then_ret ?_))))))))))
   refine fin1 (.inr rfl) rfl rfl ?_
   exact ⟨_, rfl, by rw [right_no hx (okB_no.2 (by omega))], hS1.pick [0] rfl⟩
  refine wl_guard rfl rfl (decide_eq_false h3) ?_
  refine wl_move rfl rfl ?_
  refine wl_guard rfl rfl (decide_eq_false h3) ?_
  refine wl_move rfl rfl ?_
  refine wl_guard rfl rfl (decide_eq_false h3) ?_
  refine wl_indexAddr i rfl rfl (by first | rfl | omega) (by exact (List.getElem?_eq_some_iff.1 hx).1) es_32 rfl ?_
  refine wl_guard rfl rfl (decide_eq_false h3) ?_
  refine wl_fieldAddr rfl fo_34_0 rfl ?_
  refine wl_guard rfl rfl (decide_eq_false h3) ?_
  refine wl_load rfl ag_3 (((hL.sat hS1 0 rfl).at_ hx) 0 _ rfl) rfl ?_
  refine wl_guard rfl rfl (decide_eq_false h3) ?_
  refine wl_geq rfl rfl rfl ?_
  refine wl_pickF rfl (decide_eq_false h3) rfl rfl ?_
  refine wl_move rfl rfl ?_
  refine wl_splitD 24 rfl (fun h4 => ?_) (fun h4 => ?_)
  ·refine wl_unwanted rfl rfl (decide_eq_true h4) rfl ?_
   refine wl_unwanted rfl rfl (decide_eq_true h4) rfl ?_
   refine wl_unwanted rfl rfl (decide_eq_true h4) rfl ?_
   refine wl_unwanted rfl rfl (decide_eq_true h4) rfl ?_
   refine wl_unwanted rfl rfl (decide_eq_true h4) rfl ?_
   refine wl_unwanted rfl rfl (decide_eq_true h4) rfl ?_
   refine wl_unwanted rfl rfl (decide_eq_true h4) rfl ?_
   refine wl_pickT rfl (decide_eq_true h4) rfl rfl ?_
   refine wl_nil (qs_seq ?_)
   refine wc_sub (L' := [(32, _), (0, _), (3, _)]) (.cons rfl (.cons rfl (.cons rfl .nil))) ?_
   refine wc_condT rfl ?_
   refine wc_seq (wc_region (wl_assign rfl rfl (wl_nil (qs_seq (wc_ret (qs_block_ret (qs_then_ret (qs_then_ret (qs_block_ret (qs_then_ret ?_))))))))))
   refine fin1 (.inr rfl) rfl rfl ?_
   exact ⟨_, rfl, by rw [right_no hx (okB_no.2 (by omega))], hS1.pick [0] rfl⟩
  refine wl_guard rfl rfl (decide_eq_false h4) ?_
  refine wl_move rfl rfl ?_
  refine wl_guard rfl rfl (decide_eq_false h4) ?_
  refine wl_move rfl rfl ?_
  refine wl_guard rfl rfl (decide_eq_false h4) ?_
  refine wl_indexAddr i rfl rfl (by first | rfl | omega) (by exact (List.getElem?_eq_some_iff.1 hx).1) es_32 rfl ?_
  refine wl_guard rfl rfl (decide_eq_false h4) ?_
  refine wl_fieldAddr rfl fo_34_1 rfl ?_
  refine wl_guard rfl rfl (decide_eq_false h4) ?_
  refine wl_load rfl ag_9 (((hL.sat hS1 0 rfl).at_ hx) 1 _ rfl) rfl ?_
  refine wl_guard rfl rfl (decide_eq_false h4) ?_
  refine wl_lenS Tryz.underlying9 rfl rfl ?_
  refine wl_guard rfl rfl (decide_eq_false h4) ?_
  refine wl_gtr rfl rfl rfl ?_
  refine wl_pickF rfl (decide_eq_false h4) rfl rfl ?_
  refine wl_nil (qs_seq ?_)
  refine wc_sub (L' := [(32, _), (0, _), (3, _)]) (.cons rfl (.cons rfl (.cons rfl .nil))) ?_
  refine wc_condD rfl (fun h5 => ?_) (fun h5 => ?_)
  ·refine wc_seq (wc_region (wl_assign rfl rfl (wl_nil (qs_seq (wc_ret (qs_block_ret (qs_then_ret (qs_then_ret (qs_block_ret (qs_then_ret ?_))))))))))
   refine fin1 (.inr rfl) rfl rfl ?_
   exact ⟨_, rfl, by rw [right_no hx (okB_no.2 (by omega))], hS1.pick [0] rfl⟩
  refine wc_skip (qs_block_normal (qs_seq (wc_region (wl_move rfl rfl ?_))))
  refine wl_add rfl rfl (by omega) (by omega) rfl ?_
  refine wl_assign rfl rfl (wl_nil ?_)
  exact qs_round (L1 := [(0, _), (3, intV ((i + 1 : Nat) : Int))]) (.cons rfl (.cons rfl .nil)) (k1 := l.length - (i + 1)) (by omega) ⟨i + 1, rfl, rfl, hS1.pick [0] rfl, by omega, fun j y hj hq => by by_cases e : j = i; (subst e; rw [hx] at hq; cases hq; exact okB_iff.2 (by omega)); exact hok j y (by omega) hq⟩
 refine wc_exit (qs_then_exit (qs_then_exit (qs_block_exit (qs_seq (wc_seq (wc_region (wl_move rfl rfl ?_)))))))
 refine wl_lenL Tryz.underlying32 rfl rfl ?_
 refine wl_leq rfl rfl rfl ?_
 refine wl_assign rfl rfl (wl_nil (qs_seq (wc_ret ?_)))
 refine fin1 (.inr rfl) rfl rfl ?_
 exact ⟨_, rfl, by rw [right_yes (fun j y hj => hok j y (by have := (List.getElem?_eq_some_iff.1 hj).1; omega) hj)], hS1.pick [0] rfl⟩
theorem r1NumT_sp {w : World} {F : Th} (hS : Sat w [F]) (n : Int) (hn : inI n) (h0 : 0 ≤ n) :
    Calls Tryz.prog 106 #[intV n] w (Ret fun v w' => v = strV (encN n) ∧ Sat w' [F]) := by
 refine calls_enter Tryz.func106 rfl Tryz.ntmps106 rfl ?_
 refine wc_seq (wc_region (wl_assign rfl rfl (wl_nil (qs_seq (wc_seq (wc_seq (wc_region (wl_move rfl rfl ?_))))))))
 refine wl_lss rfl rfl rfl ?_
 refine wl_nil (qs_seq ?_)
 refine wc_condD rfl (fun h1 => ?_) (fun h1 => ?_)
 ·exact absurd h1 (by omega)
 refine wc_skip (qs_seq (wc_seq (wc_region (wl_move rfl rfl ?_))))
 have hC2 := hS.split [] [false] rfl; dsimp only [selF, pickA, nthA, List.cons_append, List.nil_append] at hC2
 refine wl_call cal_68 rfl (r1Int_sp hC2 n hn) rfl ?_
 rintro e w2 ⟨_, rfl, rfl, hS2⟩; refine ⟨_, rfl, ?_⟩
 replace hS2 := hS2.join rfl; dsimp only [List.dropLast, List.cons_append, List.nil_append] at hS2; clear hC2
 refine wl_assign rfl rfl (wl_nil (qs_seq (wc_ret ?_)))
 refine fin1 (.inr rfl) rfl rfl ?_
 exact ⟨_, rfl, rfl, hS2⟩
theorem r1RNum_sp {w : World} {F : Th} {b : Nat} {s : Bs × Bool} (hS : Sat w [readT b s, F]) (hrl : s.1.length ≤ 9223372036854775806) :
    Calls Tryz.prog 103 #[ptrV b 0] w (Ret fun v w' => v = intV (numV 59 0 s) ∧ Sat w' [readT b (numR 59 0 s), F]) := by
 refine calls_enter Tryz.func103 rfl Tryz.ntmps103 rfl ?_
 refine wc_seq (wc_region (wl_assign rfl rfl (wl_nil (qs_seq (wc_seq (wc_region (wl_move rfl rfl ?_)))))))
 have hC1 := hS.split [0] [true, false] rfl; dsimp only [selF, pickA, nthA, List.cons_append, List.nil_append] at hC1
 refine wl_call cal_122 rfl (r1Num_sp hC1 59 (by decide) hrl) rfl ?_
 rintro e w1 ⟨_, rfl, rfl, hS1⟩; refine ⟨_, rfl, ?_⟩
 replace hS1 := hS1.join rfl; dsimp only [List.dropLast, List.cons_append, List.nil_append] at hS1; clear hC1
 refine wl_assign rfl rfl (wl_nil (qs_seq (wc_ret ?_)))
 refine fin1 (.inr rfl) rfl rfl ?_
 exact ⟨_, rfl, rfl, hS1⟩
set_option maxRecDepth 100000 in
theorem r5Bytes_sp {w : World} {F : Th} (hS : Sat w [F]) {lv : Value} {l : List Blk} (hL : Ent F (RdL jbC lv l)) (hln : l.length ≤ 1000000000) (hok : ∀ x ∈ l, bound20 x) (hz : (l.flatMap encB).length ≤ 1000000000000) :
    Calls Tryz.prog 73 #[lv] w (Ret fun v w' => v = strV (encJ l) ∧ Sat w' [F]) := by
 obtain ⟨ao, cap, rfl, hmax⟩ := (hL.sat hS 0 rfl).shape
 refine calls_enter Tryz.func73 rfl Tryz.ntmps73 rfl ?_
 have hnl := encN_len (n := (l.length : Int)) (by unfold inI; omega)
 refine wc_seq (wc_region (wl_assign rfl rfl (wl_nil (qs_seq (wc_seq (wc_region (wl_move rfl rfl ?_)))))))
 refine wl_lenL Tryz.underlying32 rfl rfl ?_
 have hC1 := hS.split [] [false] rfl; dsimp only [selF, pickA, nthA, List.cons_append, List.nil_append] at hC1
 refine wl_call cal_106 rfl (r1NumT_sp hC1 (l.length : Int) (by unfold inI; omega) (by omega)) rfl ?_
 rintro e w1 ⟨_, rfl, rfl, hS1⟩; refine ⟨_, rfl, ?_⟩
 replace hS1 := hS1.join rfl; dsimp only [List.dropLast, List.cons_append, List.nil_append] at hS1; clear hC1
 refine wl_assign rfl rfl (wl_nil (qs_seq (wc_seq (wc_seq (wc_region (wl_assign rfl rfl (wl_nil (qs_seq (wc_block ?_)))))))))
 have he0 : encN (l.length : Int) = encN (l.length : Int) ++ (l.take 0).flatMap encB := by rw [List.take_zero, List.flatMap_nil, List.append_nil]
 refine wc_loop (fun K0 E0 W0 => ∃ (i : Nat), K0 = l.length - i ∧ E0 = [(0, .slice ao l.length cap), (3, strV (encN (l.length : Int) ++ (l.take i).flatMap encB)), (4, intV (i : Int))] ∧ Sat W0 [F] ∧ (i ≤ l.length)) (L0 := [(0, _), (3, _), (4, _)]) (l.length - 0) (.cons rfl (.cons rfl (.cons rfl .nil))) ⟨0, rfl, by rw [← he0]; rfl, hS1, by omega⟩ ?_
 rintro _ _ w2 ⟨i, rfl, rfl, hS2, hi⟩
 have hft := flat_take l i
 refine wc_seq (wc_seq (wc_region (wl_move rfl rfl (wl_move rfl rfl ?_))))
 refine wl_lenL Tryz.underlying32 rfl rfl ?_
 refine wl_lss rfl rfl rfl ?_
 refine wl_nil (qs_seq ?_)
 refine wc_condD rfl (fun h3 => ?_) (fun h3 => ?_)
 ·obtain ⟨x, hx⟩ : ∃ x, l[i]? = some x := ⟨_, List.getElem?_eq_getElem (by omega)⟩
  obtain ⟨b, off, rfl, hc⟩ := (hL.sat hS2 0 rfl).get hx
  have hox := hok x (List.mem_of_getElem? hx)
  have hxl := encB_fit hox.1 (by have := hox.2; omega)
  have hox2 := hox.2
  refine wc_skip (qs_seq (wc_seq (wc_block ?_)))
  have hS4 := hS2.drew
  refine wc_draw [0, 1, 2, 3, 4, 5, 8, 9, 10, 11, 12, 6, 7, 13, 14, 15] [6, 13] mix (by kernel_rfl) ?_
  refine vc_p rfl rfl rfl (fun _ => (ev_move rfl)) ?_
  refine vc_p rfl rfl rfl (fun _ => (ev_move rfl)) ?_
  refine vc_p rfl rfl rfl (fun _ => (ev_move rfl)) ?_
  refine vc_p rfl rfl rfl (fun _ => (ev_indexAddr i rfl rfl (by first | rfl | omega) (by exact (List.getElem?_eq_some_iff.1 hx).1) es_32)) ?_
  refine vc_p rfl rfl rfl (fun _ => (ev_fieldAddr rfl fo_34_0)) ?_
  refine vc_q rfl rfl rfl (ev_load rfl ag_3 (((hL.sat hS4 0 rfl).at_ hx) 0 _ rfl)) ?_
  refine vc_p rfl rfl rfl (fun _ => (ev_move rfl)) ?_
  refine vc_p rfl rfl rfl (fun _ => (ev_move rfl)) ?_
  refine vc_p rfl rfl rfl (fun _ => (ev_indexAddr i rfl rfl (by first | rfl | omega) (by exact (List.getElem?_eq_some_iff.1 hx).1) es_32)) ?_
  refine vc_p rfl rfl rfl (fun _ => (ev_fieldAddr rfl fo_34_1)) ?_
  refine vc_q rfl rfl rfl (ev_load rfl ag_9 (((hL.sat hS4 0 rfl).at_ hx) 1 _ rfl)) ?_
  refine vc_s rfl rfl rfl rfl rfl rfl ?_
  have hC5 := hS4.split [] [false] rfl; dsimp only [selF, pickA, nthA, List.cons_append, List.nil_append] at hC5
  refine wl_call cal_68 rfl (r1Int_sp hC5 x.n hox.1) rfl ?_
  rintro e w5 ⟨_, rfl, rfl, hS5⟩; refine ⟨_, rfl, ?_⟩
  replace hS5 := hS5.join rfl; dsimp only [List.dropLast, List.cons_append, List.nil_append] at hS5; clear hC5
  clear hS4
  have hil := (itoa_len hox.1).1
  refine vc_e (.cons (.inl ⟨rfl, (ev_load rfl ag_9 (((hL.sat hS5 0 rfl).at_ hx) 1 _ rfl))⟩) (.skip (by kernel_rfl) .nil)) ?_
  refine vc_p rfl rfl rfl (fun _ => (ev_concat rfl rfl (by first | omega | (simp only [List.length_append, List.length_cons, List.length_nil]; omega)))) ?_
  refine vc_s rfl rfl rfl rfl rfl rfl ?_
  have hC6 := hS5.split [] [false] rfl; dsimp only [selF, pickA, nthA, List.cons_append, List.nil_append] at hC6
  refine wl_call cal_107 rfl (r1Text_sp hC6 x.d hox.2) rfl ?_
  rintro e w6 ⟨_, rfl, rfl, hS6⟩; refine ⟨_, rfl, ?_⟩
  replace hS6 := hS6.join rfl; dsimp only [List.dropLast, List.cons_append, List.nil_append] at hS6; clear hC6
  clear hS5
  have htl := encT_len1 hox.2
  refine vc_e (.skip (by kernel_rfl) (.skip (by kernel_rfl) .nil)) ?_
  refine vc_p rfl rfl rfl (fun _ => (ev_concat rfl rfl (by first | omega | (simp only [List.length_append, List.length_cons, List.length_nil]; omega)))) ?_
  refine vc_p rfl rfl rfl (fun _ => (ev_assign rfl)) ?_
  refine VC.nil (qs_block_normal (qs_seq ?_))
  refine wc_sub (L' := [(3, _), (0, _), (4, _)]) (.cons rfl (.cons rfl (.cons rfl .nil))) ?_
  refine wc_region (wl_move rfl rfl ?_)
  refine wl_add rfl rfl (by first | omega | (simp only [List.length_append, List.length_cons, List.length_nil]; omega)) (by first | omega | (simp only [List.length_append, List.length_cons, List.length_nil]; omega)) rfl ?_
  refine wl_assign rfl rfl (wl_nil ?_)
  have he9 : encN (l.length : Int) ++ (l.take (i + 1)).flatMap encB = encN (l.length : Int) ++ (l.take i).flatMap encB ++ (Lib.itoa x.n ++ [59]) ++ encT x.d := by rw [flat_snoc hx]; simp [encB, encN]
  exact qs_round (L1 := [(0, _), (3, strV (encN (l.length : Int) ++ (l.take (i + 1)).flatMap encB)), (4, intV ((i + 1 : Nat) : Int))]) (.cons rfl (.cons (by rw [he9]; rfl) (.cons rfl .nil))) (k1 := l.length - (i + 1)) (by omega) ⟨i + 1, rfl, rfl, hS6.pick [0] rfl, by omega⟩
 refine wc_exit (qs_then_exit (qs_then_exit (qs_block_exit (qs_seq (wc_seq (wc_region (wl_move rfl rfl (wl_assign rfl rfl (wl_nil (qs_seq (wc_ret ?_)))))))))))
 refine fin1 (.inr rfl) rfl rfl ?_
 exact ⟨_, rfl, by rw [List.take_of_length_le (by omega)]; rfl, hS2.pick [0] rfl⟩
set_option maxRecDepth 100000 in
theorem r5read_sp {w : World} {F : Th} (hS : Sat w [F]) (s : Bs) (hz : s.length ≤ 20000000) :
    Calls Tryz.prog 69 #[strV s] w (Ret fun v w' => ∃ lv, v = .tuple #[lv, .bool (okJ s)] ∧ Sat w' [rowT jbC lv (rawJ s), F]) := by
 refine calls_enter Tryz.func69 rfl Tryz.ntmps69 rfl ?_
 refine wc_seq (wc_region (wl_assign rfl rfl (wl_assign rfl rfl (wl_nil (qs_seq (wc_seq (wc_region (wl_move rfl rfl ?_))))))))
 have hC1 := hS.split [] [false] rfl; dsimp only [selF, pickA, nthA, List.cons_append, List.nil_append] at hC1
 refine wl_call cal_66 rfl (r1Open_sp hC1 s) rfl ?_
 rintro e w1 ⟨_, rfl, rb, rfl, hS1⟩; refine ⟨_, rfl, ?_⟩
 replace hS1 := hS1.join rfl; dsimp only [List.dropLast, List.cons_append, List.nil_append] at hS1; clear hC1
 refine wl_assign rfl rfl (wl_nil (qs_seq (wc_seq (wc_region (wl_move rfl rfl ?_)))))
 have hC2 := hS1.split [0] [true, false] rfl; dsimp only [selF, pickA, nthA, List.cons_append, List.nil_append] at hC2
 refine wl_call cal_103 rfl (r1RNum_sp hC2 (by dsimp only; omega)) rfl ?_
 rintro e w2 ⟨_, rfl, rfl, hS2⟩; refine ⟨_, rfl, ?_⟩
 replace hS2 := hS2.join rfl; dsimp only [List.dropLast, List.cons_append, List.nil_append] at hS2; clear hC2
 clear hS1
 refine wl_assign rfl rfl (wl_nil (qs_seq (wc_seq ?_)))
 have hnn := numV_nn 59 (s, false)
 refine wc_region (wl_assign rfl rfl (wl_nil (qs_seq (wc_seq (wc_seq (wc_region (wl_assign rfl rfl (wl_nil (qs_seq ?_)))))))))
 refine wc_sub (L' := [(7, _), (6, _), (5, _), (4, _), (3, _), (2, _), (0, _)]) (.cons rfl (.cons rfl (.cons rfl (.cons rfl (.cons rfl (.cons rfl (.cons rfl .nil))))))) ?_
 refine wc_block ?_
 refine wc_loop (fun K0 E0 W0 => ∃ (i : Nat) (ov : Value), K0 = 2049 - i ∧ E0 = [(0, strV s), (4, ptrV rb 0), (5, intV (numV 59 0 (s, false))), (6, ov), (7, intV (i : Int))] ∧ Sat W0 [readT rb (bkSt i (numR 59 0 (s, false))), rowT jbC ov (bksV i (numR 59 0 (s, false))), F] ∧ ((i : Int) ≤ min (numV 59 0 (s, false)) 2049)) (L0 := [(0, _), (4, _), (5, _), (6, _), (7, _)]) (2049 - 0) (.cons rfl (.cons rfl (.cons rfl (.cons rfl (.cons rfl .nil))))) ⟨0, _, rfl, rfl, (hS2.row_nil jbC).pick [1, 0, 2] rfl, by omega⟩ ?_
 rintro _ _ w3 ⟨i, ov, rfl, rfl, hS3, hi⟩
 have hsl := bkSt_len i (numR 59 0 (s, false))
 have hrl := bksV_len i (numR 59 0 (s, false))
 have hs0 := numR_len 59 0 (s, false)
 dsimp only at hs0
 have h1ov : ov.oneCell' = true := hS3.own_one 1 rfl
 refine wc_seq (wc_seq (wc_region (wl_move rfl rfl (wl_move rfl rfl ?_))))
 refine wl_lss rfl rfl rfl ?_
 refine wl_move rfl rfl ?_
 refine wl_splitD 16 rfl (fun h4 => ?_) (fun h4 => ?_)
 ·refine wl_guard rfl rfl (decide_eq_true h4) ?_
  refine wl_move rfl rfl ?_
  refine wl_guard rfl rfl (decide_eq_true h4) ?_
  refine wl_leq rfl rfl rfl ?_
  refine wl_pickT rfl (decide_eq_true h4) rfl rfl ?_
  refine wl_nil (qs_seq ?_)
  refine wc_sub (L' := [(19, _), (0, _), (4, _), (5, _), (6, _), (7, _)]) (.cons rfl (.cons rfl (.cons rfl (.cons rfl (.cons rfl (.cons rfl .nil)))))) ?_
  refine wc_condD rfl (fun h5 => ?_) (fun h5 => ?_)
  ·refine wc_skip (qs_seq (wc_seq (wc_block (wc_seq (wc_region (wl_move rfl rfl ?_))))))
   have hC6 := hS3.split [0] [true, false, false] rfl; dsimp only [selF, pickA, nthA, List.cons_append, List.nil_append] at hC6
   refine wl_call cal_67 rfl (r1RInt_sp hC6 (by omega)) rfl ?_
   rintro e w6 ⟨_, rfl, rfl, hS6⟩; refine ⟨_, rfl, ?_⟩
   replace hS6 := hS6.join rfl; dsimp only [List.dropLast, List.cons_append, List.nil_append] at hS6; clear hC6
   clear hS3
   refine wl_buildS rfl pl_34_0 asz_34 zr_34 rfl rfl ?_
   refine wl_alloc hS6 zr_34 rfl rfl ?_
   intro bq w7 hS7
   clear hS6
   first | (refine wl_storeA hS7 rfl rfl sz_34 rfl (by first | rfl | (simp [allOne, Value.oneCell']; done) | assumption | exact hone) (i := 0) rfl (by first | decide | exact Nat.le_of_ble_eq_true rfl | (simp; done) | omega) ?_)
   intro w8 hS9; dsimp only [List.set] at hS9
   clear hS7
   refine wl_nil (qs_seq (wc_seq (wc_region (wl_move rfl rfl ?_))))
   have hq1 := numR_len 59 (-9223372036854775808) (bkSt i (numR 59 0 (s, false)))
   have hC10 := hS9.split [1] [false, true, false, false] rfl; dsimp only [selF, pickA, nthA, List.cons_append, List.nil_append] at hC10
   refine wl_call cal_104 rfl (r1RText_sp hC10 ((okR_bk (okR_new s) i).num 59 _) (by omega)) rfl ?_
   rintro e w10 ⟨_, rfl, rfl, hS10⟩; refine ⟨_, rfl, ?_⟩
   replace hS10 := hS10.join rfl; dsimp only [List.dropLast, List.cons_append, List.nil_append] at hS10; clear hC10
   clear hS9
   refine wl_fieldAddr rfl fo_34_1 rfl ?_
   first | (refine wl_store hS10 rfl rfl sz_9 (by first | rfl | assumption | exact hS10.own_one 2 rfl) (i := 1) rfl (by first | decide | exact Nat.le_of_ble_eq_true rfl | (simp; done) | omega) ?_)
   intro w11 hS12; dsimp only [List.set] at hS12
   clear hS10
   refine wl_nil (qs_seq ?_)
   refine wc_sub (L' := [(8, _), (0, _), (4, _), (5, _), (6, _), (7, _)]) (.cons rfl (.cons rfl (.cons rfl (.cons rfl (.cons rfl (.cons rfl .nil)))))) ?_
   refine wc_region (wl_move rfl rfl ?_)
   refine wl_loadA rfl ag_34 sz_34 (by first | exact hS12.blk 1 rfl) (by first | decide | exact Nat.le_of_ble_eq_true rfl | (simp; done) | omega) rfl rfl ?_
   refine wl_rowBuild jbC [bkV (bkSt i (numR 59 0 (s, false)))] hS12 rfl Tryz.underlying32 ifz_34 rfl rfl rfl rfl (by first | rfl | simp [RowC.cells, fillL, splice]) rfl ?_
   intro b13 w13 hS13
   clear hS12
   refine wl_rowApp jbC 3 hS13 rfl rfl rfl (hS13.rd 0 rfl (by simp)) Tryz.underlying32 Tryz.underlying32 (by intro k hk; cases hk) ifo_34 rfl (by simp only [List.length_cons, List.length_nil]; omega) rfl (by simp only [List.length_cons, List.length_nil]; omega) ?_
   intro v14 w14 hS14; dsimp only [List.set] at hS14
   clear hS13
   have h1v14 : v14.oneCell' = true := hS14.own_one 3 rfl
   refine wl_assign rfl rfl (wl_nil (qs_block_normal (qs_seq (wc_region (wl_move rfl rfl ?_)))))
   refine wl_add rfl rfl (by first | omega | (simp; omega)) (by first | omega | (simp; omega)) rfl ?_
   refine wl_assign rfl rfl (wl_nil ?_)
   exact qs_round (L1 := [(0, _), (4, _), (5, _), (6, _), (7, intV ((i + 1 : Nat) : Int))]) (.cons rfl (.cons rfl (.cons rfl (.cons rfl (.cons rfl .nil))))) (k1 := 2049 - (i + 1)) (by omega) ⟨i + 1, _, rfl, rfl, (by rw [bksV_succ]; exact hS14.pick [1, 3, 4] rfl), by omega⟩
  refine wc_exit (qs_then_exit (qs_then_exit (qs_block_exit (qs_seq (wc_seq ?_)))))
  have hni2 : cntJ s = i := by unfold cntJ; omega
  have hraw : bksV i (numR 59 0 (s, false)) = rawJ s := by unfold rawJ; rw [hni2]
  rw [hraw] at hS3 hrl
  refine wc_region (wl_move rfl rfl (wl_move rfl rfl ?_))
  have hC15 := hS3.split [] [false, false, false] rfl; dsimp only [selF, pickA, nthA, List.cons_append, List.nil_append] at hC15
  refine wl_call cal_73 rfl (r5Bytes_sp hC15 (Ent.starL (ent_row (C := jbC) (l := rawJ s) (by omega)) 1 rfl) (by omega) (raw_ok hz).1 (raw_ok hz).2) rfl ?_
  rintro e w15 ⟨_, rfl, rfl, hS15⟩; refine ⟨_, rfl, ?_⟩
  replace hS15 := hS15.join rfl; dsimp only [List.dropLast, List.cons_append, List.nil_append] at hS15; clear hC15
  clear hS3
  refine wl_move rfl rfl ?_
  refine wl_eqlS rfl rfl rfl ?_
  refine wl_move rfl rfl ?_
  refine wl_splitD 37 rfl (fun h16 => ?_) (fun h16 => ?_)
  ·refine wl_guard rfl rfl (decide_eq_true h16) ?_
   refine wl_move rfl rfl ?_
   refine wl_guard rfl rfl (decide_eq_true h16) ?_
   have hC17 := hS15.split [] [false, false, false] rfl; dsimp only [selF, pickA, nthA, List.cons_append, List.nil_append] at hC17
   refine wl_call cal_72 rfl (r5Right_sp hC17 (Ent.starL (ent_row (C := jbC) (l := rawJ s) (by omega)) 1 rfl) (by omega)) rfl ?_
   rintro e w17 ⟨_, rfl, rfl, hS17⟩; refine ⟨_, rfl, ?_⟩
   replace hS17 := hS17.join rfl; dsimp only [List.dropLast, List.cons_append, List.nil_append] at hS17; clear hC17
   clear hS15
   refine wl_pickT rfl (decide_eq_true h16) rfl rfl ?_
   refine wl_assign rfl rfl (wl_assign rfl rfl (wl_nil (qs_seq ?_)))
   refine wc_sub (L' := [(3, _), (2, _)]) (.cons rfl (.cons rfl .nil)) ?_
   refine wc_ret ?_
   refine fin2 (.inr rfl) rfl rfl rfl ?_
   exact ⟨_, rfl, _, by unfold okJ; rw [decide_eq_true (by assumption), Bool.true_and], hS17.pick [1, 2] rfl⟩
  refine wl_unwanted rfl rfl (decide_eq_false h16) rfl ?_
  refine wl_unwanted rfl rfl (decide_eq_false h16) rfl ?_
  refine wl_pickF rfl (decide_eq_false h16) rfl rfl ?_
  refine wl_assign rfl rfl (wl_assign rfl rfl (wl_nil (qs_seq ?_)))
  refine wc_sub (L' := [(3, _), (2, _)]) (.cons rfl (.cons rfl .nil)) ?_
  refine wc_ret ?_
  refine fin2 (.inr rfl) rfl rfl rfl ?_
  exact ⟨_, rfl, _, by unfold okJ; rw [decide_eq_false (by assumption), Bool.false_and], hS15.pick [1, 2] rfl⟩
 refine wl_unwanted rfl rfl (decide_eq_false h4) rfl ?_
 refine wl_unwanted rfl rfl (decide_eq_false h4) rfl ?_
 refine wl_pickF rfl (decide_eq_false h4) rfl rfl ?_
 refine wl_nil (qs_seq ?_)
 refine wc_sub (L' := [(19, _), (0, _), (4, _), (5, _), (6, _), (7, _)]) (.cons rfl (.cons rfl (.cons rfl (.cons rfl (.cons rfl (.cons rfl .nil)))))) ?_
 refine wc_condF rfl ?_
 refine wc_exit (qs_then_exit (qs_then_exit (qs_block_exit (qs_seq (wc_seq ?_)))))
 have hni2 : cntJ s = i := by unfold cntJ; omega
 have hraw : bksV i (numR 59 0 (s, false)) = rawJ s := by unfold rawJ; rw [hni2]
 rw [hraw] at hS3 hrl
 refine wc_region (wl_move rfl rfl (wl_move rfl rfl ?_))
 have hC18 := hS3.split [] [false, false, false] rfl; dsimp only [selF, pickA, nthA, List.cons_append, List.nil_append] at hC18
 refine wl_call cal_73 rfl (r5Bytes_sp hC18 (Ent.starL (ent_row (C := jbC) (l := rawJ s) (by omega)) 1 rfl) (by omega) (raw_ok hz).1 (raw_ok hz).2) rfl ?_
 rintro e w18 ⟨_, rfl, rfl, hS18⟩; refine ⟨_, rfl, ?_⟩
 replace hS18 := hS18.join rfl; dsimp only [List.dropLast, List.cons_append, List.nil_append] at hS18; clear hC18
 clear hS3
 refine wl_move rfl rfl ?_
 refine wl_eqlS rfl rfl rfl ?_
 refine wl_move rfl rfl ?_
 refine wl_splitD 37 rfl (fun h19 => ?_) (fun h19 => ?_)
 ·refine wl_guard rfl rfl (decide_eq_true h19) ?_
  refine wl_move rfl rfl ?_
  refine wl_guard rfl rfl (decide_eq_true h19) ?_
  have hC20 := hS18.split [] [false, false, false] rfl; dsimp only [selF, pickA, nthA, List.cons_append, List.nil_append] at hC20
  refine wl_call cal_72 rfl (r5Right_sp hC20 (Ent.starL (ent_row (C := jbC) (l := rawJ s) (by omega)) 1 rfl) (by omega)) rfl ?_
  rintro e w20 ⟨_, rfl, rfl, hS20⟩; refine ⟨_, rfl, ?_⟩
  replace hS20 := hS20.join rfl; dsimp only [List.dropLast, List.cons_append, List.nil_append] at hS20; clear hC20
  clear hS18
  refine wl_pickT rfl (decide_eq_true h19) rfl rfl ?_
  refine wl_assign rfl rfl (wl_assign rfl rfl (wl_nil (qs_seq ?_)))
  refine wc_sub (L' := [(3, _), (2, _)]) (.cons rfl (.cons rfl .nil)) ?_
  refine wc_ret ?_
  refine fin2 (.inr rfl) rfl rfl rfl ?_
  exact ⟨_, rfl, _, by unfold okJ; rw [decide_eq_true (by assumption), Bool.true_and], hS20.pick [1, 2] rfl⟩
 refine wl_unwanted rfl rfl (decide_eq_false h19) rfl ?_
 refine wl_unwanted rfl rfl (decide_eq_false h19) rfl ?_
 refine wl_pickF rfl (decide_eq_false h19) rfl rfl ?_
 refine wl_assign rfl rfl (wl_assign rfl rfl (wl_nil (qs_seq ?_)))
 refine wc_sub (L' := [(3, _), (2, _)]) (.cons rfl (.cons rfl .nil)) ?_
 refine wc_ret ?_
 refine fin2 (.inr rfl) rfl rfl rfl ?_
 exact ⟨_, rfl, _, by unfold okJ; rw [decide_eq_false (by assumption), Bool.false_and], hS18.pick [1, 2] rfl⟩
def rrV (rp : Nat) (base : Int) (cp : Nat) (lv : Value) (bad : Bool) : List Value := [ptrV rp 0, intV base, ptrV cp 0, lv, .bool bad]
set_option maxRecDepth 100000 in
theorem r5note_sp {w : World} {kp rp cp : Nat} {base : Int} {bad : Bool} {ov : Value} {D : DS} {C : CS} {F : Th} (hS : Sat w [blkT kp (rrV rp base cp ov bad), rT rp D, blkT cp (cellV rp C), F]) (hsl : C.slot ≤ 2) (n : Int) (hn : inI n) :
    Calls Tryz.prog 71 #[ptrV kp 0, intV n] w (Ret fun v w' => v = intV (noteR D C n).e ∧ Sat w' [blkT kp (rrV rp base cp ov bad), rT rp (noteR D C n).D, blkT cp (cellV rp (noteR D C n).C), F]) := by
 refine calls_enter Tryz.func71 rfl Tryz.ntmps71 rfl ?_
 refine wc_seq (wc_region (wl_assign rfl rfl (wl_nil (qs_seq (wc_seq ?_)))))
 have hS1 := hS.drew
 refine wc_draw [0, 1, 2, 3, 4, 5, 6, 7] [5, 6] mix (by kernel_rfl) ?_
 refine vc_p rfl rfl rfl (fun _ => (ev_move rfl)) ?_
 refine vc_p rfl rfl rfl (fun _ => (ev_nilCheck rfl)) ?_
 refine vc_p rfl rfl rfl (fun _ => (ev_fieldAddr rfl fo_58_2)) ?_
 refine vc_q rfl rfl rfl (ev_load rfl ag_56 (by first | assumption | exact hS1.cell 0 rfl rfl | exact hS1.cell 2 rfl rfl)) ?_
 refine vc_p rfl rfl rfl (fun _ => (ev_move rfl)) ?_
 refine vc_s rfl rfl rfl rfl rfl rfl ?_
 have hC2 := hS1.split [] [false, false, false, false] rfl; dsimp only [selF, pickA, nthA, List.cons_append, List.nil_append] at hC2
 refine wl_call cal_68 rfl (r1Int_sp hC2 n hn) rfl ?_
 rintro e w2 ⟨_, rfl, rfl, hS2⟩; refine ⟨_, rfl, ?_⟩
 replace hS2 := hS2.join rfl; dsimp only [List.dropLast, List.cons_append, List.nil_append] at hS2; clear hC2
 clear hS1
 refine vc_e (.cons (.inl ⟨rfl, (ev_load rfl ag_56 (by first | assumption | exact hS2.cell 0 rfl rfl | exact hS2.cell 2 rfl rfl))⟩) .nil) ?_
 refine vc_s rfl rfl rfl rfl rfl rfl ?_
 have hC3 := hS2.split [2, 1] [false, true, true, false] rfl; dsimp only [selF, pickA, nthA, List.cons_append, List.nil_append] at hC3
 refine wl_call cal_105 rfl (setR_sp4 hC3 hsl (encN n)) rfl ?_
 rintro e w3 ⟨_, rfl, rfl, hS3⟩; refine ⟨_, rfl, ?_⟩
 replace hS3 := hS3.join rfl; dsimp only [List.dropLast, List.cons_append, List.nil_append] at hS3; clear hC3
 clear hS2
 refine vc_e (.skip (by kernel_rfl) .nil) ?_
 refine vc_p rfl rfl rfl (fun _ => (ev_assign rfl)) ?_
 refine VC.nil (qs_seq (wc_ret ?_))
 refine fin1 (.inr rfl) rfl rfl ?_
 exact ⟨_, rfl, rfl, hS3.pick [2, 1, 0, 3] rfl⟩
set_option maxRecDepth 100000 in
theorem r5home_sp {w : World} {kp rp cp : Nat} {base : Int} {bad : Bool} {ov : Value} {D : DS} {F : Th} (hS : Sat w [blkT kp (rrV rp base cp ov bad), rT rp D, F]) {lv : Value} {l : List Blk} (hL : Ent F (RdL jbC lv l)) (hr : ∀ x ∈ l, 0 ≤ x.n ∧ x.n < 2048 ∧ x.d.length ≤ 64) :
    Calls Tryz.prog 70 #[ptrV kp 0, lv] w (Ret fun v w' => v = intV (homeR D base l).1 ∧ Sat w' [blkT kp (rrV rp base cp ov bad), rT rp (homeR D base l).2, F]) := by
 obtain ⟨ao, cap, rfl, hmax⟩ := (hL.sat hS 2 rfl).shape
 refine calls_enter Tryz.func70 rfl Tryz.ntmps70 rfl ?_
 refine wc_seq (wc_region (wl_assign rfl rfl (wl_nil (qs_seq (wc_seq (wc_seq (wc_region (wl_assign rfl rfl (wl_nil (qs_seq (wc_block ?_)))))))))))
 refine wc_loop (fun K0 E0 W0 => ∃ (i : Nat) (D1 : DS), K0 = l.length - i ∧ E0 = [(0, ptrV kp 0), (1, .slice ao l.length cap), (5, intV (i : Int))] ∧ Sat W0 [blkT kp (rrV rp base cp ov bad), rT rp D1, F] ∧ (i ≤ l.length) ∧ (homeR D base l = homeR D1 base (l.drop i))) (L0 := [(0, _), (1, _), (5, _)]) (l.length - 0) (.cons rfl (.cons rfl (.cons rfl .nil))) ⟨0, D, rfl, rfl, hS, by omega, rfl⟩ ?_
 rintro _ _ w1 ⟨i, D1, rfl, rfl, hS1, hi, hH⟩
 refine wc_seq (wc_seq (wc_region (wl_move rfl rfl (wl_move rfl rfl ?_))))
 refine wl_lenL Tryz.underlying32 rfl rfl ?_
 refine wl_lss rfl rfl rfl ?_
 refine wl_nil (qs_seq ?_)
 refine wc_condD rfl (fun h2 => ?_) (fun h2 => ?_)
 ·obtain ⟨x, hx⟩ : ∃ x, l[i]? = some x := ⟨_, List.getElem?_eq_getElem (by omega)⟩
  obtain ⟨b, off, rfl, hc⟩ := (hL.sat hS1 2 rfl).get hx
  obtain ⟨hx0, hx1, hx2⟩ := hr x (List.mem_of_getElem? hx)
  refine wc_skip (qs_seq (wc_seq (wc_block (wc_seq (wc_region (wl_move rfl rfl (wl_move rfl rfl ?_)))))))
  refine wl_indexAddr i rfl rfl (by first | rfl | omega) (by exact (List.getElem?_eq_some_iff.1 hx).1) es_32 rfl ?_
  refine wl_fieldAddr rfl fo_34_0 rfl ?_
  refine wl_load rfl ag_3 (((hL.sat hS1 2 rfl).at_ hx) 0 _ rfl) rfl ?_
  refine wl_mul rfl rfl (by omega) (by omega) rfl ?_
  refine wl_assign rfl rfl (wl_nil (qs_seq ?_))
  refine wc_sub (L' := [(6, _), (0, _), (1, _), (5, _)]) (.cons rfl (.cons rfl (.cons rfl (.cons rfl .nil)))) ?_
  refine wc_seq ?_
  have hS3 := hS1.drew
  refine wc_draw [0, 1, 2, 3, 4, 5, 6, 7, 8, 9, 10, 11, 12, 13, 14, 15, 16, 17, 18, 19] [16, 18] mix (by kernel_rfl) ?_
  refine vc_p rfl rfl rfl (fun _ => (ev_move rfl)) ?_
  refine vc_p rfl rfl rfl (fun _ => (ev_nilCheck rfl)) ?_
  refine vc_p rfl rfl rfl (fun _ => (ev_fieldAddr rfl fo_58_0)) ?_
  refine vc_q rfl rfl rfl (ev_load rfl ag_46 (by first | assumption | exact hS3.cell 0 rfl rfl)) ?_
  refine vc_p rfl rfl rfl (fun _ => (ev_move rfl)) ?_
  refine vc_p rfl rfl rfl (fun _ => (ev_nilCheck rfl)) ?_
  refine vc_p rfl rfl rfl (fun _ => (ev_fieldAddr rfl fo_58_1)) ?_
  refine vc_q rfl rfl rfl (ev_load rfl ag_3 (by first | assumption | exact hS3.cell 0 rfl rfl)) ?_
  refine vc_p rfl rfl rfl (fun _ => (ev_move rfl)) ?_
  refine vc_p rfl rfl rfl (fun _ => (ev_move rfl)) ?_
  refine vc_p rfl rfl rfl (fun _ => (ev_move rfl)) ?_
  refine vc_p rfl rfl rfl (fun _ => (ev_indexAddr i rfl rfl (by first | rfl | omega) (by exact (List.getElem?_eq_some_iff.1 hx).1) es_32)) ?_
  refine vc_p rfl rfl rfl (fun _ => (ev_fieldAddr rfl fo_34_1)) ?_
  refine vc_q rfl rfl rfl (ev_load rfl ag_9 (((hL.sat hS3 2 rfl).at_ hx) 1 _ rfl)) ?_
  refine vc_p rfl rfl rfl (fun _ => (ev_lenS Tryz.underlying9 rfl)) ?_
  refine vc_p rfl rfl rfl (fun _ => (ev_convToU8 x.d.length Tryz.underlying3 Tryz.underlying5 rfl (by first | rfl | omega))) ?_
  refine vc_s rfl rfl rfl rfl rfl rfl ?_
  refine wl_rowBuild byC [UInt8.ofNat x.d.length] hS3 rfl Tryz.underlying118 ifz_5 rfl rfl rfl rfl (by first | rfl | simp [RowC.cells, fillL, splice]) rfl ?_
  intro b4 w4 hS4
  clear hS3
  refine vc_e (.skip (by kernel_rfl) (.cons (.inl ⟨rfl, (ev_load rfl ag_3 (by first | assumption | exact hS4.cell 1 rfl rfl))⟩) (.cons (.inl ⟨rfl, (ev_load rfl ag_46 (by first | assumption | exact hS4.cell 1 rfl rfl))⟩) .nil))) ?_
  refine vc_q rfl rfl rfl (ev_rowStr 0 hS4 rfl rfl Tryz.underlying118 Tryz.underlying5 Tryz.underlying9) ?_
  refine vc_s rfl rfl rfl rfl rfl rfl ?_
  have hC5 := hS4.split [2] [false, false, true, false] rfl; dsimp only [selF, pickA, nthA, List.cons_append, List.nil_append] at hC5
  refine wl_call cal_21 rfl (writeRT hC5 base (128 * x.n) [UInt8.ofNat x.d.length] (by simp)) rfl ?_
  rintro e w5 ⟨_, rfl, rfl, hS5⟩; refine ⟨_, rfl, ?_⟩
  replace hS5 := hS5.join rfl; dsimp only [List.dropLast, List.cons_append, List.nil_append] at hS5; clear hC5
  clear hS4
  refine vc_e (.skip (by kernel_rfl) (.skip (by kernel_rfl) (.skip (by kernel_rfl) (.skip (by kernel_rfl) .nil)))) ?_
  refine vc_p rfl rfl rfl (fun _ => (ev_assign rfl)) ?_
  refine VC.nil (qs_seq ?_)
  refine wc_sub (L' := [(7, _), (6, _), (0, _), (1, _), (5, _)]) (.cons rfl (.cons rfl (.cons rfl (.cons rfl (.cons rfl .nil))))) ?_
  refine wc_seq (wc_seq (wc_region (wl_move rfl rfl ?_)))
  refine wl_neq rfl rfl rfl ?_
  refine wl_nil (qs_seq ?_)
  refine wc_condD rfl (fun h6 => ?_) (fun h6 => ?_)
  ·have h1 := h6
   refine wc_seq (wc_region (wl_move rfl rfl (wl_assign rfl rfl (wl_nil (qs_seq (wc_ret (qs_then_ret (qs_block_ret (qs_then_ret (qs_then_ret (qs_block_ret (qs_then_ret ?_))))))))))))
   refine fin1 (.inr rfl) rfl rfl ?_
   exact ⟨_, rfl, by rw [hH, dropB hx, homeR_a h1], by rw [hH, dropB hx, homeR_a h1]; exact hS5.pick [2, 0, 3] rfl⟩
  have h1 := Decidable.not_not.1 h6
  refine wc_skip (qs_seq (wc_seq (wc_region (wl_move rfl rfl (wl_move rfl rfl ?_)))))
  refine wl_indexAddr i rfl rfl (by first | rfl | omega) (by exact (List.getElem?_eq_some_iff.1 hx).1) es_32 rfl ?_
  refine wl_fieldAddr rfl fo_34_1 rfl ?_
  refine wl_load rfl ag_9 (((hL.sat hS5 3 rfl).at_ hx) 1 _ rfl) rfl ?_
  refine wl_neqS rfl rfl rfl ?_
  refine wl_nil (qs_seq ?_)
  refine wc_sub (L' := [(47, _), (7, _), (6, _), (0, _), (1, _), (5, _)]) (.cons rfl (.cons rfl (.cons rfl (.cons rfl (.cons rfl (.cons rfl .nil)))))) ?_
  refine wc_condD rfl (fun h7 => ?_) (fun h7 => ?_)
  ·have h2 := h7
   refine wc_seq ?_
   have hS8 := hS5.drew
   refine wc_draw [0, 1, 2, 3, 4, 5, 6, 7, 8, 9, 10, 11, 12, 13, 14, 15, 16] [15] mix (by kernel_rfl) ?_
   refine vc_p rfl rfl rfl (fun _ => (ev_move rfl)) ?_
   refine vc_p rfl rfl rfl (fun _ => (ev_nilCheck rfl)) ?_
   refine vc_p rfl rfl rfl (fun _ => (ev_fieldAddr rfl fo_58_0)) ?_
   refine vc_q rfl rfl rfl (ev_load rfl ag_46 (by first | assumption | exact hS8.cell 2 rfl rfl)) ?_
   refine vc_p rfl rfl rfl (fun _ => (ev_move rfl)) ?_
   refine vc_p rfl rfl rfl (fun _ => (ev_nilCheck rfl)) ?_
   refine vc_p rfl rfl rfl (fun _ => (ev_fieldAddr rfl fo_58_1)) ?_
   refine vc_q rfl rfl rfl (ev_load rfl ag_3 (by first | assumption | exact hS8.cell 2 rfl rfl)) ?_
   refine vc_p rfl rfl rfl (fun _ => (ev_move rfl)) ?_
   refine vc_p rfl rfl rfl (fun _ => (ev_add rfl rfl (by omega) (by omega))) ?_
   refine vc_p rfl rfl rfl (fun _ => (ev_move rfl)) ?_
   refine vc_p rfl rfl rfl (fun _ => (ev_move rfl)) ?_
   refine vc_p rfl rfl rfl (fun _ => (ev_indexAddr i rfl rfl (by first | rfl | omega) (by exact (List.getElem?_eq_some_iff.1 hx).1) es_32)) ?_
   refine vc_p rfl rfl rfl (fun _ => (ev_fieldAddr rfl fo_34_1)) ?_
   refine vc_q rfl rfl rfl (ev_load rfl ag_9 (((hL.sat hS8 3 rfl).at_ hx) 1 _ rfl)) ?_
   refine vc_s rfl rfl rfl rfl rfl rfl ?_
   have hC9 := hS8.split [0] [true, false, false, false] rfl; dsimp only [selF, pickA, nthA, List.cons_append, List.nil_append] at hC9
   refine wl_call cal_21 rfl (writeRT hC9 base (128 * x.n + 64) x.d (by omega)) rfl ?_
   rintro e w9 ⟨_, rfl, rfl, hS9⟩; refine ⟨_, rfl, ?_⟩
   replace hS9 := hS9.join rfl; dsimp only [List.dropLast, List.cons_append, List.nil_append] at hS9; clear hC9
   clear hS8
   refine vc_e (.skip (by kernel_rfl) (.skip (by kernel_rfl) (.skip (by kernel_rfl) .nil))) ?_
   refine vc_p rfl rfl rfl (fun _ => (ev_assign rfl)) ?_
   refine VC.nil (qs_seq ?_)
   refine wc_sub (L' := [(7, _), (0, _), (1, _), (5, _)]) (.cons rfl (.cons rfl (.cons rfl (.cons rfl .nil)))) ?_
   refine wc_seq (wc_region (wl_move rfl rfl ?_))
   refine wl_neq rfl rfl rfl ?_
   refine wl_nil (qs_seq ?_)
   refine wc_condD rfl (fun h10 => ?_) (fun h10 => ?_)
   ·have h3 := h10
    refine wc_seq (wc_region (wl_move rfl rfl (wl_assign rfl rfl (wl_nil (qs_seq (wc_ret (qs_block_ret (qs_then_ret (qs_then_ret (qs_block_ret (qs_then_ret ?_)))))))))))
    refine fin1 (.inr rfl) rfl rfl ?_
    exact ⟨_, rfl, by rw [hH, dropB hx, homeR_c h1 h2 h3], by rw [hH, dropB hx, homeR_c h1 h2 h3]; exact hS9.pick [2, 0, 3] rfl⟩
   have h3 := Decidable.not_not.1 h10
   refine wc_skip (qs_block_normal (qs_seq (wc_region (wl_move rfl rfl ?_))))
   refine wl_add rfl rfl (by omega) (by omega) rfl ?_
   refine wl_assign rfl rfl (wl_nil ?_)
   exact qs_round (L1 := [(0, _), (1, _), (5, intV ((i + 1 : Nat) : Int))]) (.cons rfl (.cons rfl (.cons rfl .nil))) (k1 := l.length - (i + 1)) (by omega) ⟨i + 1, _, rfl, rfl, hS9.pick [2, 0, 3] rfl, by omega, by rw [hH, dropB hx, homeR_d h1 h2 h3]⟩
  have h2 := Decidable.not_not.1 h7
  refine wc_skip (qs_block_normal (qs_seq (wc_region (wl_move rfl rfl ?_))))
  refine wl_add rfl rfl (by omega) (by omega) rfl ?_
  refine wl_assign rfl rfl (wl_nil ?_)
  exact qs_round (L1 := [(0, _), (1, _), (5, intV ((i + 1 : Nat) : Int))]) (.cons rfl (.cons rfl (.cons rfl .nil))) (k1 := l.length - (i + 1)) (by omega) ⟨i + 1, _, rfl, rfl, hS5.pick [2, 0, 3] rfl, by omega, by rw [hH, dropB hx, homeR_b h1 h2]⟩
 refine wc_exit (qs_then_exit (qs_then_exit (qs_block_exit (qs_seq (wc_seq ?_)))))
 have hS11 := hS1.drew
 refine wc_draw [0, 1, 2, 3, 4, 5, 6, 7, 8, 9] [8] mix (by kernel_rfl) ?_
 refine vc_p rfl rfl rfl (fun _ => (ev_move rfl)) ?_
 refine vc_p rfl rfl rfl (fun _ => (ev_nilCheck rfl)) ?_
 refine vc_p rfl rfl rfl (fun _ => (ev_fieldAddr rfl fo_58_0)) ?_
 refine vc_q rfl rfl rfl (ev_load rfl ag_46 (by first | assumption | exact hS11.cell 0 rfl rfl)) ?_
 refine vc_p rfl rfl rfl (fun _ => (ev_move rfl)) ?_
 refine vc_p rfl rfl rfl (fun _ => (ev_nilCheck rfl)) ?_
 refine vc_p rfl rfl rfl (fun _ => (ev_fieldAddr rfl fo_58_1)) ?_
 refine vc_q rfl rfl rfl (ev_load rfl ag_3 (by first | assumption | exact hS11.cell 0 rfl rfl)) ?_
 refine vc_s rfl rfl rfl rfl rfl rfl ?_
 have hC12 := hS11.split [1] [false, true, false] rfl; dsimp only [selF, pickA, nthA, List.cons_append, List.nil_append] at hC12
 refine wl_call cal_23 rfl (syncRT hC12 base) rfl ?_
 rintro e w12 ⟨_, rfl, rfl, hS12⟩; refine ⟨_, rfl, ?_⟩
 replace hS12 := hS12.join rfl; dsimp only [List.dropLast, List.cons_append, List.nil_append] at hS12; clear hC12
 clear hS11
 refine vc_e (.skip (by kernel_rfl) (.skip (by kernel_rfl) .nil)) ?_
 refine vc_p rfl rfl rfl (fun _ => (ev_assign rfl)) ?_
 refine VC.nil (qs_seq ?_)
 refine wc_sub (L' := [(4, _)]) (.cons rfl .nil) ?_
 refine wc_ret ?_
 refine fin1 (.inr rfl) rfl rfl ?_
 exact ⟨_, rfl, by rw [hH, List.drop_eq_nil_of_le (by omega)]; rfl, by rw [hH, List.drop_eq_nil_of_le (by omega)]; exact hS12.pick [1, 0, 2] rfl⟩
end Go.Proofs.YtfmkodmmbgibgaaGreatDoor
