/- laws of names: NamesTree -/
import Derived.Test.YtkaikhcpcbjkcaaGreatDoorNm16
import Derived.Test.YtkaikhcpcbjkcaaGreatDoorMem
import Derived.ProofKit
import Derived.OpenShut
import Derived.ShutString
import Derived.ChangeOld
import Derived.Deep.Slices
import Derived.Deep.Fields
import Derived.ChangeSame
import Derived.JoinedCond
import Derived.Lib.LaidU8
import Derived.Test.YtkaikhcpcbjkcaaGreatDoorRows
namespace Go.Proofs.YtkaikhcpcbjkcaaGreatDoor
open Go.RowKit M
set_option linter.unusedVariables false
theorem FromI.klen {W : WS} {dir : Bs} {nd nk : List Bs} (h : FromI W dir nd nk) {m : Nat} (hP : PI W m) : nk.length ≤ m := by
  obtain ⟨ks, h1, h2⟩ := hP.few
  exact Nat.le_trans (List.Nodup.length_le_of_subset h.kn fun k hk => by obtain ⟨x, y, _, _, _, q⟩ := (h.km k).1 hk; exact h2 k q) h1
theorem countP_take {α : Type} {p : α → Bool} {l : List α} {i : Nat} {x : α} (h : l[i]? = some x) : (l.take (i + 1)).countP p = (l.take i).countP p + (if p x = true then 1 else 0) := by
  rw [List.take_add_one, h, Option.toList_some, List.countP_append]
  simp [List.countP_cons]
theorem walk_new {w : World} {b p : Nat} {A1 A2 : Th} (h : Sat w [blkT b [ptrV p 0, .slice none 0 0, .slice none 0 0, .bool true], A1, A2]) : Sat w [walkT b p [] [], A1, A2] :=
  walkT_shut (((h.row_nil stC).row_nil stC).reorder [2, 0, 1, 3, 4] rfl)
set_option maxRecDepth 100000 in
set_option maxHeartbeats 3200000 in
theorem tree_law {w : World} {F : Th} (hS : Sat w [F]) (hG : Ent F WireG) {lv : Value} {l : List AcD} (hL : Ent F (RdL acC lv l)) (hnb : ∀ (i : Nat) (y : AcD), l[i]? = some y → InB y.n) :
    Calls Tryz.prog 6 #[lv] w (Ret fun v w' => v = .bool true ∧ Sat w' [F]) := by
 obtain ⟨ao, cap, rfl, hmax⟩ := (hL.sat hS 0 rfl).shape
 refine calls_enter Tryz.func6 rfl Tryz.ntmps6 rfl ?_
 refine wc_seq (wc_region (wl_assign rfl rfl (wl_nil (qs_seq (wc_seq (wc_region ?_))))))
 have hC1 := hS.split [] [false] rfl; dsimp only [selF, pickA, nthA, List.cons_append, List.nil_append] at hC1
 refine wl_call cal_8 rfl (small_sp hC1 (hG.starL 0 rfl)) rfl ?_
 rintro e w1 ⟨_, rfl, rfl, hS1⟩; refine ⟨_, rfl, ?_⟩
 replace hS1 := hS1.join rfl; dsimp only [List.dropLast, List.cons_append, List.nil_append] at hS1; clear hC1
 refine wl_assign rfl rfl (wl_nil (qs_seq (wc_seq (wc_seq (wc_region (wl_move rfl rfl ?_))))))
 have hC2 := hS1.split [] [false] rfl; dsimp only [selF, pickA, nthA, List.cons_append, List.nil_append] at hC2
 refine wl_call cal_9 rfl (few_sp hC2 (hL.starL 0 rfl)) rfl ?_
 rintro e w2 ⟨_, rfl, rfl, hS2⟩; refine ⟨_, rfl, ?_⟩
 replace hS2 := hS2.join rfl; dsimp only [List.dropLast, List.cons_append, List.nil_append] at hS2; clear hC2
 clear hS1
 refine wl_not rfl rfl ?_
 refine wl_nil (qs_seq ?_)
 refine wc_cond rfl (fun h3 => ?_) (fun h3 => ?_)
 ·refine wc_seq (wc_region (wl_move rfl rfl (wl_assign rfl rfl (wl_nil (qs_seq (wc_ret (qs_then_ret ?_)))))))
  refine fin1 (.inr rfl) rfl rfl ?_
  exact ⟨_, rfl, rfl, hS2.pick [0] rfl⟩
 have hfl : fewA l = true := by simpa using h3
 simp only [fewA, Bool.and_eq_true, decide_eq_true_eq, List.all_eq_true] at hfl
 have hok : ∀ (i : Nat) (y : AcD), l[i]? = some y → OkA y := fun i y hy => okA_is (hfl.1 y (List.mem_of_getElem? hy))
 have hPg := groW_all hfl.2 hok hnb
 have hT := tree_all hfl.2 hok hnb
 refine wc_skip (qs_seq (wc_seq (wc_region (wl_move rfl rfl ?_))))
 have hC4 := hS2.split [] [false] rfl; dsimp only [selF, pickA, nthA, List.cons_append, List.nil_append] at hC4
 refine wl_call cal_10 rfl (grown_sp hC4 (hG.starL 0 rfl) (hL.starL 0 rfl) hfl.2 hok hnb) rfl ?_
 rintro e w4 ⟨_, rfl, p, rfl, hS4⟩; refine ⟨_, rfl, ?_⟩
 replace hS4 := hS4.join rfl; dsimp only [List.dropLast, List.cons_append, List.nil_append] at hS4; clear hC4
 clear hS2
 refine wl_assign rfl rfl (wl_nil (qs_seq (wc_seq (wc_seq (wc_region (wl_move rfl rfl ?_))))))
 refine wl_eqlNil Tryz.underlying25 rfl rfl rfl ?_
 refine wl_nil (qs_seq ?_)
 refine wc_sub (L' := [(22, _), (4, _), (3, _), (2, _)]) (.cons rfl (.cons rfl (.cons rfl (.cons rfl .nil)))) ?_
 refine wc_condF rfl ?_
 refine wc_skip (qs_seq (wc_seq (wc_region (wl_move rfl rfl ?_))))
 refine wl_buildX (vs' := [ptrV p 0, .slice none 0 0, .slice none 0 0, .bool true]) rfl pl_74_0_3 asz_74 zr_74 rfl rfl rfl ?_
 refine wl_box hS4 rfl rfl rfl ?_
 intro kb wf hSf
 have hSg := walk_new hSf
 clear hS4
 refine wl_assign rfl rfl (wl_nil (qs_seq (wc_seq (wc_region (wl_move rfl rfl ?_)))))
 have hC5 := hSg.split [0, 1] [true, true, false] rfl; dsimp only [selF, pickA, nthA, List.cons_append, List.nil_append] at hC5
 refine wl_call cal_39 rfl (from_sp hT hPg (by decide) 9 0 rfl (ds := []) (K := []) hC5 (hG.starL 0 rfl) hT.root rfl (fun x q => by cases q) WkI.nil) rfl ?_
 rintro e w5 ⟨_, rfl, rfl, nd9, nk9, hF9, hS5⟩; refine ⟨_, rfl, ?_⟩
 replace hS5 := hS5.join rfl; dsimp only [List.dropLast, List.cons_append, List.nil_append] at hS5; clear hC5
 clear hSg
 have hkl9 := hF9.klen hPg
 have hfl9 := filesOf_len (groW l) nk9
 obtain ⟨dv, fv, hSo⟩ := walkT_open hS5
 refine wl_nil (qs_seq (wc_seq (wc_seq (wc_region (wl_move rfl rfl (wl_nilCheck rfl rfl ?_))))))
 refine wl_fieldAddr rfl fo_74_3 rfl ?_
 refine wl_load rfl ag_4 (by first | assumption | exact hSo.cell 0 rfl rfl) rfl ?_
 refine wl_not rfl rfl ?_
 refine wl_nil (qs_seq ?_)
 refine wc_sub (L' := [(32, _), (5, _), (4, _), (3, _), (2, _)]) (.cons rfl (.cons rfl (.cons rfl (.cons rfl (.cons rfl .nil))))) ?_
 refine wc_condKF rfl rfl ?_
 refine wc_skip (qs_seq (wc_seq (wc_region (wl_move rfl rfl ?_))))
 have hC6 := hSo.split [3] [false, false, false, true, false] rfl; dsimp only [selF, pickA, nthA, List.cons_append, List.nil_append] at hC6
 refine wl_call cal_17 rfl (keys_sp hC6 [105, 47] (hPg.kin (by omega))) rfl ?_
 rintro e w6 ⟨_, rfl, lk, hlk, hS6⟩; refine ⟨_, rfl, ?_⟩
 replace hS6 := hS6.join rfl; dsimp only [List.dropLast, List.cons_append, List.nil_append] at hS6; clear hC6
 clear hSo
 have hkll := keysOf_len3 hlk hPg.few
 obtain ⟨ka, kc, hkv, _⟩ := hS6.own_shape 0 rfl
 obtain rfl := hkv
 refine wl_assign rfl rfl (wl_nil (qs_seq (wc_seq (wc_region (wl_assign rfl rfl (wl_nil (qs_seq (wc_seq (wc_seq (wc_region (wl_assign rfl rfl (wl_nil (qs_seq (wc_block ?_))))))))))))))
 refine wc_loop (fun K0 E0 W0 => ∃ (i : Nat), K0 = lk.length - i ∧ E0 = [(3, .bool true), (4, ptrV p 0), (5, ptrV kb 0), (6, .slice ka lk.length kc), (7, intV (((lk.take i).countP (fun k : Bs => decide ((gI' (groW l) (k.drop 2)).k = 2)) : Nat) : Int)), (8, intV (i : Int))] ∧ Sat W0 [blkT kb [ptrV p 0, dv, fv, .bool true], rowT stC dv nd9, rowT stC fv (filesOf (groW l) nk9), rowT stC (.slice ka lk.length kc) lk, worldT p (groW l), F] ∧ (i ≤ lk.length)) (L0 := [(3, _), (4, _), (5, _), (6, _), (7, _), (8, _)]) (lk.length - 0) (.cons rfl (.cons rfl (.cons rfl (.cons rfl (.cons rfl (.cons rfl .nil)))))) ⟨0, rfl, rfl, hS6.pick [2, 3, 4, 0, 1, 5] rfl, by omega⟩ ?_
 rintro _ _ w7 ⟨i, rfl, rfl, hS7, hi⟩
 have hc0 := List.countP_le_length (p := (fun k : Bs => decide ((gI' (groW l) (k.drop 2)).k = 2))) (l := lk.take i)
 rw [List.length_take] at hc0
 refine wc_seq (wc_seq (wc_region (wl_move rfl rfl (wl_move rfl rfl ?_))))
 first | refine wl_lenL Tryz.underlying40 rfl rfl ?_ | refine wl_lenO 1 hS7 Tryz.underlying40 rfl rfl rfl ?_ | refine wl_lenO 2 hS7 Tryz.underlying40 rfl rfl rfl ?_ | refine wl_lenO 3 hS7 Tryz.underlying40 rfl rfl rfl ?_
 refine wl_lss rfl rfl rfl ?_
 refine wl_nil (qs_seq ?_)
 refine wc_condD rfl (fun h8 => ?_) (fun h8 => ?_)
 ·obtain ⟨ky, hky⟩ : ∃ y, lk[i]? = some y := ⟨_, List.getElem?_eq_getElem (by omega)⟩
  obtain ⟨hk1, ni, hni⟩ := hT.keyI hlk (List.mem_of_getElem? hky)
  have hkl : ky.length ≤ 1000 := hPg.short ky (keysOf_has hlk (List.mem_of_getElem? hky)).1
  have hk2l : 2 ≤ ky.length := by have := hasPrefix_len (keysOf_has hlk (List.mem_of_getElem? hky)).2; simp at this; exact this
  have hbi : bI (groW l) (ky.drop 2) = true := by unfold bI; rw [hni]; rfl
  have hgi : gI' (groW l) (ky.drop 2) = ni := by unfold gI'; rw [hni]; rfl
  refine wc_skip (qs_seq (wc_seq (wc_block (wc_seq (wc_region (wl_move rfl rfl (wl_move rfl rfl ?_)))))))
  refine wl_rowIdx stC 3 i hS7 rfl rfl rfl (by first | rfl | omega) hky es_40 rfl ?_
  intro bx9 capx9 hvx9
  refine wl_rowLoad 3 i 0 hS7 rfl hvx9 rfl rfl hky ag_9 rfl rfl ?_
  refine wl_sliceS 2 ky.length Tryz.underlying9 rfl (bndS 2 _ rfl rfl) (bndN _) (by first | omega | (simp; omega)) (by first | omega | (simp; omega)) rfl ?_
  rw [List.take_length]
  refine wl_assign rfl rfl (wl_nil (qs_seq ?_))
  refine wc_sub (L' := [(9, _), (3, _), (4, _), (5, _), (6, _), (7, _), (8, _)]) (.cons rfl (.cons rfl (.cons rfl (.cons rfl (.cons rfl (.cons rfl (.cons rfl .nil))))))) ?_
  refine wc_seq (wc_region (wl_move rfl rfl ?_))
  refine wl_makeIface nif_25 rfl rfl ?_
  refine wl_move rfl rfl ?_
  have hC10 := hS7.split [4] [false, false, false, false, true, false] rfl; dsimp only [selF, pickA, nthA, List.cons_append, List.nil_append] at hC10
  refine wl_call cal_30 rfl (inode_sp hC10 (hG.starL 4 rfl) (ky.drop 2) (by simp; omega) (hPg.tb _)) rfl ?_
  rintro e w10 ⟨_, rfl, rfl, hS10⟩; refine ⟨_, rfl, ?_⟩
  replace hS10 := hS10.join rfl; dsimp only [List.dropLast, List.cons_append, List.nil_append] at hS10; clear hC10
  clear hS7
  refine wl_move rfl rfl (wl_extract rfl rfl rfl (wl_extract rfl rfl rfl ?_))
  refine wl_alloc hS10 zr_35 rfl rfl ?_
  intro nb w8 hS8
  clear hS10
  first | (refine wl_storeA hS8 rfl rfl sz_35 rfl (by first | rfl | (simp [allOne, Value.oneCell']; done) | assumption | exact hone) (i := 0) rfl (by first | decide | exact Nat.le_of_ble_eq_true rfl | (simp; done) | omega) ?_) | (refine wl_storeA hS8 rfl rfl sz_35 rfl (by first | rfl | (simp [allOne, Value.oneCell']; done) | assumption | exact hone) (i := 2) rfl (by first | decide | exact Nat.le_of_ble_eq_true rfl | (simp; done) | omega) ?_)
  intro w11 hS12; dsimp only [List.set] at hS12
  clear hS8
  refine wl_assign rfl rfl (wl_nil (qs_seq ?_))
  refine wc_sub (L' := [(11, _), (10, _), (9, _), (3, _), (4, _), (5, _), (6, _), (7, _), (8, _)]) (.cons rfl (.cons rfl (.cons rfl (.cons rfl (.cons rfl (.cons rfl (.cons rfl (.cons rfl (.cons rfl .nil))))))))) ?_
  refine wc_seq (wc_seq (wc_region (wl_move rfl rfl ?_)))
  refine wl_not rfl rfl ?_
  refine wl_nil (qs_seq ?_)
  refine wc_cond rfl (fun h13 => ?_) (fun h13 => ?_)
  ·exact absurd hbi (by simpa using h13)
  refine wc_skip (qs_seq ?_)
  refine wc_sub (L' := [(10, _), (9, _), (3, _), (4, _), (5, _), (6, _), (7, _), (8, _)]) (.cons rfl (.cons rfl (.cons rfl (.cons rfl (.cons rfl (.cons rfl (.cons rfl (.cons rfl .nil)))))))) ?_
  refine wc_seq (wc_seq (wc_region ?_))
  refine wl_fieldAddr rfl fo_35_0 rfl ?_
  refine wl_load rfl ag_3 (by first | assumption | exact hS12.cell 0 rfl rfl | exact hS12.cell 2 rfl rfl) rfl ?_
  refine wl_eql rfl rfl rfl ?_
  refine wl_nil (qs_seq ?_)
  refine wc_condD rfl (fun h14 => ?_) (fun h14 => ?_)
  ·have hkd : (gI' (groW l) (ky.drop 2)).k = 2 := h14
   refine wc_seq (wc_region (wl_move rfl rfl ?_))
   refine wl_add rfl rfl (by first | omega | (simp; omega)) (by first | omega | (simp; omega)) rfl ?_
   refine wl_assign rfl rfl (wl_nil (qs_seq ?_))
   refine wc_sub (L' := [(7, _), (10, _), (9, _), (3, _), (4, _), (5, _), (6, _), (8, _)]) (.cons rfl (.cons rfl (.cons rfl (.cons rfl (.cons rfl (.cons rfl (.cons rfl (.cons rfl .nil)))))))) ?_
   refine wc_exit (qs_then_exit (qs_block_exit (qs_seq (wc_region (wl_move rfl rfl ?_)))))
   refine wl_add rfl rfl (by first | omega | (simp; omega)) (by first | omega | (simp; omega)) rfl ?_
   refine wl_assign rfl rfl (wl_nil ?_)
   have hct := countP_take (p := (fun k : Bs => decide ((gI' (groW l) (k.drop 2)).k = 2))) hky
   rw [if_pos (decide_eq_true hkd)] at hct
   exact qs_round (L1 := [(3, _), (4, _), (5, _), (6, _), (7, intV (((lk.take (i + 1)).countP (fun k : Bs => decide ((gI' (groW l) (k.drop 2)).k = 2)) : Nat) : Int)), (8, intV ((i + 1 : Nat) : Int))]) (by rw [hct]; exact (.cons rfl (.cons rfl (.cons rfl (.cons rfl (.cons rfl (.cons rfl .nil))))))) (k1 := lk.length - (i + 1)) (by omega) ⟨i + 1, rfl, rfl, hS12.pick [2, 3, 4, 5, 1, 6] rfl, by omega⟩
  have hkd : ¬ (gI' (groW l) (ky.drop 2)).k = 2 := h14
  refine wc_skip (qs_seq ?_)
  refine wc_sub (L' := [(10, _), (9, _), (3, _), (4, _), (5, _), (6, _), (7, _), (8, _)]) (.cons rfl (.cons rfl (.cons rfl (.cons rfl (.cons rfl (.cons rfl (.cons rfl (.cons rfl .nil)))))))) ?_
  refine wc_seq (wc_region (wl_assign rfl rfl (wl_nil (qs_seq (wc_seq (wc_seq (wc_region (wl_assign rfl rfl (wl_nil (qs_seq (wc_block ?_)))))))))))
  refine wc_loop (fun K0 E0 W0 => ∃ (j : Nat), K0 = (filesOf (groW l) nk9).length - j ∧ E0 = [(3, .bool true), (4, ptrV p 0), (5, ptrV kb 0), (6, .slice ka lk.length kc), (7, intV (((lk.take i).countP (fun k : Bs => decide ((gI' (groW l) (k.drop 2)).k = 2)) : Nat) : Int)), (8, intV (i : Int)), (9, strV (ky.drop 2)), (10, ptrV nb 0), (12, intV ((((filesOf (groW l) nk9).take j).countP (fun x => decide (x = (ky.drop 2))) : Nat) : Int)), (13, intV (j : Int))] ∧ Sat W0 [blkT nb [intV (gI' (groW l) (ky.drop 2)).k, intV (gI' (groW l) (ky.drop 2)).sz, intV (gI' (groW l) (ky.drop 2)).ln], blkT kb [ptrV p 0, dv, fv, .bool true], rowT stC dv nd9, rowT stC fv (filesOf (groW l) nk9), rowT stC (.slice ka lk.length kc) lk, worldT p (groW l), F] ∧ (j ≤ (filesOf (groW l) nk9).length)) (L0 := [(3, _), (4, _), (5, _), (6, _), (7, _), (8, _), (9, _), (10, _), (12, _), (13, _)]) ((filesOf (groW l) nk9).length - 0) (.cons rfl (.cons rfl (.cons rfl (.cons rfl (.cons rfl (.cons rfl (.cons rfl (.cons rfl (.cons rfl (.cons rfl .nil)))))))))) ⟨0, rfl, rfl, hS12.pick [0, 2, 3, 4, 5, 1, 6] rfl, by omega⟩ ?_
  rintro _ _ w15 ⟨j, rfl, rfl, hS15, hj⟩
  have hc1 := List.countP_le_length (p := (fun x => decide (x = (ky.drop 2)))) (l := (filesOf (groW l) nk9).take j)
  rw [List.length_take] at hc1
  refine wc_seq (wc_seq (wc_region (wl_move rfl rfl (wl_move rfl rfl (wl_nilCheck rfl rfl ?_)))))
  refine wl_fieldAddr rfl fo_74_2 rfl ?_
  refine wl_load rfl ag_40 (by first | assumption | exact hS15.cell 0 rfl rfl | exact hS15.cell 1 rfl rfl) rfl ?_
  first | refine wl_lenL Tryz.underlying40 rfl rfl ?_ | refine wl_lenO 2 hS15 Tryz.underlying40 rfl rfl rfl ?_ | refine wl_lenO 3 hS15 Tryz.underlying40 rfl rfl rfl ?_ | refine wl_lenO 4 hS15 Tryz.underlying40 rfl rfl rfl ?_
  refine wl_lss rfl rfl rfl ?_
  refine wl_nil (qs_seq ?_)
  refine wc_sub (L' := [(66, _), (3, _), (4, _), (5, _), (6, _), (7, _), (8, _), (9, _), (10, _), (12, _), (13, _)]) (.cons rfl (.cons rfl (.cons rfl (.cons rfl (.cons rfl (.cons rfl (.cons rfl (.cons rfl (.cons rfl (.cons rfl (.cons rfl .nil))))))))))) ?_
  refine wc_condD rfl (fun h16 => ?_) (fun h16 => ?_)
  ·obtain ⟨fx, hfx⟩ : ∃ y, (filesOf (groW l) nk9)[j]? = some y := ⟨_, List.getElem?_eq_getElem (by omega)⟩
   refine wc_skip (qs_seq (wc_seq (wc_block (wc_seq (wc_region (wl_move rfl rfl (wl_nilCheck rfl rfl ?_)))))))
   refine wl_fieldAddr rfl fo_74_2 rfl ?_
   refine wl_load rfl ag_40 (by first | assumption | exact hS15.cell 0 rfl rfl | exact hS15.cell 1 rfl rfl) rfl ?_
   refine wl_move rfl rfl ?_
   refine wl_rowIdx stC 3 j hS15 rfl rfl rfl (by first | rfl | omega) hfx es_40 rfl ?_
   intro bx17 capx17 hvx17
   refine wl_rowLoad 3 j 0 hS15 rfl hvx17 rfl rfl hfx ag_9 rfl rfl ?_
   refine wl_move rfl rfl ?_
   refine wl_eqlS rfl rfl rfl ?_
   refine wl_nil (qs_seq ?_)
   refine wc_sub (L' := [(77, _), (3, _), (4, _), (5, _), (6, _), (7, _), (8, _), (9, _), (10, _), (12, _), (13, _)]) (.cons rfl (.cons rfl (.cons rfl (.cons rfl (.cons rfl (.cons rfl (.cons rfl (.cons rfl (.cons rfl (.cons rfl (.cons rfl .nil))))))))))) ?_
   refine wc_condD rfl (fun h18 => ?_) (fun h18 => ?_)
   ·refine wc_region (wl_move rfl rfl ?_)
    refine wl_add rfl rfl (by first | omega | (simp; omega)) (by first | omega | (simp; omega)) rfl ?_
    refine wl_assign rfl rfl (wl_nil (qs_block_normal (qs_seq ?_)))
    refine wc_sub (L' := [(12, _), (3, _), (4, _), (5, _), (6, _), (7, _), (8, _), (9, _), (10, _), (13, _)]) (.cons rfl (.cons rfl (.cons rfl (.cons rfl (.cons rfl (.cons rfl (.cons rfl (.cons rfl (.cons rfl (.cons rfl .nil)))))))))) ?_
    refine wc_region (wl_move rfl rfl ?_)
    refine wl_add rfl rfl (by first | omega | (simp; omega)) (by first | omega | (simp; omega)) rfl ?_
    refine wl_assign rfl rfl (wl_nil ?_)
    have hct := countP_take (p := (fun x => decide (x = (ky.drop 2)))) hfx
    rw [if_pos (decide_eq_true (by assumption))] at hct
    exact qs_round (L1 := [(3, _), (4, _), (5, _), (6, _), (7, _), (8, _), (9, _), (10, _), (12, intV ((((filesOf (groW l) nk9).take (j + 1)).countP (fun x => decide (x = (ky.drop 2))) : Nat) : Int)), (13, intV ((j + 1 : Nat) : Int))]) (by rw [hct]; exact (.cons rfl (.cons rfl (.cons rfl (.cons rfl (.cons rfl (.cons rfl (.cons rfl (.cons rfl (.cons rfl (.cons rfl .nil))))))))))) (k1 := (filesOf (groW l) nk9).length - (j + 1)) (by omega) ⟨j + 1, rfl, rfl, hS15.pick [0, 1, 2, 3, 4, 5, 6] rfl, by omega⟩
   refine wc_skip (qs_block_normal (qs_seq (wc_region (wl_move rfl rfl ?_))))
   refine wl_add rfl rfl (by first | omega | (simp; omega)) (by first | omega | (simp; omega)) rfl ?_
   refine wl_assign rfl rfl (wl_nil ?_)
   have hct := countP_take (p := (fun x => decide (x = (ky.drop 2)))) hfx
   rw [if_neg (by rw [decide_eq_false (by assumption)]; decide), Nat.add_zero] at hct
   exact qs_round (L1 := [(3, _), (4, _), (5, _), (6, _), (7, _), (8, _), (9, _), (10, _), (12, intV ((((filesOf (groW l) nk9).take (j + 1)).countP (fun x => decide (x = (ky.drop 2))) : Nat) : Int)), (13, intV ((j + 1 : Nat) : Int))]) (by rw [hct]; exact (.cons rfl (.cons rfl (.cons rfl (.cons rfl (.cons rfl (.cons rfl (.cons rfl (.cons rfl (.cons rfl (.cons rfl .nil))))))))))) (k1 := (filesOf (groW l) nk9).length - (j + 1)) (by omega) ⟨j + 1, rfl, rfl, hS15.pick [0, 1, 2, 3, 4, 5, 6] rfl, by omega⟩
  obtain rfl : j = (filesOf (groW l) nk9).length := by omega
  have hln := hT.links (nd := nd9) (nk := nk9) hF9 hni (by rw [← hgi]; exact hkd)
  refine wc_exit (qs_then_exit (qs_then_exit (qs_block_exit (qs_seq ?_))))
  refine wc_sub (L' := [(3, _), (4, _), (5, _), (6, _), (7, _), (8, _), (10, _), (12, _)]) (.cons rfl (.cons rfl (.cons rfl (.cons rfl (.cons rfl (.cons rfl (.cons rfl (.cons rfl .nil)))))))) ?_
  refine wc_seq (wc_region ?_)
  refine wl_fieldAddr rfl fo_35_2 rfl ?_
  refine wl_load rfl ag_3 (by first | assumption | exact hS15.cell 0 rfl rfl | exact hS15.cell 1 rfl rfl) rfl ?_
  refine wl_move rfl rfl ?_
  refine wl_neq rfl rfl rfl ?_
  refine wl_nil (qs_seq ?_)
  refine wc_sub (L' := [(83, _), (3, _), (4, _), (5, _), (6, _), (7, _), (8, _)]) (.cons rfl (.cons rfl (.cons rfl (.cons rfl (.cons rfl (.cons rfl (.cons rfl .nil))))))) ?_
  refine wc_condD rfl (fun h19 => ?_) (fun h19 => ?_)
  ·exact absurd (by rw [hgi, hln, List.take_length]) h19
  refine wc_skip (qs_block_normal (qs_seq (wc_region (wl_move rfl rfl ?_))))
  refine wl_add rfl rfl (by first | omega | (simp; omega)) (by first | omega | (simp; omega)) rfl ?_
  refine wl_assign rfl rfl (wl_nil ?_)
  have hct := countP_take (p := (fun k : Bs => decide ((gI' (groW l) (k.drop 2)).k = 2))) hky
  rw [if_neg (by rw [decide_eq_false hkd]; decide), Nat.add_zero] at hct
  exact qs_round (L1 := [(3, _), (4, _), (5, _), (6, _), (7, intV (((lk.take (i + 1)).countP (fun k : Bs => decide ((gI' (groW l) (k.drop 2)).k = 2)) : Nat) : Int)), (8, intV ((i + 1 : Nat) : Int))]) (by rw [hct]; exact (.cons rfl (.cons rfl (.cons rfl (.cons rfl (.cons rfl (.cons rfl .nil))))))) (k1 := lk.length - (i + 1)) (by omega) ⟨i + 1, rfl, rfl, hS15.pick [1, 2, 3, 4, 5, 6] rfl, by omega⟩
 refine wc_exit (qs_then_exit (qs_then_exit (qs_block_exit (qs_seq (wc_seq (wc_region (wl_move rfl rfl (wl_move rfl rfl ?_))))))))
 refine wl_guard rfl rfl rfl ?_
 refine wl_move rfl rfl ?_
 refine wl_guard rfl rfl rfl ?_
 refine wl_move rfl rfl ?_
 refine wl_guard rfl rfl rfl ?_
 refine wl_nilCheck rfl rfl ?_
 refine wl_guard rfl rfl rfl ?_
 refine wl_fieldAddr rfl fo_74_1 rfl ?_
 refine wl_guard rfl rfl rfl ?_
 refine wl_load rfl ag_40 (by first | assumption | exact hS7.cell 0 rfl rfl) rfl ?_
 refine wl_guard rfl rfl rfl ?_
 first | refine wl_lenL Tryz.underlying40 rfl rfl ?_ | refine wl_lenO 1 hS7 Tryz.underlying40 rfl rfl rfl ?_ | refine wl_lenO 2 hS7 Tryz.underlying40 rfl rfl rfl ?_ | refine wl_lenO 3 hS7 Tryz.underlying40 rfl rfl rfl ?_
 refine wl_guard rfl rfl rfl ?_
 refine wl_eql rfl rfl rfl ?_
 refine wl_pickT rfl rfl rfl rfl ?_
 refine wl_assign rfl rfl (wl_nil (qs_seq ?_))
 refine wc_sub (L' := [(2, _)]) (.cons rfl .nil) ?_
 refine wc_ret ?_
 refine fin1 (.inr rfl) rfl rfl ?_
 obtain rfl : i = lk.length := by omega
 have hdd := hT.dirs hF9 hlk
 exact ⟨_, rfl, by rw [List.take_length, hdd]; simp, hS7.pick [5] rfl⟩
end Go.Proofs.YtkaikhcpcbjkcaaGreatDoor
/- How the arguments of a law read: a relation between cells and plain data for each type, built by shape; and the step from a law's contract to its row. -/
namespace Go.Proofs.YtkaikhcpcbjkcaaGreatDoor.M
open Go.ChangeShapes Go.WideShapes Go.ChangeAt Go.RowKit Go.Deep
/-- the cells cs lie at ⟨b, off⟩ -/
def At (w : World) (b off : Nat) (cs : List Value) : Prop := ∀ j v, cs[j]? = some v → w.cell? ⟨b, off + j, none⟩ = some v
theorem At.cell {w : World} {b off : Nat} {cs : List Value} (h : At w b off cs) (j : Nat) {v : Value} (hv : cs[j]? = some v) : w.cell? ⟨b, off + j, none⟩ = some v := h j v hv
theorem At.below {B : Nat} {w w' : World} {b off : Nat} {cs : List Value} (h : At w b off cs) (hb : Below B w w') (hB : b < B) : At w' b off cs :=
  fun j v hv => (hb.cell (p := ⟨b, off + j, none⟩) hB).trans (h j v hv)
/-- a type, read as α -/
structure Cod (P : Program) (t : TypeId) (α : Type) where
  rd : World → List Value → α → Prop
  size : Nat
  cells : P.cellsOf t = size
  down : ∀ {H : Type} {enc : TypeId × Value → H} {w : World} {base : Nat} {spare : Nat → Bool} {held : Bool} {fuel : Nat} {cs : List Value} {x : DataW H × List MemPlace},
    DataW.trod enc P w base spare held fuel t cs = some x → ∃ a, rd w cs a
  len : ∀ {w cs a}, rd w cs a → cs.length = size
  keep : ∀ {w w' cs a}, Below w.heap.size w w' → rd w cs a → rd w' cs a
section
variable {P : Program}
def Cod.int {t : TypeId} (k : IntKind) (ht : P.underlying t = some (.int k)) (hc : P.cellsOf t = 1) : Cod P t Int where
  rd := fun _ cs n => cs = [.int k n] ∧ (Lit.int k n).wf = true
  size := 1
  cells := hc
  down := fun h => by
    obtain ⟨n, h1, _, h2⟩ := DataW.trod_int ht h
    exact ⟨n, h1, h2⟩
  len := fun h => by rw [h.1]; rfl
  keep := fun _ h => h
def Cod.byte {t : TypeId} (ht : P.underlying t = some (.int .u8)) (hc : P.cellsOf t = 1) : Cod P t UInt8 where
  rd := fun _ cs n => cs = [.int .u8 (n.toNat : Int)]
  size := 1
  cells := hc
  down := fun h => by
    obtain ⟨n, h1, _, h2⟩ := DataW.trod_int ht h
    have hb := bounds_u8 h2
    refine ⟨UInt8.ofNat n.toNat, ?_⟩
    have e : ((UInt8.ofNat n.toNat).toNat : Int) = n := by simp; omega
    rw [e]; exact h1
  len := fun h => by rw [h]; rfl
  keep := fun _ h => h
def Cod.bool {t : TypeId} (ht : P.underlying t = some .bool) (hc : P.cellsOf t = 1) : Cod P t Bool where
  rd := fun _ cs n => cs = [.bool n]
  size := 1
  cells := hc
  down := fun h => by
    obtain ⟨n, h1, _⟩ := DataW.trod_bool ht h
    exact ⟨n, h1⟩
  len := fun h => by rw [h]; rfl
  keep := fun _ h => h
def Cod.string {t : TypeId} (ht : P.underlying t = some .string) (hc : P.cellsOf t = 1) : Cod P t ByteArray where
  rd := fun _ cs s => cs = [.string s] ∧ s.size ≤ 9223372036854775807
  size := 1
  cells := hc
  down := fun h => by
    obtain ⟨n, h1, _, h2⟩ := DataW.trod_string ht h
    exact ⟨n, h1, h2⟩
  len := fun h => by rw [h.1]; rfl
  keep := fun _ h => h
/-- a slice's value v reads as l: each element's cells lie in its place -/
def SliceRd {α : Type} (rd : World → List Value → α → Prop) (size : Nat) (w : World) (v : Value) (l : List α) : Prop :=
  ∃ ao cap, v = .slice ao l.length cap ∧ l.length ≤ cap ∧ cap ≤ 9223372036854775807 ∧ ∀ (i : Nat) (a : α), l[i]? = some a → ∃ b off cs, ao = some ⟨b, off, none⟩ ∧ b < w.heap.size ∧ At w b (off + i * size) cs ∧ rd w cs a
def Cod.slice {t e : TypeId} {α : Type} [Inhabited α] (ht : P.underlying t = some (.slice e)) (hc : P.cellsOf t = 1) (c : Cod P e α) (hpos : 0 < c.size) : Cod P t (List α) where
  rd := fun w cs l => ∃ v, cs = [v] ∧ SliceRd c.rd c.size w v l
  size := 1
  cells := hc
  down := fun {H enc w base spare held fuel cs x} h => by
    rcases open_slice ht h with ⟨rfl, _⟩ | ⟨a, len, cap, m, n, D, Pl, rfl, hb, hl, hm, hmm, _, hx⟩
    · exact ⟨[], _, rfl, none, 0, rfl, Nat.le_refl _, by omega, fun i a hi => by simp at hi⟩
    · have hlm : len ≤ m := by rw [hmm]; split <;> omega
      have hex : ∀ i, i < len → ∃ y : α, ∃ cs', c.rd w cs' y ∧ (∀ j v, cs'[j]? = some v → w.cell? (a.add (i * c.size + j)) = some v) := by
        intro i hi
        obtain ⟨cs', h1, h2⟩ := hx i (by omega)
        obtain ⟨y, hy⟩ := c.down h2
        obtain ⟨_, hlen, hat⟩ := World.cells?_some h1
        refine ⟨y, cs', hy, fun j v hv => ?_⟩
        have hj : j < cs'.length := (List.getElem?_eq_some_iff.1 hv).1
        rw [c.cells] at hlen hat
        rw [← Go.Deep.add_add, hat j (by omega), hv]
      obtain ⟨f, hf⟩ := choose_lt hex
      refine ⟨(List.range len).map f, _, rfl, some a, cap, by simp, by simpa using hl, hm, fun i y hi => ?_⟩
      have hil : i < len := by have := (List.getElem?_eq_some_iff.1 hi).1; simpa using this
      simp [hil] at hi
      subst hi
      obtain ⟨cs', hrd, hat⟩ := hf i hil
      have hcl := c.len hrd
      obtain ⟨b, off, spot⟩ := a
      have h0 := hat 0 cs'[0] (List.getElem?_eq_getElem (by omega))
      have hspot : spot = none := by
        have := World.cell?_spot h0
        unfold Addr.add at this
        split at this
        · exact this
        · obtain ⟨i0, hi0⟩ : ∃ i0, i0 < len ∧ i0 = 0 := ⟨0, by omega, rfl⟩
          obtain ⟨hi1, rfl⟩ := hi0
          obtain ⟨cs0, hrd0, hat0⟩ := hf 0 hi1
          have hcl0 := c.len hrd0
          have h00 := hat0 0 cs0[0] (List.getElem?_eq_getElem (by omega))
          have := World.cell?_spot h00
          simpa [Addr.add] using this
      subst hspot
      refine ⟨b, off, cs', rfl, ?_, fun j v hv => ?_, hrd⟩
      · have := block_lt_of_cell h0
        rw [addr_add] at this
        exact this
      · have := hat j v hv
        rw [addr_add] at this
        rw [Nat.add_assoc]; exact this
  len := fun ⟨v, h, _⟩ => by rw [h]; rfl
  keep := fun {w w' cs l} hb ⟨v, h1, ao, cap, h2, h3, h4, h5⟩ => ⟨v, h1, ao, cap, h2, h3, h4, fun i a hi => by
    obtain ⟨b, off, cs', e1, e2, e3, e4⟩ := h5 i a hi
    exact ⟨b, off, cs', e1, Nat.lt_of_lt_of_le e2 hb.size, e3.below hb e2, c.keep hb e4⟩⟩
/-- fields one behind the other -/
structure Flds (P : Program) (fs : List Field) (off : Nat) (α : Type) where
  rd : World → List Value → α → Prop
  size : Nat
  down : ∀ {H : Type} {enc : TypeId × Value → H} {w : World} {base : Nat} {spare : Nat → Bool} {held : Bool} {n : Nat} {cs : List Value} {xs : List (DataW H × List MemPlace)},
    (∀ (i : Nat) (f : Field), fs[i]? = some f → ∃ x, DataW.trod enc P w base spare held n f.type ((cs.drop f.offset).take (P.cellsOf f.type)) = some x) → ∃ a, rd w ((cs.drop off).take size) a
  len : ∀ {w cs a}, rd w cs a → cs.length = size
  keep : ∀ {w w' cs a}, Below w.heap.size w w' → rd w cs a → rd w' cs a
def Flds.nil (off : Nat) : Flds P [] off Unit where
  rd := fun _ cs _ => cs = []
  size := 0
  down := fun _ => ⟨(), by simp⟩
  len := fun h => by rw [h]; rfl
  keep := fun _ h => h
def Flds.cons {f : Field} {fs : List Field} {off : Nat} {α β : Type} (c : Cod P f.type α) (ho : f.offset = off) (r : Flds P fs (off + c.size) β) : Flds P (f :: fs) off (α × β) where
  rd := fun w cs a => ∃ cs1 cs2, cs = cs1 ++ cs2 ∧ c.rd w cs1 a.1 ∧ r.rd w cs2 a.2
  size := c.size + r.size
  down := fun {H enc w base spare held n cs xs} h => by
    obtain ⟨x, hx⟩ := h 0 f rfl
    rw [ho, c.cells] at hx
    obtain ⟨a, ha⟩ := c.down hx
    obtain ⟨b, hb⟩ := r.down (xs := xs) (fun i g hg => h (i + 1) g (by simpa using hg))
    refine ⟨(a, b), _, _, ?_, ha, hb⟩
    rw [← List.drop_drop]
    exact List.take_add ..
  len := fun ⟨cs1, cs2, h, h1, h2⟩ => by rw [h, List.length_append, c.len h1, r.len h2]
  keep := fun hb ⟨cs1, cs2, h, h1, h2⟩ => ⟨cs1, cs2, h, c.keep hb h1, r.keep hb h2⟩
def Cod.struct {t : TypeId} {fs : List Field} {α : Type} (ht : P.underlying t = some (.struct fs.toArray)) (r : Flds P fs 0 α) (hc : P.cellsOf t = r.size) : Cod P t α where
  rd := r.rd
  size := r.size
  cells := hc
  down := fun {H enc w base spare held fuel cs x} h => by
    obtain ⟨xs, n, _, _, hl, hxl, hf⟩ := DataW.trod_struct ht h
    obtain ⟨a, ha⟩ := r.down (xs := xs) (n := n) (enc := enc) (w := w) (base := base) (spare := spare) (held := held) (cs := cs) (fun i f hi => by
      have h1 := hf i f (by simpa using hi)
      have hil := (List.getElem?_eq_some_iff.1 hi).1
      rw [h1, List.getElem?_eq_getElem (by rw [hxl]; simpa using hil)]
      exact ⟨_, rfl⟩)
    refine ⟨a, ?_⟩
    rw [List.drop_zero, List.take_of_length_le (by omega)] at ha
    exact ha
  len := r.len
  keep := r.keep
/-- as another type -/
def Cod.map {t : TypeId} {α β : Type} (c : Cod P t α) (f : α → β) : Cod P t β where
  rd := fun w cs b => ∃ a, b = f a ∧ c.rd w cs a
  size := c.size
  cells := c.cells
  down := fun h => by obtain ⟨a, ha⟩ := c.down h; exact ⟨f a, a, rfl, ha⟩
  len := fun ⟨a, _, h⟩ => c.len h
  keep := fun hb ⟨a, e, h⟩ => ⟨a, e, c.keep hb h⟩
/-- the arguments are all read again behind a call that has changed nothing that was there -/
theorem trodAll_stays {H : Type} {enc : TypeId × Value → H} (hl : laidOutB P = true) {W W' : World} (hb : Below W.heap.size W W') :
    ∀ (ts : List TypeId) (vs : List Value) (ds : List (DataW H)) (ps : List MemPlace), (∀ t ∈ ts, P.readableRec t = true ∧ t < P.types.size) →
      DataW.TrodAll enc P W 0 (fun _ => true) true ts vs ds ps → DataW.TrodAll enc P W' 0 (fun b => decide (b < W.heap.size)) true ts vs ds ps
  | [], vs, ds, ps, _, h => by
    obtain ⟨rfl, rfl, rfl⟩ := trodAll_nil h
    exact rfl
  | t :: ts, vs, ds, ps, hr, h => by
    obtain ⟨v, vs', d, ds', p, q, rfl, rfl, rfl, h0, h1⟩ := trodAll_cons h
    have lt0 : ∀ x ∈ p, x.block < W.heap.size := by obtain ⟨m, hm⟩ := h0; exact DataW.trod_lt m _ _ _ hm
    obtain ⟨r1, r2⟩ := hr t (by simp)
    exact trodAll_cons_mk (Below.trod hl r1 r2 h0 hb lt0) (trodAll_stays hl hb ts vs' ds' q (fun t ht => hr t (by simp [ht])) h1)
end
end Go.Proofs.YtkaikhcpcbjkcaaGreatDoor.M
/- laws of names: how the arguments read -/
namespace Go.Proofs.YtkaikhcpcbjkcaaGreatDoor
open Go.RowKit M
set_option linter.unusedVariables false
theorem var_iface {P : Program} {w : World} {name : String} {g t : Nat} (hn : P.globalNamed name = some g) (hy : (P.globals[g]?).map (·.type) = some t) (ht : isIface P t = true) {nm : String} {x : DataW Unit} (h : Lib.VarReads P w name (.iface nm x)) : ∃ tp p, w.var? P name = some #[.iface tp p] := by
  obtain ⟨g', t', cs, fuel, p, h1, h2, h3, h4⟩ := h
  obtain rfl := Option.some.inj (hn.symm.trans h1)
  obtain rfl := Option.some.inj (hy.symm.trans h2)
  unfold isIface at ht
  cases hq : P.underlying t with
  | none => rw [hq] at ht; cases ht
  | some d =>
    rw [hq] at ht
    cases d <;> simp at ht
    cases fuel with
    | zero => simp [DataW.trod] at h4
    | succ fuel =>
      obtain ⟨l⟩ := cs
      match l, h3, h4 with
      | [], _, h4 => simp [DataW.trod, hq] at h4
      | [v], h3, h4 =>
        cases v with
        | iface a b => exact ⟨a, b, h3⟩
        | _ => simp [DataW.trod, hq] at h4
      | _ :: _ :: _, _, h4 => simp [DataW.trod, hq] at h4
theorem gPow : Tryz.prog.globalNamed "internal/strconv.uint64pow10" = some 5 := by kernel_rfl
theorem gSyn : Tryz.prog.globalNamed "strconv.ErrSyntax" = some 3 := by kernel_rfl
theorem gRng : Tryz.prog.globalNamed "strconv.ErrRange" = some 4 := by kernel_rfl
theorem tPow : (Tryz.prog.globals[5]?).map (·.type) = some 200 := by kernel_rfl
theorem tSyn : (Tryz.prog.globals[3]?).map (·.type) = some 156 := by kernel_rfl
theorem tRng : (Tryz.prog.globals[4]?).map (·.type) = some 156 := by kernel_rfl
theorem cPow : Tryz.prog.cellsOf 200 = 20 := by kernel_rfl
theorem cU64 : Tryz.prog.cellsOf 153 = 1 := by kernel_rfl
theorem wireG_of {W : World} {l : List (String × DataW Unit)} (h : laidMet Tryz.prog l W) (h1 : ("internal/strconv.uint64pow10", Rows.laid_internal_strconv_uint64pow10) ∈ l) (h2 : ("strconv.ErrSyntax", Rows.laid_strconv_ErrSyntax) ∈ l) (h3 : ("strconv.ErrRange", Rows.laid_strconv_ErrRange) ∈ l) : WireG W where
  tab := by
    obtain ⟨g', t', cs, fuel, p, e1, e2, e3, e4⟩ := Lib.laidMet.reads h h1
    obtain rfl := Option.some.inj (gPow.symm.trans e1)
    obtain rfl := Option.some.inj (tPow.symm.trans e2)
    unfold Lib.TabIs
    rw [e3]
    have e5 := Lib.cells_of_tab (zs := Lib.pow10Tab) (k := .u64) Tryz.underlying200 Tryz.underlying153 cU64 cPow (by exact e4)
    rw [← e5]
  syn := var_iface gSyn tSyn (by kernel_rfl) (Lib.laidMet.reads h h2)
  rng := var_iface gRng tRng (by kernel_rfl) (Lib.laidMet.reads h h3)
instance : Inhabited AcD := ⟨⟨0, [], [], [], [], [], zI⟩⟩
theorem nwf_in {n : Int} (h : (Lit.int .i64 n).wf = true) : inI n := by
  simp [Lit.wf, IntKind.min, IntKind.max, IntKind.signed, IntKind.bits] at h
  unfold inI; omega
def nintC : Cod Tryz.prog 3 Int := Cod.int .i64 Tryz.underlying3 (by kernel_rfl)
def nstrC : Cod Tryz.prog 9 ByteArray := Cod.string Tryz.underlying9 (by kernel_rfl)
def ninC : Cod Tryz.prog 35 (Int × Int × Int × Unit) :=
  Cod.struct (P := Tryz.prog) Tryz.underlying35 (Flds.cons nintC rfl (Flds.cons nintC rfl (Flds.cons nintC rfl (Flds.nil _)))) (by kernel_rfl)
def actCod : Cod Tryz.prog 37 (Int × ByteArray × ByteArray × ByteArray × ByteArray × ByteArray × (Int × Int × Int × Unit) × Unit) :=
  Cod.struct (P := Tryz.prog) Tryz.underlying37 (Flds.cons nintC rfl (Flds.cons nstrC rfl (Flds.cons nstrC rfl (Flds.cons nstrC rfl (Flds.cons nstrC rfl (Flds.cons nstrC rfl (Flds.cons ninC rfl (Flds.nil _)))))))) (by kernel_rfl)
def acOf (y : (Int × ByteArray × ByteArray × ByteArray × ByteArray × ByteArray × (Int × Int × Int × Unit) × Unit)) : AcD := ⟨y.1, y.2.1.data.toList, y.2.2.1.data.toList, y.2.2.2.1.data.toList, y.2.2.2.2.1.data.toList, y.2.2.2.2.2.1.data.toList, ⟨y.2.2.2.2.2.2.1.1, y.2.2.2.2.2.2.1.2.1, y.2.2.2.2.2.2.1.2.2.1⟩⟩
theorem act_of {W : World} {cs : List Value} {y : (Int × ByteArray × ByteArray × ByteArray × ByteArray × ByteArray × (Int × Int × Int × Unit) × Unit)} (h : actCod.rd W cs y) : InB (acOf y).n ∧ cs = acV (acOf y) := by
  obtain ⟨c1, cs1, rfl, ⟨rfl, _⟩, c2, cs2, rfl, ⟨rfl, _⟩, c3, cs3, rfl, ⟨rfl, _⟩, c4, cs4, rfl, ⟨rfl, _⟩, c5, cs5, rfl, ⟨rfl, _⟩, c6, cs6, rfl, ⟨rfl, _⟩, c7, cs7, rfl, ⟨k1, ks1, rfl, ⟨rfl, g1⟩, k2, ks2, rfl, ⟨rfl, g2⟩, k3, ks3, rfl, ⟨rfl, g3⟩, rfl⟩, rfl⟩ := h
  exact ⟨⟨nwf_in g1, nwf_in g2, nwf_in g3⟩, by simp [acV, acOf]⟩
theorem acts_of {W : World} {v : Value} {l : List (Int × ByteArray × ByteArray × ByteArray × ByteArray × ByteArray × (Int × Int × Int × Unit) × Unit)} (h : SliceRd actCod.rd actCod.size W v l) : ∃ l' : List AcD, (∀ (i : Nat) (x : AcD), l'[i]? = some x → InB x.n) ∧ ∀ w, Below W.heap.size W w → RdL acC v l' w := by
  obtain ⟨ao, cap, h1, h2, h3, h4⟩ := h
  have hex : ∀ i, i < l.length → ∃ a : AcD, InB a.n ∧ ∀ w, Below W.heap.size W w → ∃ b off, ao = some ⟨b, off, none⟩ ∧ ∀ (j : Nat) (u : Value), (acV a)[j]? = some u → w.cell? ⟨b, off + i * 9 + j, none⟩ = some u := by
    intro i hi
    obtain ⟨b, off, cs, e1, e2, e3, e4⟩ := h4 i l[i] (List.getElem?_eq_getElem hi)
    obtain ⟨g, e5⟩ := act_of e4
    refine ⟨acOf l[i], g, fun w hb => ⟨b, off, e1, fun j u hu => ?_⟩⟩
    exact (hb.cell (p := ⟨b, off + i * 9 + j, none⟩) e2).trans (e3 j u (by rw [e5]; exact hu))
  obtain ⟨f, hf⟩ := Go.Deep.choose_lt (n := l.length) hex
  refine ⟨(List.range l.length).map f, fun i x hx => ?_, fun w hb => ⟨ao, cap, by simpa using h1, by simp; omega, fun i a hi => ?_⟩⟩
  · have hil : i < l.length := by have := (List.getElem?_eq_some_iff.1 hx).1; simpa using this
    simp [hil] at hx
    subst hx
    exact (hf i hil).1
  · have hil : i < l.length := by have := (List.getElem?_eq_some_iff.1 hi).1; simpa using this
    simp [hil] at hi
    subst hi
    exact (hf i hil).2 w hb
theorem nbelow_of {W w : World} (h : Sat w [frameT W]) : Below W.heap.size W w := h.below 0 rfl
theorem ent_wire {W : World} (h : WireG W) : Ent (frameT W) WireG := Ent.frame fun w hb => h.below hb
theorem tree_row {W : World} {v0 : Value} {l0 : List (Int × ByteArray × ByteArray × ByteArray × ByteArray × ByteArray × (Int × Int × Int × Unit) × Unit)} (hG : WireG W) (h0 : SliceRd actCod.rd actCod.size W v0 l0) :
    Calls Tryz.prog 6 #[v0] W fun e W' => e = .returned (.bool true) ∧ Below W.heap.size W W' := by
  obtain ⟨a0, g0, h0⟩ := acts_of h0
  exact (tree_law (Sat.start W) (ent_wire hG) (Ent.frame h0) g0).mono fun e W' ⟨v, h4, h5, h6⟩ => ⟨by rw [h4, h5], nbelow_of h6⟩
end Go.Proofs.YtkaikhcpcbjkcaaGreatDoor
