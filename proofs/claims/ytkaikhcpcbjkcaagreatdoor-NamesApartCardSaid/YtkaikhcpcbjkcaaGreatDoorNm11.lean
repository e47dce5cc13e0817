/- laws of names: NamesApart -/
import Derived.Test.YtkaikhcpcbjkcaaGreatDoorNm9
import Derived.Test.YtkaikhcpcbjkcaaGreatDoorMem
import Derived.ProofKit
import Derived.OpenShut
import Derived.ShutString
import Derived.ChangeOld
import Derived.Deep.Slices
import Derived.Deep.Fields
import Derived.ChangeSame
import Derived.JoinedCond
import Derived.Lib.LaidU8
import Derived.Test.YtkaikhcpcbjkcaaGreatDoorRows
namespace Go.Proofs.YtkaikhcpcbjkcaaGreatDoor
open Go.RowKit M
set_option linter.unusedVariables false
theorem diff_put {V W : WS} {k v j : Bs} (h : (putS V k v).cells j ≠ W.cells j) : j = k ∨ V.cells j ≠ W.cells j := by
  simp only [putS, updC] at h
  split at h
  · rename_i q; exact .inl q
  · exact .inr h
theorem diff_no {W : WS} {j : Bs} (h : W.cells j ≠ W.cells j) : False := h rfl
theorem look_e {W : WS} {dir name : Bs} (h : (lookV W dir name).e = 0) : (lookV W dir name).id = W.cells (kE dir name) := by
  unfold lookV at h ⊢
  split
  · rename_i q; rw [if_pos q] at h; exact absurd h (by decide)
  · rename_i q
    rw [if_neg q] at h
    split
    · rename_i q2; rw [if_pos q2] at h; exact absurd h q2
    · rfl
/-- the ids that a call may touch -/
def mayI (W : WS) (x : AcD) (k : Bs) : Prop := ∃ j, (j = x.id ∨ j = W.cells (kE x.dir x.name) ∨ j = W.cells (kE x.td x.to)) ∧ (k = kI j ∨ k = kU j)
theorem apart {W : WS} {x : AcD} {k : Bs} (h : (doW W x).cells k ≠ W.cells k) : k = kE x.dir x.name ∨ k = kE x.td x.to ∨ mayI W x k := by
  unfold doW at h
  split at h
  · unfold linkW at h
    split at h
    · rcases diff_put h with rfl | h
      · exact .inr (.inr ⟨_, .inl rfl, .inl rfl⟩)
      · rcases diff_put h with rfl | h
        · exact .inl rfl
        · exact (diff_no h).elim
    · exact (diff_no h).elim
  · split at h
    · unfold unlW at h
      split at h
      · rename_i he
        have hl : (lookV W x.dir x.name).e = 0 := by
          unfold unlE at he
          split at he
          · rename_i q; exact absurd he q
          · rename_i q; exact Decidable.not_not.1 q
        rcases diff_put h with rfl | h
        · exact .inr (.inr ⟨_, .inr (.inl (look_e hl)), .inl rfl⟩)
        · rcases diff_put h with rfl | h
          · exact .inl rfl
          · exact (diff_no h).elim
      · exact (diff_no h).elim
    · split at h
      · unfold mkdW at h
        split at h
        · rcases diff_put h with rfl | h
          · exact .inl rfl
          · rcases diff_put h with rfl | h
            · exact .inr (.inr ⟨_, .inl rfl, .inr rfl⟩)
            · rcases diff_put h with rfl | h
              · exact .inr (.inr ⟨_, .inl rfl, .inl rfl⟩)
              · exact (diff_no h).elim
        · exact (diff_no h).elim
      · split at h
        · unfold rmdW at h
          split at h
          · rename_i he
            have hl : (lookV W x.dir x.name).e = 0 := by
              unfold rmdE at he
              split at he
              · rename_i q; exact absurd he q
              · rename_i q; exact Decidable.not_not.1 q
            rcases diff_put h with rfl | h
            · exact .inr (.inr ⟨_, .inr (.inl (look_e hl)), .inr rfl⟩)
            · rcases diff_put h with rfl | h
              · exact .inr (.inr ⟨_, .inr (.inl (look_e hl)), .inl rfl⟩)
              · rcases diff_put h with rfl | h
                · exact .inl rfl
                · exact (diff_no h).elim
          · exact (diff_no h).elim
        · split at h
          · unfold renW at h
            split at h
            · rename_i he
              have hl2 : (lookV W x.td x.to).e = 0 := by
                have he := he.1
                unfold renE at he
                split at he
                · exact absurd he (by decide)
                · split at he
                  · rename_i q; exact absurd he q
                  · split at he
                    · rename_i q; exact absurd he q
                    · rename_i q; exact Decidable.not_not.1 q
              rcases diff_put h with rfl | h
              · exact .inr (.inl rfl)
              · rcases diff_put h with rfl | h
                · exact .inl rfl
                · unfold repW at h
                  split at h
                  · exact (diff_no h).elim
                  · split at h
                    · split at h
                      · rcases diff_put h with rfl | h
                        · exact .inr (.inr ⟨_, .inr (.inr (look_e hl2)), .inr rfl⟩)
                        · rcases diff_put h with rfl | h
                          · exact .inr (.inr ⟨_, .inr (.inr (look_e hl2)), .inl rfl⟩)
                          · exact (diff_no h).elim
                      · exact (diff_no h).elim
                    · split at h
                      · exact (diff_no h).elim
                      · rcases diff_put h with rfl | h
                        · exact .inr (.inr ⟨_, .inr (.inr (look_e hl2)), .inl rfl⟩)
                        · exact (diff_no h).elim
            · exact (diff_no h).elim
          · split at h
            · rcases diff_put h with rfl | h
              · exact .inr (.inr ⟨_, .inl rfl, .inl rfl⟩)
              · exact (diff_no h).elim
            · rcases diff_put h with rfl | h
              · exact .inr (.inr ⟨_, .inl rfl, .inr rfl⟩)
              · rcases diff_put h with rfl | h
                · exact .inr (.inr ⟨_, .inl rfl, .inl rfl⟩)
                · exact (diff_no h).elim
def mayK (l : List Bs) : List Bs := l.flatMap fun j => [kI j, kU j]
theorem mayK_add (l : List Bs) (j : Bs) : mayK (l ++ [j]) = mayK l ++ [kI j, kU j] := by simp [mayK]
theorem mayK_len (l : List Bs) : (mayK l).length = 2 * l.length := by
  unfold mayK
  induction l with
  | nil => rfl
  | cons a l ih => rw [List.flatMap_cons, List.length_append, ih]; simp; omega
theorem apart_in {W : WS} {x : AcD} {k a b : Bs} (h : (doW W x).cells k ≠ W.cells k) : k ∈ [kE x.dir x.name, kE x.td x.to] ++ mayK [x.id, W.cells (kE x.dir x.name), W.cells (kE x.td x.to), a, b] := by
  rcases apart h with rfl | rfl | ⟨j, hj, hk⟩
  · simp
  · simp
  · refine List.mem_append_right _ ?_
    unfold mayK
    rw [List.mem_flatMap]
    refine ⟨j, ?_, ?_⟩
    · rcases hj with rfl | rfl | rfl <;> simp
    · rcases hk with rfl | rfl <;> simp
set_option maxRecDepth 100000 in
theorem index_sp {w : World} {F : Th} (hS : Sat w [F]) {lv : Value} {l : List Bs} (hL : Ent F (RdL stC lv l)) (s : Bs) :
    Calls Tryz.prog 18 #[lv, strV s] w (Ret fun v w' => ∃ i : Int, v = intV i ∧ ((i = -1 ∧ s ∉ l) ∨ ∃ j : Nat, i = (j : Int) ∧ l[j]? = some s) ∧ Sat w' [F]) := by
 obtain ⟨ao, cap, rfl, hmax⟩ := (hL.sat hS 0 rfl).shape
 refine calls_enter Tryz.func18 rfl Tryz.ntmps18 rfl ?_
 refine wc_seq (wc_region (wl_assign rfl rfl (wl_nil (qs_seq (wc_seq (wc_seq (wc_region (wl_assign rfl rfl (wl_nil (qs_seq (wc_block ?_)))))))))))
 refine wc_loop (fun K0 E0 W0 => ∃ (i : Nat), K0 = l.length - i ∧ E0 = [(0, .slice ao l.length cap), (1, strV s), (5, intV (i : Int))] ∧ Sat W0 [F] ∧ (i ≤ l.length) ∧ (∀ j, j < i → l[j]? ≠ some s)) (L0 := [(0, _), (1, _), (5, _)]) (l.length - 0) (.cons rfl (.cons rfl (.cons rfl .nil))) ⟨0, rfl, rfl, hS, by omega, by omega⟩ ?_
 rintro _ _ w1 ⟨i, rfl, rfl, hS1, hi, hno⟩
 refine wc_seq (wc_seq (wc_region (wl_move rfl rfl (wl_move rfl rfl ?_))))
 refine wl_lenL Tryz.underlying40 rfl rfl ?_
 refine wl_lss rfl rfl rfl ?_
 refine wl_nil (qs_seq ?_)
 refine wc_condD rfl (fun h2 => ?_) (fun h2 => ?_)
 ·obtain ⟨x, hx⟩ : ∃ x, l[i]? = some x := ⟨_, List.getElem?_eq_getElem (by omega)⟩
  obtain ⟨b, off, rfl, hc⟩ := (hL.sat hS1 0 rfl).get hx
  refine wc_skip (qs_seq (wc_seq (wc_block (wc_seq (wc_region (wl_move rfl rfl (wl_move rfl rfl ?_)))))))
  refine wl_indexAddr i rfl rfl (by first | rfl | omega) (by omega) es_40 rfl ?_
  refine wl_load rfl ag_9 (hc 0 _ rfl) rfl ?_
  refine wl_move rfl rfl ?_
  refine wl_eqlS rfl rfl rfl ?_
  refine wl_nil (qs_seq ?_)
  refine wc_sub (L' := [(17, _), (0, _), (1, _), (5, _)]) (.cons rfl (.cons rfl (.cons rfl (.cons rfl .nil)))) ?_
  refine wc_condD rfl (fun h3 => ?_) (fun h3 => ?_)
  ·refine wc_seq (wc_region (wl_move rfl rfl (wl_assign rfl rfl (wl_nil (qs_seq (wc_ret (qs_block_ret (qs_then_ret (qs_then_ret (qs_block_ret (qs_then_ret ?_)))))))))))
   refine fin1 (.inr rfl) rfl rfl ?_
   exact ⟨_, rfl, _, rfl, .inr ⟨i, rfl, by rw [hx]; congr 1⟩, hS1⟩
  refine wc_skip (qs_block_normal (qs_seq (wc_region (wl_move rfl rfl ?_))))
  refine wl_add rfl rfl (by omega) (by omega) rfl ?_
  refine wl_assign rfl rfl (wl_nil ?_)
  exact qs_round (L1 := [(0, _), (1, _), (5, intV ((i + 1 : Nat) : Int))]) (.cons rfl (.cons rfl (.cons rfl .nil))) (k1 := l.length - (i + 1)) (by omega) ⟨i + 1, rfl, rfl, hS1, by omega, fun j hj => by by_cases ej : j = i; (subst ej; rw [hx]; intro qe; injection qe with qe; exact absurd qe (by assumption)); exact hno j (by omega)⟩
 refine wc_exit (qs_then_exit (qs_then_exit (qs_block_exit (qs_seq (wc_seq (wc_region (wl_assign rfl rfl (wl_nil (qs_seq (wc_ret ?_))))))))))
 refine fin1 (.inr rfl) rfl rfl ?_
 exact ⟨_, rfl, _, rfl, .inl ⟨rfl, fun hm => by obtain ⟨j, hj⟩ := List.mem_iff_getElem?.1 hm; exact hno j (by have := (List.getElem?_eq_some_iff.1 hj).1; omega) hj⟩, hS1⟩
set_option maxRecDepth 100000 in
set_option maxHeartbeats 3200000 in
theorem apart_law {w : World} {F : Th} (hS : Sat w [F]) (hG : Ent F WireG) {lv : Value} {l : List AcD} {x : AcD} (hL : Ent F (RdL acC lv l)) (hnb : ∀ (i : Nat) (y : AcD), l[i]? = some y → InB y.n) (hxn : InB x.n) :
    Calls Tryz.prog 4 #[lv, .agg #[intV x.d, strV x.dir, strV x.name, strV x.id, strV x.td, strV x.to, intV x.n.k, intV x.n.sz, intV x.n.ln]] w (Ret fun v w' => v = .bool true ∧ Sat w' [F]) := by
 obtain ⟨ao, cap, rfl, hmax⟩ := (hL.sat hS 0 rfl).shape
 refine calls_enter Tryz.func4 rfl Tryz.ntmps4 rfl ?_
 refine wc_seq (wc_region ?_)
 refine wl_box hS rfl rfl rfl ?_
 intro bx wbx hSbx
 refine wl_assign rfl rfl (wl_nil (qs_seq (wc_seq (wc_region ?_))))
 have hC1 := hSbx.split [] [false, false] rfl; dsimp only [selF, pickA, nthA, List.cons_append, List.nil_append] at hC1
 refine wl_call cal_8 rfl (small_sp hC1 (hG.starL 1 rfl)) rfl ?_
 rintro e w1 ⟨_, rfl, rfl, hS1⟩; refine ⟨_, rfl, ?_⟩
 replace hS1 := hS1.join rfl; dsimp only [List.dropLast, List.cons_append, List.nil_append] at hS1; clear hC1
 clear hSbx
 refine wl_assign rfl rfl (wl_nil (qs_seq (wc_seq (wc_seq (wc_region (wl_move rfl rfl ?_))))))
 have hC2 := hS1.split [] [false, false] rfl; dsimp only [selF, pickA, nthA, List.cons_append, List.nil_append] at hC2
 refine wl_call cal_9 rfl (few_sp hC2 (hL.starL 1 rfl)) rfl ?_
 rintro e w2 ⟨_, rfl, rfl, hS2⟩; refine ⟨_, rfl, ?_⟩
 replace hS2 := hS2.join rfl; dsimp only [List.dropLast, List.cons_append, List.nil_append] at hS2; clear hC2
 clear hS1
 refine wl_not rfl rfl ?_
 refine wl_move rfl rfl ?_
 refine wl_split 19 rfl (fun h3 => ?_) (fun h3 => ?_)
 ·refine wl_unwanted rfl rfl h3 rfl ?_
  refine wl_unwanted rfl rfl h3 rfl ?_
  refine wl_unwanted rfl rfl h3 rfl ?_
  refine wl_unwanted rfl rfl h3 rfl ?_
  refine wl_pickT rfl h3 rfl rfl ?_
  refine wl_nil (qs_seq ?_)
  refine wc_sub (L' := [(24, _), (5, _), (4, _), (3, _), (0, _)]) (.cons rfl (.cons rfl (.cons rfl (.cons rfl (.cons rfl .nil))))) ?_
  refine wc_condT rfl ?_
  refine wc_seq (wc_region (wl_move rfl rfl (wl_assign rfl rfl (wl_nil (qs_seq (wc_ret (qs_then_ret ?_)))))))
  refine fin1 (.inr rfl) rfl rfl ?_
  exact ⟨_, rfl, rfl, hS2.pick [1] rfl⟩
 have hfl : fewA l = true := by simpa using h3
 refine wl_guard rfl rfl h3 ?_
 refine wl_loadA rfl ag_37 sz_37 (by first | exact hS2.blk 0 rfl) (by first | decide | exact Nat.le_of_ble_eq_true rfl | (simp; done) | omega) rfl rfl ?_
 refine wl_guard rfl rfl h3 ?_
 refine wl_rowBuild acC [x] hS2 rfl Tryz.underlying22 ifz_37 rfl rfl rfl rfl (by first | rfl | simp [RowC.cells, fillL, splice]) rfl ?_
 intro bx1 w4 hS4
 clear hS2
 refine wl_guard rfl rfl h3 ?_
 have hC5 := hS4.split [] [false, false, false] rfl; dsimp only [selF, pickA, nthA, List.cons_append, List.nil_append] at hC5
 refine wl_call cal_9 rfl (few_sp hC5 (Ent.starL (ent_row (C := acC) (l := [x]) (by simp)) 0 rfl)) rfl ?_
 rintro e w5 ⟨_, rfl, rfl, hS5⟩; refine ⟨_, rfl, ?_⟩
 replace hS5 := hS5.join rfl; dsimp only [List.dropLast, List.cons_append, List.nil_append] at hS5; clear hC5
 clear hS4
 refine wl_guard rfl rfl h3 ?_
 refine wl_not rfl rfl ?_
 refine wl_pickF rfl h3 rfl rfl ?_
 refine wl_nil (qs_seq ?_)
 refine wc_sub (L' := [(24, _), (5, _), (4, _), (3, _), (0, _)]) (.cons rfl (.cons rfl (.cons rfl (.cons rfl (.cons rfl .nil))))) ?_
 refine wc_cond rfl (fun h6 => ?_) (fun h6 => ?_)
 ·refine wc_seq (wc_region (wl_move rfl rfl (wl_assign rfl rfl (wl_nil (qs_seq (wc_ret (qs_then_ret ?_)))))))
  refine fin1 (.inr rfl) rfl rfl ?_
  exact ⟨_, rfl, rfl, hS5.pick [2] rfl⟩
 have hfx : fewA [x] = true := by simpa using h6
 simp only [fewA, List.all_cons, List.all_nil, Bool.and_true, Bool.and_eq_true, decide_eq_true_eq, List.all_eq_true] at hfl hfx
 have hxo := okA_is hfx.1
 have hok : ∀ (i : Nat) (y : AcD), l[i]? = some y → OkA y := fun i y hy => okA_is (hfl.1 y (List.mem_of_getElem? hy))
 have hPg := groW_all hfl.2 hok hnb
 have hPd := doW_pi hPg hxo hxn
 have hla := hxo.dir
 have hlb := hxo.name
 have hlc := hxo.id
 have hld := hxo.td
 have hle := hxo.to
 refine wc_skip (qs_seq (wc_seq (wc_region (wl_move rfl rfl ?_))))
 have hC7 := hS5.split [] [false, false, false] rfl; dsimp only [selF, pickA, nthA, List.cons_append, List.nil_append] at hC7
 refine wl_call cal_10 rfl (grown_sp hC7 (hG.starL 2 rfl) (hL.starL 2 rfl) hfl.2 hok hnb) rfl ?_
 rintro e w7 ⟨_, rfl, p, rfl, hS7⟩; refine ⟨_, rfl, ?_⟩
 replace hS7 := hS7.join rfl; dsimp only [List.dropLast, List.cons_append, List.nil_append] at hS7; clear hC7
 clear hS5
 refine wl_assign rfl rfl (wl_nil (qs_seq (wc_seq (wc_seq (wc_region (wl_move rfl rfl ?_))))))
 refine wl_eqlNil Tryz.underlying25 rfl rfl rfl ?_
 refine wl_nil (qs_seq ?_)
 refine wc_condF rfl ?_
 refine wc_skip (qs_seq (wc_seq (wc_region (wl_move rfl rfl ?_))))
 have hC8 := hS7.split [0] [true, false, false, false] rfl; dsimp only [selF, pickA, nthA, List.cons_append, List.nil_append] at hC8
 refine wl_call cal_14 rfl (clone_w hC8) rfl ?_
 rintro e w8 ⟨_, rfl, q, rfl, hS8⟩; refine ⟨_, rfl, ?_⟩
 replace hS8 := hS8.join rfl; dsimp only [List.dropLast, List.cons_append, List.nil_append] at hS8; clear hC8
 clear hS7
 refine wl_assign rfl rfl (wl_nil (qs_seq ?_))
 refine wc_sub (L' := [(7, _), (6, _), (5, _), (4, _), (3, _)]) (.cons rfl (.cons rfl (.cons rfl (.cons rfl (.cons rfl .nil))))) ?_
 refine wc_seq (wc_seq (wc_region (wl_move rfl rfl ?_)))
 refine wl_eqlNil Tryz.underlying25 rfl rfl rfl ?_
 refine wl_nil (qs_seq ?_)
 refine wc_condF rfl ?_
 refine wc_skip (qs_seq (wc_seq (wc_region (wl_move rfl rfl ?_))))
 refine wl_makeIface nif_25 rfl rfl ?_
 refine wl_loadA rfl ag_37 sz_37 (by first | exact hS8.blk 3 rfl) (by first | decide | exact Nat.le_of_ble_eq_true rfl | (simp; done) | omega) rfl rfl ?_
 have hC9 := hS8.split [1] [false, true, false, false, false] rfl; dsimp only [selF, pickA, nthA, List.cons_append, List.nil_append] at hC9
 refine wl_call cal_15 rfl (do_sp hC9 (hG.starL 3 rfl) hPg (by decide) hxo hxn) rfl ?_
 rintro e w9 ⟨_, rfl, rfl, hS9⟩; refine ⟨_, rfl, ?_⟩
 replace hS9 := hS9.join rfl; dsimp only [List.dropLast, List.cons_append, List.nil_append] at hS9; clear hC9
 clear hS8
 refine wl_nil (qs_seq ?_)
 refine wc_sub (L' := [(7, _), (6, _), (5, _), (4, _), (3, _)]) (.cons rfl (.cons rfl (.cons rfl (.cons rfl (.cons rfl .nil))))) ?_
 refine wc_seq (wc_region ?_)
 refine wl_fieldAddr rfl fo_37_1 rfl ?_
 refine wl_load rfl ag_9 (by first | assumption | exact hS9.cell 3 rfl rfl) rfl ?_
 refine wl_concat rfl rfl (by first | omega | (simp; omega)) rfl ?_
 refine wl_concat rfl rfl (by first | omega | (simp; omega)) rfl ?_
 refine wl_fieldAddr rfl fo_37_2 rfl ?_
 refine wl_load rfl ag_9 (by first | assumption | exact hS9.cell 3 rfl rfl) rfl ?_
 refine wl_concat rfl rfl (by first | omega | (simp; omega)) rfl ?_
 refine wl_assign rfl rfl (wl_nil (qs_seq ?_))
 refine wc_sub (L' := [(8, _), (7, _), (6, _), (5, _), (4, _), (3, _)]) (.cons rfl (.cons rfl (.cons rfl (.cons rfl (.cons rfl (.cons rfl .nil)))))) ?_
 refine wc_seq (wc_region ?_)
 refine wl_fieldAddr rfl fo_37_4 rfl ?_
 refine wl_load rfl ag_9 (by first | assumption | exact hS9.cell 3 rfl rfl) rfl ?_
 refine wl_concat rfl rfl (by first | omega | (simp; omega)) rfl ?_
 refine wl_concat rfl rfl (by first | omega | (simp; omega)) rfl ?_
 refine wl_fieldAddr rfl fo_37_5 rfl ?_
 refine wl_load rfl ag_9 (by first | assumption | exact hS9.cell 3 rfl rfl) rfl ?_
 refine wl_concat rfl rfl (by first | omega | (simp; omega)) rfl ?_
 refine wl_assign rfl rfl (wl_nil (qs_seq ?_))
 refine wc_sub (L' := [(9, _), (8, _), (7, _), (6, _), (5, _), (4, _), (3, _)]) (.cons rfl (.cons rfl (.cons rfl (.cons rfl (.cons rfl (.cons rfl (.cons rfl .nil))))))) ?_
 refine wc_seq (wc_region (wl_move rfl rfl (wl_move rfl rfl ?_)))
 refine wl_rowBuild stC [(kE x.dir x.name), (kE x.td x.to)] hS9 rfl Tryz.underlying40 ifz_9 rfl rfl rfl rfl (by first | rfl | simp [RowC.cells, fillL, splice]) rfl ?_
 intro bmm w10 hS10
 clear hS9
 refine wl_assign rfl rfl (wl_nil (qs_seq ?_))
 refine wc_sub (L' := [(10, _), (9, _), (8, _), (7, _), (6, _), (5, _), (4, _), (3, _)]) (.cons rfl (.cons rfl (.cons rfl (.cons rfl (.cons rfl (.cons rfl (.cons rfl (.cons rfl .nil)))))))) ?_
 refine wc_seq ?_
 have hS11 := hS10.drew
 refine wc_draw [0, 1, 2, 3, 5, 6, 8, 9, 11, 12, 4, 7, 10, 13, 14, 15] [4, 7, 10, 13, 14] mix (by kernel_rfl) ?_
 refine vc_p rfl rfl rfl (fun _ => (ev_fieldAddr rfl fo_37_3)) ?_
 refine vc_q rfl rfl rfl (ev_load rfl ag_9 (by first | assumption | exact hS11.cell 4 rfl rfl)) ?_
 refine vc_p rfl rfl rfl (fun _ => (ev_move rfl)) ?_
 refine vc_p rfl rfl rfl (fun _ => (ev_move rfl)) ?_
 refine vc_p rfl rfl rfl (fun _ => (ev_move rfl)) ?_
 refine vc_p rfl rfl rfl (fun _ => (ev_move rfl)) ?_
 refine vc_p rfl rfl rfl (fun _ => (ev_move rfl)) ?_
 refine vc_p rfl rfl rfl (fun _ => (ev_move rfl)) ?_
 refine vc_p rfl rfl rfl (fun _ => (ev_move rfl)) ?_
 refine vc_p rfl rfl rfl (fun _ => (ev_move rfl)) ?_
 refine vc_s rfl rfl rfl rfl rfl rfl ?_
 have hC12 := hS11.split [2] [false, false, true, false, false, false] rfl; dsimp only [selF, pickA, nthA, List.cons_append, List.nil_append] at hC12
 refine wl_call cal_16 rfl (get_sp hC12 (kE x.dir x.name)) rfl ?_
 rintro e w12 ⟨_, rfl, rfl, hS12⟩; refine ⟨_, rfl, ?_⟩
 replace hS12 := hS12.join rfl; dsimp only [List.dropLast, List.cons_append, List.nil_append] at hS12; clear hC12
 clear hS11
 refine vc_e (.cons (.inl ⟨rfl, (ev_load rfl ag_9 (by first | assumption | exact hS12.cell 4 rfl rfl))⟩) .nil) ?_
 refine vc_s rfl rfl rfl rfl rfl rfl ?_
 have hC13 := hS12.split [0] [true, false, false, false, false, false] rfl; dsimp only [selF, pickA, nthA, List.cons_append, List.nil_append] at hC13
 refine wl_call cal_16 rfl (get_sp hC13 (kE x.td x.to)) rfl ?_
 rintro e w13 ⟨_, rfl, rfl, hS13⟩; refine ⟨_, rfl, ?_⟩
 replace hS13 := hS13.join rfl; dsimp only [List.dropLast, List.cons_append, List.nil_append] at hS13; clear hC13
 clear hS12
 refine vc_e (.cons (.inl ⟨rfl, (ev_load rfl ag_9 (by first | assumption | exact hS13.cell 4 rfl rfl))⟩) .nil) ?_
 refine vc_s rfl rfl rfl rfl rfl rfl ?_
 have hC14 := hS13.split [2] [false, false, true, false, false, false] rfl; dsimp only [selF, pickA, nthA, List.cons_append, List.nil_append] at hC14
 refine wl_call cal_16 rfl (get_sp hC14 (kE x.dir x.name)) rfl ?_
 rintro e w14 ⟨_, rfl, rfl, hS14⟩; refine ⟨_, rfl, ?_⟩
 replace hS14 := hS14.join rfl; dsimp only [List.dropLast, List.cons_append, List.nil_append] at hS14; clear hC14
 clear hS13
 refine vc_e (.cons (.inl ⟨rfl, (ev_load rfl ag_9 (by first | assumption | exact hS14.cell 4 rfl rfl))⟩) .nil) ?_
 refine vc_s rfl rfl rfl rfl rfl rfl ?_
 have hC15 := hS14.split [0] [true, false, false, false, false, false] rfl; dsimp only [selF, pickA, nthA, List.cons_append, List.nil_append] at hC15
 refine wl_call cal_16 rfl (get_sp hC15 (kE x.td x.to)) rfl ?_
 rintro e w15 ⟨_, rfl, rfl, hS15⟩; refine ⟨_, rfl, ?_⟩
 replace hS15 := hS15.join rfl; dsimp only [List.dropLast, List.cons_append, List.nil_append] at hS15; clear hC15
 clear hS14
 refine vc_e (.cons (.inl ⟨rfl, (ev_load rfl ag_9 (by first | assumption | exact hS15.cell 4 rfl rfl))⟩) .nil) ?_
 refine vc_s rfl rfl rfl rfl rfl rfl ?_
 refine wl_rowBuild stC [x.id, (groW l).cells (kE x.dir x.name), (groW l).cells (kE x.td x.to), (doW (groW l) x).cells (kE x.dir x.name), (doW (groW l) x).cells (kE x.td x.to)] hS15 rfl Tryz.underlying40 ifz_9 rfl rfl rfl rfl (by first | rfl | simp [RowC.cells, fillL, splice]) rfl ?_
 intro bds w16 hS16
 clear hS15
 refine vc_e (.skip (by kernel_rfl) .nil) ?_
 refine vc_p rfl rfl rfl (fun _ => (ev_assign rfl)) ?_
 refine VC.nil (qs_seq ?_)
 refine wc_sub (L' := [(11, _), (10, _), (7, _), (6, _), (5, _), (4, _)]) (.cons rfl (.cons rfl (.cons rfl (.cons rfl (.cons rfl (.cons rfl .nil)))))) ?_
 refine wc_seq (wc_seq (wc_region (wl_assign rfl rfl (wl_nil (qs_seq (wc_block ?_))))))
 have hq0 := hS16.pick [3, 0, 2, 1, 6] rfl
 refine wc_loop (fun K0 E0 W0 => ∃ (i : Nat) (mv : Value), K0 = 5 - i ∧ E0 = [(5, .bool true), (6, ptrV p 0), (7, ptrV q 0), (10, mv), (11, .slice (some ⟨bds, 0, none⟩) 5 5), (12, intV (i : Int))] ∧ Sat W0 [rowT stC mv ([(kE x.dir x.name), (kE x.td x.to)] ++ mayK ([x.id, (groW l).cells (kE x.dir x.name), (groW l).cells (kE x.td x.to), (doW (groW l) x).cells (kE x.dir x.name), (doW (groW l) x).cells (kE x.td x.to)].take i)), rowT stC (.slice (some ⟨bds, 0, none⟩) 5 5) [x.id, (groW l).cells (kE x.dir x.name), (groW l).cells (kE x.td x.to), (doW (groW l) x).cells (kE x.dir x.name), (doW (groW l) x).cells (kE x.td x.to)], worldT q (groW l), worldT p (doW (groW l) x), F] ∧ (i ≤ 5)) (L0 := [(5, _), (6, _), (7, _), (10, _), (11, _), (12, _)]) (5 - 0) (.cons rfl (.cons rfl (.cons rfl (.cons rfl (.cons rfl (.cons rfl .nil)))))) ⟨0, _, rfl, rfl, hq0, by omega⟩ ?_
 rintro _ _ w17 ⟨i, mv, rfl, rfl, hS17, hi⟩
 refine wc_seq (wc_seq (wc_region (wl_move rfl rfl (wl_move rfl rfl ?_))))
 first | refine wl_lenL Tryz.underlying40 rfl rfl ?_ | refine wl_lenO 0 hS17 Tryz.underlying40 rfl rfl rfl ?_ | refine wl_lenO 1 hS17 Tryz.underlying40 rfl rfl rfl ?_
 refine wl_lss rfl rfl rfl ?_
 refine wl_nil (qs_seq ?_)
 refine wc_condD rfl (fun h18 => ?_) (fun h18 => ?_)
 ·obtain ⟨j, hj⟩ : ∃ y, ([x.id, (groW l).cells (kE x.dir x.name), (groW l).cells (kE x.td x.to), (doW (groW l) x).cells (kE x.dir x.name), (doW (groW l) x).cells (kE x.td x.to)] : List Bs)[i]? = some y := ⟨_, List.getElem?_eq_getElem (by simp; omega)⟩
  have hjl : j.length ≤ 400 := by have := List.mem_of_getElem? hj; simp only [List.mem_cons, List.not_mem_nil, or_false] at this; rcases this with rfl | rfl | rfl | rfl | rfl; (have := hxo.id; omega); exact hPg.val _; exact hPg.val _; exact hPd.val _; exact hPd.val _
  refine wc_skip (qs_seq (wc_seq (wc_block ?_)))
  have hS19 := hS17.drew
  refine wc_draw [0, 1, 2, 3, 4, 5, 6, 7, 8, 9, 10, 11, 12, 13] [11, 12] mix (by kernel_rfl) ?_
  refine vc_p rfl rfl rfl (fun _ => (ev_move rfl)) ?_
  refine vc_p rfl rfl rfl (fun _ => (ev_move rfl)) ?_
  refine vc_p rfl rfl rfl (fun _ => (ev_move rfl)) ?_
  refine vc_p rfl rfl rfl (fun _ => (ev_indexAddr i rfl rfl (by first | rfl | omega) (by omega) es_40)) ?_
  refine vc_q rfl rfl rfl (ev_rowLoad0 stC 1 i 0 hS19 rfl hj ag_9 rfl rfl) ?_
  refine vc_p rfl rfl rfl (fun _ => (ev_concat rfl rfl (by first | omega | (simp; omega)))) ?_
  refine vc_p rfl rfl rfl (fun _ => (ev_move rfl)) ?_
  refine vc_p rfl rfl rfl (fun _ => (ev_move rfl)) ?_
  refine vc_p rfl rfl rfl (fun _ => (ev_indexAddr i rfl rfl (by first | rfl | omega) (by omega) es_40)) ?_
  refine vc_q rfl rfl rfl (ev_rowLoad0 stC 1 i 0 hS19 rfl hj ag_9 rfl rfl) ?_
  refine vc_p rfl rfl rfl (fun _ => (ev_concat rfl rfl (by first | omega | (simp; omega)))) ?_
  refine vc_s rfl rfl rfl rfl rfl rfl ?_
  refine wl_rowBuild stC [kI j, kU j] hS19 rfl Tryz.underlying40 ifz_9 rfl rfl rfl rfl (by first | rfl | simp [RowC.cells, fillL, splice]) rfl ?_
  intro bbk w20 hS20
  clear hS19
  refine vc_e (.skip (by kernel_rfl) (.skip (by kernel_rfl) .nil)) ?_
  refine vc_s rfl rfl rfl rfl rfl rfl ?_
  refine wl_rowApp stC 1 hS20 rfl rfl rfl (hS20.rd 0 rfl (by simp)) Tryz.underlying40 Tryz.underlying40 (by intro k hk; cases hk) ifo_9 rfl (by rw [List.length_append, mayK_len, List.length_take]; simp; omega) rfl (by rw [List.length_append, mayK_len, List.length_take]; simp; omega) ?_
  intro v21 w21 hS21; dsimp only [List.set] at hS21
  clear hS20
  have h1v21 : v21.oneCell' = true := hS21.own_one 1 rfl
  refine vc_e (.skip (by kernel_rfl) (.skip (by kernel_rfl) .nil)) ?_
  refine vc_p rfl rfl rfl (fun _ => (ev_assign rfl)) ?_
  refine VC.nil (qs_block_normal (qs_seq ?_))
  refine wc_sub (L' := [(10, _), (5, _), (6, _), (7, _), (11, _), (12, _)]) (.cons rfl (.cons rfl (.cons rfl (.cons rfl (.cons rfl (.cons rfl .nil)))))) ?_
  refine wc_region (wl_move rfl rfl ?_)
  refine wl_add rfl rfl (by first | omega | (simp; omega)) (by first | omega | (simp; omega)) rfl ?_
  refine wl_assign rfl rfl (wl_nil ?_)
  have hSz := hS21.pick [1, 2, 3, 4, 5] rfl
  have hmk : ([(kE x.dir x.name), (kE x.td x.to)] ++ mayK ([x.id, (groW l).cells (kE x.dir x.name), (groW l).cells (kE x.td x.to), (doW (groW l) x).cells (kE x.dir x.name), (doW (groW l) x).cells (kE x.td x.to)].take i)) ++ [kI j, kU j] = ([(kE x.dir x.name), (kE x.td x.to)] ++ mayK ([x.id, (groW l).cells (kE x.dir x.name), (groW l).cells (kE x.td x.to), (doW (groW l) x).cells (kE x.dir x.name), (doW (groW l) x).cells (kE x.td x.to)].take (i + 1))) := by rw [List.take_add_one, hj, Option.toList_some, mayK_add, List.append_assoc]
  have hSy : Sat _ [rowT stC v21 (([(kE x.dir x.name), (kE x.td x.to)] ++ mayK ([x.id, (groW l).cells (kE x.dir x.name), (groW l).cells (kE x.td x.to), (doW (groW l) x).cells (kE x.dir x.name), (doW (groW l) x).cells (kE x.td x.to)].take i)) ++ [kI j, kU j]), _, _, _, _] := hSz
  rw [hmk] at hSy
  exact qs_round (L1 := [(5, _), (6, _), (7, _), (10, v21), (11, _), (12, intV ((i + 1 : Nat) : Int))]) (.cons rfl (.cons rfl (.cons rfl (.cons rfl (.cons rfl (.cons rfl .nil)))))) (k1 := 5 - (i + 1)) (by omega) ⟨i + 1, _, rfl, rfl, hSy, by omega⟩
 refine wc_exit (qs_then_exit (qs_then_exit (qs_block_exit (qs_seq (wc_seq (wc_region (wl_move rfl rfl ?_)))))))
 have hC22 := hS17.split [2] [false, false, true, false, false] rfl; dsimp only [selF, pickA, nthA, List.cons_append, List.nil_append] at hC22
 refine wl_call cal_17 rfl (keys_sp hC22 [] (hPg.kin (by decide))) rfl ?_
 rintro e w22 ⟨_, rfl, k1, hk1, hS22⟩; refine ⟨_, rfl, ?_⟩
 replace hS22 := hS22.join rfl; dsimp only [List.dropLast, List.cons_append, List.nil_append] at hS22; clear hC22
 clear hS17
 have k1l := cntK_le hPg []; rw [cntK_eq (CntOf.keys hk1)] at k1l
 refine wl_move rfl rfl ?_
 have hC23 := hS22.split [4] [false, false, false, false, true, false] rfl; dsimp only [selF, pickA, nthA, List.cons_append, List.nil_append] at hC23
 refine wl_call cal_17 rfl (keys_sp hC23 [] (hPd.kin (by decide))) rfl ?_
 rintro e w23 ⟨_, rfl, k2, hk2, hS23⟩; refine ⟨_, rfl, ?_⟩
 replace hS23 := hS23.join rfl; dsimp only [List.dropLast, List.cons_append, List.nil_append] at hS23; clear hC23
 clear hS22
 have k2l := cntK_le hPd []; rw [cntK_eq (CntOf.keys hk2)] at k2l
 refine wl_rowApp stC 2 hS23 rfl rfl rfl (hS23.rd 0 rfl (by omega)) Tryz.underlying40 Tryz.underlying40 (by intro k hk; cases hk) ifo_9 rfl (by first | omega | (simp; omega)) rfl (by first | omega | (simp; omega)) ?_
 intro v24 w24 hS24; dsimp only [List.set] at hS24
 clear hS23
 have h1v24 : v24.oneCell' = true := hS24.own_one 2 rfl
 refine wl_assign rfl rfl (wl_nil ?_)
 have hkkl : (k1 ++ k2).length ≤ 605 := by rw [List.length_append]; omega
 obtain ⟨ka, kc, hkv, _⟩ := hS24.own_shape 2 rfl
 obtain rfl := hkv
 have htk : ([(kE x.dir x.name), (kE x.td x.to)] ++ mayK ([x.id, (groW l).cells (kE x.dir x.name), (groW l).cells (kE x.td x.to), (doW (groW l) x).cells (kE x.dir x.name), (doW (groW l) x).cells (kE x.td x.to)].take i)) = ([(kE x.dir x.name), (kE x.td x.to)] ++ mayK [x.id, (groW l).cells (kE x.dir x.name), (groW l).cells (kE x.td x.to), (doW (groW l) x).cells (kE x.dir x.name), (doW (groW l) x).cells (kE x.td x.to)]) := by rw [show i = 5 by omega]; rfl
 have hS25 : Sat _ [_, rowT stC mv ([(kE x.dir x.name), (kE x.td x.to)] ++ mayK ([x.id, (groW l).cells (kE x.dir x.name), (groW l).cells (kE x.td x.to), (doW (groW l) x).cells (kE x.dir x.name), (doW (groW l) x).cells (kE x.td x.to)].take i)), _, _, _] := hS24.pick [2, 4, 3, 1, 6] rfl; rw [htk] at hS25
 refine qs_seq ?_
 refine wc_sub (L' := [(13, _), (5, _), (6, _), (7, _), (10, _)]) (.cons rfl (.cons rfl (.cons rfl (.cons rfl (.cons rfl .nil))))) ?_
 refine wc_seq (wc_seq (wc_region (wl_assign rfl rfl (wl_nil (qs_seq (wc_block ?_))))))
 have hq1 := hS25.pick [0, 1, 2, 3, 4] rfl
 refine wc_loop (fun K0 E0 W0 => ∃ (k : Nat), K0 = (k1 ++ k2).length - k ∧ E0 = [(5, .bool true), (6, ptrV p 0), (7, ptrV q 0), (10, mv), (13, .slice ka (k1 ++ k2).length kc), (14, intV (k : Int))] ∧ Sat W0 [rowT stC (.slice ka (k1 ++ k2).length kc) (k1 ++ k2), rowT stC mv ([(kE x.dir x.name), (kE x.td x.to)] ++ mayK [x.id, (groW l).cells (kE x.dir x.name), (groW l).cells (kE x.td x.to), (doW (groW l) x).cells (kE x.dir x.name), (doW (groW l) x).cells (kE x.td x.to)]), worldT q (groW l), worldT p (doW (groW l) x), F] ∧ (k ≤ (k1 ++ k2).length)) (L0 := [(5, _), (6, _), (7, _), (10, _), (13, _), (14, _)]) ((k1 ++ k2).length - 0) (.cons rfl (.cons rfl (.cons rfl (.cons rfl (.cons rfl (.cons rfl .nil)))))) ⟨0, rfl, rfl, hq1, by omega⟩ ?_
 rintro _ _ w26 ⟨k, rfl, rfl, hS26, hk⟩
 refine wc_seq (wc_seq (wc_region (wl_move rfl rfl (wl_move rfl rfl ?_))))
 first | refine wl_lenL Tryz.underlying40 rfl rfl ?_ | refine wl_lenO 0 hS26 Tryz.underlying40 rfl rfl rfl ?_ | refine wl_lenO 1 hS26 Tryz.underlying40 rfl rfl rfl ?_
 refine wl_lss rfl rfl rfl ?_
 refine wl_nil (qs_seq ?_)
 refine wc_condD rfl (fun h27 => ?_) (fun h27 => ?_)
 ·obtain ⟨ky, hky⟩ : ∃ y, (k1 ++ k2)[k]? = some y := ⟨_, List.getElem?_eq_getElem (by omega)⟩
  obtain ⟨kb, kc9, hqk, _⟩ := hS26.own_at 0 rfl (by omega)
  cases hqk
  refine wc_skip (qs_seq (wc_seq (wc_block (wc_seq ?_))))
  have hS28 := hS26.drew
  refine wc_draw [0, 1, 2, 3, 4, 6, 7, 8, 9, 10, 5, 11, 12, 13, 14, 15, 16, 17, 18, 19, 20, 21] [5, 11, 19] mix (by kernel_rfl) ?_
  refine vc_p rfl rfl rfl (fun _ => (ev_move rfl)) ?_
  refine vc_p rfl rfl rfl (fun _ => (ev_move rfl)) ?_
  refine vc_p rfl rfl rfl (fun _ => (ev_move rfl)) ?_
  refine vc_p rfl rfl rfl (fun _ => (ev_indexAddr k rfl rfl (by first | rfl | omega) (by first | omega | exact (List.getElem?_eq_some_iff.1 hky).1) es_40)) ?_
  refine vc_q rfl rfl rfl (ev_rowLoad0 stC 0 k 0 hS28 rfl hky ag_9 rfl rfl) ?_
  refine vc_p rfl rfl rfl (fun _ => (ev_move rfl)) ?_
  refine vc_p rfl rfl rfl (fun _ => (ev_move rfl)) ?_
  refine vc_p rfl rfl rfl (fun _ => (ev_move rfl)) ?_
  refine vc_p rfl rfl rfl (fun _ => (ev_indexAddr k rfl rfl (by first | rfl | omega) (by first | omega | exact (List.getElem?_eq_some_iff.1 hky).1) es_40)) ?_
  refine vc_q rfl rfl rfl (ev_rowLoad0 stC 0 k 0 hS28 rfl hky ag_9 rfl rfl) ?_
  refine vc_s rfl rfl rfl rfl rfl rfl ?_
  have hC29 := hS28.split [2] [false, false, true, false, false] rfl; dsimp only [selF, pickA, nthA, List.cons_append, List.nil_append] at hC29
  refine wl_call cal_16 rfl (get_sp hC29 ky) rfl ?_
  rintro e w29 ⟨_, rfl, rfl, hS29⟩; refine ⟨_, rfl, ?_⟩
  replace hS29 := hS29.join rfl; dsimp only [List.dropLast, List.cons_append, List.nil_append] at hS29; clear hC29
  clear hS28
  refine vc_e (.cons (.inl ⟨rfl, (ev_rowLoad0 stC 1 k 0 hS29 rfl hky ag_9 rfl rfl)⟩) (.skip (by kernel_rfl) .nil)) ?_
  refine vc_s rfl rfl rfl rfl rfl rfl ?_
  have hC30 := hS29.split [3] [false, false, false, true, false] rfl; dsimp only [selF, pickA, nthA, List.cons_append, List.nil_append] at hC30
  refine wl_call cal_16 rfl (get_sp hC30 ky) rfl ?_
  rintro e w30 ⟨_, rfl, rfl, hS30⟩; refine ⟨_, rfl, ?_⟩
  replace hS30 := hS30.join rfl; dsimp only [List.dropLast, List.cons_append, List.nil_append] at hS30; clear hC30
  clear hS29
  refine vc_e (.skip (by kernel_rfl) (.skip (by kernel_rfl) .nil)) ?_
  refine vc_p rfl rfl rfl (fun _ => (ev_neqS rfl rfl)) ?_
  refine vc_p rfl rfl rfl (fun _ => (ev_move rfl)) ?_
  refine vc_splitD 113 rfl (fun h31 => ?_) (fun h31 => ?_)
  ·have hdf : (groW l).cells ky ≠ (doW (groW l) x).cells ky := h31
   refine vc_p rfl rfl (guard_yes rfl rfl (decide_eq_true h31)) (fun _ => (Ev.gd (ev_move rfl))) ?_
   refine vc_p rfl rfl (guard_yes rfl rfl (decide_eq_true h31)) (fun _ => (Ev.gd (ev_move rfl))) ?_
   refine vc_p rfl rfl (guard_yes rfl rfl (decide_eq_true h31)) (fun _ => (Ev.gd (ev_move rfl))) ?_
   refine vc_p rfl rfl (guard_yes rfl rfl (decide_eq_true h31)) (fun _ => (Ev.gd (ev_indexAddr k rfl rfl (by first | rfl | omega) (by first | omega | exact (List.getElem?_eq_some_iff.1 hky).1) es_40))) ?_
   refine vc_q rfl rfl (guard_yes rfl rfl (decide_eq_true h31)) (Ev.gd (ev_rowLoad0 stC 2 k 0 hS30 rfl hky ag_9 rfl rfl)) ?_
   refine vc_s rfl rfl (guard_yes rfl rfl (decide_eq_true h31)) rfl rfl rfl ?_
   have hC32 := hS30.split [] [false, false, false, false, false] rfl; dsimp only [selF, pickA, nthA, List.cons_append, List.nil_append] at hC32
   refine wl_call cal_18 rfl (index_sp hC32 (Ent.starL (ent_row (C := stC) (l := ([(kE x.dir x.name), (kE x.td x.to)] ++ mayK [x.id, (groW l).cells (kE x.dir x.name), (groW l).cells (kE x.td x.to), (doW (groW l) x).cells (kE x.dir x.name), (doW (groW l) x).cells (kE x.td x.to)])) (by simp [mayK])) 3 rfl) ky) rfl ?_
   rintro e w32 ⟨_, rfl, iz, rfl, hix, hS32⟩; refine ⟨_, rfl, ?_⟩
   replace hS32 := hS32.join rfl; dsimp only [List.dropLast, List.cons_append, List.nil_append] at hS32; clear hC32
   clear hS30
   refine vc_e (.skip (by kernel_rfl) (.skip (by kernel_rfl) (.skip (by kernel_rfl) .nil))) ?_
   refine vc_p rfl rfl (guard_yes rfl rfl (decide_eq_true h31)) (fun _ => (Ev.gd (ev_lss rfl rfl))) ?_
   refine vc_p rfl rfl rfl (fun _ => (ev_pickT rfl (decide_eq_true h31) rfl)) ?_
   refine VC.nil (qs_seq ?_)
   refine wc_sub (L' := [(121, _), (5, _), (6, _), (7, _), (10, _), (13, _), (14, _)]) (.cons rfl (.cons rfl (.cons rfl (.cons rfl (.cons rfl (.cons rfl (.cons rfl .nil))))))) ?_
   refine wc_condD rfl (fun h33 => ?_) (fun h33 => ?_)
   ·exact absurd (apart_in (W := (groW l)) (x := x) (a := (doW (groW l) x).cells (kE x.dir x.name)) (b := (doW (groW l) x).cells (kE x.td x.to)) (fun q => hdf q.symm)) (hix.elim (·.2) (fun ⟨j, q1, _⟩ => by omega))
   refine wc_skip (qs_block_normal (qs_seq (wc_region (wl_move rfl rfl ?_))))
   refine wl_add rfl rfl (by first | omega | (simp; omega)) (by first | omega | (simp; omega)) rfl ?_
   refine wl_assign rfl rfl (wl_nil ?_)
   exact qs_round (L1 := [(5, _), (6, _), (7, _), (10, _), (13, _), (14, intV ((k + 1 : Nat) : Int))]) (.cons rfl (.cons rfl (.cons rfl (.cons rfl (.cons rfl (.cons rfl .nil)))))) (k1 := (k1 ++ k2).length - (k + 1)) (by omega) ⟨k + 1, rfl, rfl, hS32.pick [2, 3, 1, 0, 4] rfl, by omega⟩
  refine vc_not rfl rfl (guard_no rfl rfl (decide_eq_false h31)) ?_
  refine vc_not rfl rfl (guard_no rfl rfl (decide_eq_false h31)) ?_
  refine vc_not rfl rfl (guard_no rfl rfl (decide_eq_false h31)) ?_
  refine vc_not rfl rfl (guard_no rfl rfl (decide_eq_false h31)) ?_
  refine vc_not rfl rfl (guard_no rfl rfl (decide_eq_false h31)) ?_
  refine VC.spineNot rfl rfl (guard_no rfl rfl (decide_eq_false h31)) ?_
  refine vc_not rfl rfl (guard_no rfl rfl (decide_eq_false h31)) ?_
  refine vc_p rfl rfl rfl (fun _ => (ev_pickF rfl (decide_eq_false h31) rfl)) ?_
  refine VC.nil (qs_seq ?_)
  refine wc_sub (L' := [(121, _), (5, _), (6, _), (7, _), (10, _), (13, _), (14, _)]) (.cons rfl (.cons rfl (.cons rfl (.cons rfl (.cons rfl (.cons rfl (.cons rfl .nil))))))) ?_
  refine wc_condF rfl ?_
  refine wc_skip (qs_block_normal (qs_seq (wc_region (wl_move rfl rfl ?_))))
  refine wl_add rfl rfl (by first | omega | (simp; omega)) (by first | omega | (simp; omega)) rfl ?_
  refine wl_assign rfl rfl (wl_nil ?_)
  exact qs_round (L1 := [(5, _), (6, _), (7, _), (10, _), (13, _), (14, intV ((k + 1 : Nat) : Int))]) (.cons rfl (.cons rfl (.cons rfl (.cons rfl (.cons rfl (.cons rfl .nil)))))) (k1 := (k1 ++ k2).length - (k + 1)) (by omega) ⟨k + 1, rfl, rfl, hS30.pick [2, 3, 1, 0, 4] rfl, by omega⟩
 refine wc_exit (qs_then_exit (qs_then_exit (qs_block_exit (qs_seq (wc_seq (wc_region (wl_move rfl rfl (wl_assign rfl rfl (wl_nil (qs_seq ?_))))))))))
 refine wc_sub (L' := [(4, _)]) (.cons rfl .nil) ?_
 refine wc_ret ?_
 refine fin1 (.inr rfl) rfl rfl ?_
 exact ⟨_, rfl, rfl, hS26.pick [4] rfl⟩
end Go.Proofs.YtkaikhcpcbjkcaaGreatDoor
/- How the arguments of a law read: a relation between cells and plain data for each type, built by shape; and the step from a law's contract to its row. -/
namespace Go.Proofs.YtkaikhcpcbjkcaaGreatDoor.M
open Go.ChangeShapes Go.WideShapes Go.ChangeAt Go.RowKit Go.Deep
/-- the cells cs lie at ⟨b, off⟩ -/
def At (w : World) (b off : Nat) (cs : List Value) : Prop := ∀ j v, cs[j]? = some v → w.cell? ⟨b, off + j, none⟩ = some v
theorem At.cell {w : World} {b off : Nat} {cs : List Value} (h : At w b off cs) (j : Nat) {v : Value} (hv : cs[j]? = some v) : w.cell? ⟨b, off + j, none⟩ = some v := h j v hv
theorem At.below {B : Nat} {w w' : World} {b off : Nat} {cs : List Value} (h : At w b off cs) (hb : Below B w w') (hB : b < B) : At w' b off cs :=
  fun j v hv => (hb.cell (p := ⟨b, off + j, none⟩) hB).trans (h j v hv)
/-- a type, read as α -/
structure Cod (P : Program) (t : TypeId) (α : Type) where
  rd : World → List Value → α → Prop
  size : Nat
  cells : P.cellsOf t = size
  down : ∀ {H : Type} {enc : TypeId × Value → H} {w : World} {base : Nat} {spare : Nat → Bool} {held : Bool} {fuel : Nat} {cs : List Value} {x : DataW H × List MemPlace},
    DataW.trod enc P w base spare held fuel t cs = some x → ∃ a, rd w cs a
  len : ∀ {w cs a}, rd w cs a → cs.length = size
  keep : ∀ {w w' cs a}, Below w.heap.size w w' → rd w cs a → rd w' cs a
section
variable {P : Program}
def Cod.int {t : TypeId} (k : IntKind) (ht : P.underlying t = some (.int k)) (hc : P.cellsOf t = 1) : Cod P t Int where
  rd := fun _ cs n => cs = [.int k n] ∧ (Lit.int k n).wf = true
  size := 1
  cells := hc
  down := fun h => by
    obtain ⟨n, h1, _, h2⟩ := DataW.trod_int ht h
    exact ⟨n, h1, h2⟩
  len := fun h => by rw [h.1]; rfl
  keep := fun _ h => h
def Cod.byte {t : TypeId} (ht : P.underlying t = some (.int .u8)) (hc : P.cellsOf t = 1) : Cod P t UInt8 where
  rd := fun _ cs n => cs = [.int .u8 (n.toNat : Int)]
  size := 1
  cells := hc
  down := fun h => by
    obtain ⟨n, h1, _, h2⟩ := DataW.trod_int ht h
    have hb := bounds_u8 h2
    refine ⟨UInt8.ofNat n.toNat, ?_⟩
    have e : ((UInt8.ofNat n.toNat).toNat : Int) = n := by simp; omega
    rw [e]; exact h1
  len := fun h => by rw [h]; rfl
  keep := fun _ h => h
def Cod.bool {t : TypeId} (ht : P.underlying t = some .bool) (hc : P.cellsOf t = 1) : Cod P t Bool where
  rd := fun _ cs n => cs = [.bool n]
  size := 1
  cells := hc
  down := fun h => by
    obtain ⟨n, h1, _⟩ := DataW.trod_bool ht h
    exact ⟨n, h1⟩
  len := fun h => by rw [h]; rfl
  keep := fun _ h => h
def Cod.string {t : TypeId} (ht : P.underlying t = some .string) (hc : P.cellsOf t = 1) : Cod P t ByteArray where
  rd := fun _ cs s => cs = [.string s] ∧ s.size ≤ 9223372036854775807
  size := 1
  cells := hc
  down := fun h => by
    obtain ⟨n, h1, _, h2⟩ := DataW.trod_string ht h
    exact ⟨n, h1, h2⟩
  len := fun h => by rw [h.1]; rfl
  keep := fun _ h => h
/-- a slice's value v reads as l: each element's cells lie in its place -/
def SliceRd {α : Type} (rd : World → List Value → α → Prop) (size : Nat) (w : World) (v : Value) (l : List α) : Prop :=
  ∃ ao cap, v = .slice ao l.length cap ∧ l.length ≤ cap ∧ cap ≤ 9223372036854775807 ∧ ∀ (i : Nat) (a : α), l[i]? = some a → ∃ b off cs, ao = some ⟨b, off, none⟩ ∧ b < w.heap.size ∧ At w b (off + i * size) cs ∧ rd w cs a
def Cod.slice {t e : TypeId} {α : Type} [Inhabited α] (ht : P.underlying t = some (.slice e)) (hc : P.cellsOf t = 1) (c : Cod P e α) (hpos : 0 < c.size) : Cod P t (List α) where
  rd := fun w cs l => ∃ v, cs = [v] ∧ SliceRd c.rd c.size w v l
  size := 1
  cells := hc
  down := fun {H enc w base spare held fuel cs x} h => by
    rcases open_slice ht h with ⟨rfl, _⟩ | ⟨a, len, cap, m, n, D, Pl, rfl, hb, hl, hm, hmm, _, hx⟩
    · exact ⟨[], _, rfl, none, 0, rfl, Nat.le_refl _, by omega, fun i a hi => by simp at hi⟩
    · have hlm : len ≤ m := by rw [hmm]; split <;> omega
      have hex : ∀ i, i < len → ∃ y : α, ∃ cs', c.rd w cs' y ∧ (∀ j v, cs'[j]? = some v → w.cell? (a.add (i * c.size + j)) = some v) := by
        intro i hi
        obtain ⟨cs', h1, h2⟩ := hx i (by omega)
        obtain ⟨y, hy⟩ := c.down h2
        obtain ⟨_, hlen, hat⟩ := World.cells?_some h1
        refine ⟨y, cs', hy, fun j v hv => ?_⟩
        have hj : j < cs'.length := (List.getElem?_eq_some_iff.1 hv).1
        rw [c.cells] at hlen hat
        rw [← Go.Deep.add_add, hat j (by omega), hv]
      obtain ⟨f, hf⟩ := choose_lt hex
      refine ⟨(List.range len).map f, _, rfl, some a, cap, by simp, by simpa using hl, hm, fun i y hi => ?_⟩
      have hil : i < len := by have := (List.getElem?_eq_some_iff.1 hi).1; simpa using this
      simp [hil] at hi
      subst hi
      obtain ⟨cs', hrd, hat⟩ := hf i hil
      have hcl := c.len hrd
      obtain ⟨b, off, spot⟩ := a
      have h0 := hat 0 cs'[0] (List.getElem?_eq_getElem (by omega))
      have hspot : spot = none := by
        have := World.cell?_spot h0
        unfold Addr.add at this
        split at this
        · exact this
        · obtain ⟨i0, hi0⟩ : ∃ i0, i0 < len ∧ i0 = 0 := ⟨0, by omega, rfl⟩
          obtain ⟨hi1, rfl⟩ := hi0
          obtain ⟨cs0, hrd0, hat0⟩ := hf 0 hi1
          have hcl0 := c.len hrd0
          have h00 := hat0 0 cs0[0] (List.getElem?_eq_getElem (by omega))
          have := World.cell?_spot h00
          simpa [Addr.add] using this
      subst hspot
      refine ⟨b, off, cs', rfl, ?_, fun j v hv => ?_, hrd⟩
      · have := block_lt_of_cell h0
        rw [addr_add] at this
        exact this
      · have := hat j v hv
        rw [addr_add] at this
        rw [Nat.add_assoc]; exact this
  len := fun ⟨v, h, _⟩ => by rw [h]; rfl
  keep := fun {w w' cs l} hb ⟨v, h1, ao, cap, h2, h3, h4, h5⟩ => ⟨v, h1, ao, cap, h2, h3, h4, fun i a hi => by
    obtain ⟨b, off, cs', e1, e2, e3, e4⟩ := h5 i a hi
    exact ⟨b, off, cs', e1, Nat.lt_of_lt_of_le e2 hb.size, e3.below hb e2, c.keep hb e4⟩⟩
/-- fields one behind the other -/
structure Flds (P : Program) (fs : List Field) (off : Nat) (α : Type) where
  rd : World → List Value → α → Prop
  size : Nat
  down : ∀ {H : Type} {enc : TypeId × Value → H} {w : World} {base : Nat} {spare : Nat → Bool} {held : Bool} {n : Nat} {cs : List Value} {xs : List (DataW H × List MemPlace)},
    (∀ (i : Nat) (f : Field), fs[i]? = some f → ∃ x, DataW.trod enc P w base spare held n f.type ((cs.drop f.offset).take (P.cellsOf f.type)) = some x) → ∃ a, rd w ((cs.drop off).take size) a
  len : ∀ {w cs a}, rd w cs a → cs.length = size
  keep : ∀ {w w' cs a}, Below w.heap.size w w' → rd w cs a → rd w' cs a
def Flds.nil (off : Nat) : Flds P [] off Unit where
  rd := fun _ cs _ => cs = []
  size := 0
  down := fun _ => ⟨(), by simp⟩
  len := fun h => by rw [h]; rfl
  keep := fun _ h => h
def Flds.cons {f : Field} {fs : List Field} {off : Nat} {α β : Type} (c : Cod P f.type α) (ho : f.offset = off) (r : Flds P fs (off + c.size) β) : Flds P (f :: fs) off (α × β) where
  rd := fun w cs a => ∃ cs1 cs2, cs = cs1 ++ cs2 ∧ c.rd w cs1 a.1 ∧ r.rd w cs2 a.2
  size := c.size + r.size
  down := fun {H enc w base spare held n cs xs} h => by
    obtain ⟨x, hx⟩ := h 0 f rfl
    rw [ho, c.cells] at hx
    obtain ⟨a, ha⟩ := c.down hx
    obtain ⟨b, hb⟩ := r.down (xs := xs) (fun i g hg => h (i + 1) g (by simpa using hg))
    refine ⟨(a, b), _, _, ?_, ha, hb⟩
    rw [← List.drop_drop]
    exact List.take_add ..
  len := fun ⟨cs1, cs2, h, h1, h2⟩ => by rw [h, List.length_append, c.len h1, r.len h2]
  keep := fun hb ⟨cs1, cs2, h, h1, h2⟩ => ⟨cs1, cs2, h, c.keep hb h1, r.keep hb h2⟩
def Cod.struct {t : TypeId} {fs : List Field} {α : Type} (ht : P.underlying t = some (.struct fs.toArray)) (r : Flds P fs 0 α) (hc : P.cellsOf t = r.size) : Cod P t α where
  rd := r.rd
  size := r.size
  cells := hc
  down := fun {H enc w base spare held fuel cs x} h => by
    obtain ⟨xs, n, _, _, hl, hxl, hf⟩ := DataW.trod_struct ht h
    obtain ⟨a, ha⟩ := r.down (xs := xs) (n := n) (enc := enc) (w := w) (base := base) (spare := spare) (held := held) (cs := cs) (fun i f hi => by
      have h1 := hf i f (by simpa using hi)
      have hil := (List.getElem?_eq_some_iff.1 hi).1
      rw [h1, List.getElem?_eq_getElem (by rw [hxl]; simpa using hil)]
      exact ⟨_, rfl⟩)
    refine ⟨a, ?_⟩
    rw [List.drop_zero, List.take_of_length_le (by omega)] at ha
    exact ha
  len := r.len
  keep := r.keep
/-- as another type -/
def Cod.map {t : TypeId} {α β : Type} (c : Cod P t α) (f : α → β) : Cod P t β where
  rd := fun w cs b => ∃ a, b = f a ∧ c.rd w cs a
  size := c.size
  cells := c.cells
  down := fun h => by obtain ⟨a, ha⟩ := c.down h; exact ⟨f a, a, rfl, ha⟩
  len := fun ⟨a, _, h⟩ => c.len h
  keep := fun hb ⟨a, e, h⟩ => ⟨a, e, c.keep hb h⟩
/-- the arguments are all read again behind a call that has changed nothing that was there -/
theorem trodAll_stays {H : Type} {enc : TypeId × Value → H} (hl : laidOutB P = true) {W W' : World} (hb : Below W.heap.size W W') :
    ∀ (ts : List TypeId) (vs : List Value) (ds : List (DataW H)) (ps : List MemPlace), (∀ t ∈ ts, P.readableRec t = true ∧ t < P.types.size) →
      DataW.TrodAll enc P W 0 (fun _ => true) true ts vs ds ps → DataW.TrodAll enc P W' 0 (fun b => decide (b < W.heap.size)) true ts vs ds ps
  | [], vs, ds, ps, _, h => by
    obtain ⟨rfl, rfl, rfl⟩ := trodAll_nil h
    exact rfl
  | t :: ts, vs, ds, ps, hr, h => by
    obtain ⟨v, vs', d, ds', p, q, rfl, rfl, rfl, h0, h1⟩ := trodAll_cons h
    have lt0 : ∀ x ∈ p, x.block < W.heap.size := by obtain ⟨m, hm⟩ := h0; exact DataW.trod_lt m _ _ _ hm
    obtain ⟨r1, r2⟩ := hr t (by simp)
    exact trodAll_cons_mk (Below.trod hl r1 r2 h0 hb lt0) (trodAll_stays hl hb ts vs' ds' q (fun t ht => hr t (by simp [ht])) h1)
end
end Go.Proofs.YtkaikhcpcbjkcaaGreatDoor.M
/- laws of names: how the arguments read -/
namespace Go.Proofs.YtkaikhcpcbjkcaaGreatDoor
open Go.RowKit M
set_option linter.unusedVariables false
theorem var_iface {P : Program} {w : World} {name : String} {g t : Nat} (hn : P.globalNamed name = some g) (hy : (P.globals[g]?).map (·.type) = some t) (ht : isIface P t = true) {nm : String} {x : DataW Unit} (h : Lib.VarReads P w name (.iface nm x)) : ∃ tp p, w.var? P name = some #[.iface tp p] := by
  obtain ⟨g', t', cs, fuel, p, h1, h2, h3, h4⟩ := h
  obtain rfl := Option.some.inj (hn.symm.trans h1)
  obtain rfl := Option.some.inj (hy.symm.trans h2)
  unfold isIface at ht
  cases hq : P.underlying t with
  | none => rw [hq] at ht; cases ht
  | some d =>
    rw [hq] at ht
    cases d <;> simp at ht
    cases fuel with
    | zero => simp [DataW.trod] at h4
    | succ fuel =>
      obtain ⟨l⟩ := cs
      match l, h3, h4 with
      | [], _, h4 => simp [DataW.trod, hq] at h4
      | [v], h3, h4 =>
        cases v with
        | iface a b => exact ⟨a, b, h3⟩
        | _ => simp [DataW.trod, hq] at h4
      | _ :: _ :: _, _, h4 => simp [DataW.trod, hq] at h4
theorem gPow : Tryz.prog.globalNamed "internal/strconv.uint64pow10" = some 5 := by kernel_rfl
theorem gSyn : Tryz.prog.globalNamed "strconv.ErrSyntax" = some 3 := by kernel_rfl
theorem gRng : Tryz.prog.globalNamed "strconv.ErrRange" = some 4 := by kernel_rfl
theorem tPow : (Tryz.prog.globals[5]?).map (·.type) = some 200 := by kernel_rfl
theorem tSyn : (Tryz.prog.globals[3]?).map (·.type) = some 156 := by kernel_rfl
theorem tRng : (Tryz.prog.globals[4]?).map (·.type) = some 156 := by kernel_rfl
theorem cPow : Tryz.prog.cellsOf 200 = 20 := by kernel_rfl
theorem cU64 : Tryz.prog.cellsOf 153 = 1 := by kernel_rfl
theorem wireG_of {W : World} {l : List (String × DataW Unit)} (h : laidMet Tryz.prog l W) (h1 : ("internal/strconv.uint64pow10", Rows.laid_internal_strconv_uint64pow10) ∈ l) (h2 : ("strconv.ErrSyntax", Rows.laid_strconv_ErrSyntax) ∈ l) (h3 : ("strconv.ErrRange", Rows.laid_strconv_ErrRange) ∈ l) : WireG W where
  tab := by
    obtain ⟨g', t', cs, fuel, p, e1, e2, e3, e4⟩ := Lib.laidMet.reads h h1
    obtain rfl := Option.some.inj (gPow.symm.trans e1)
    obtain rfl := Option.some.inj (tPow.symm.trans e2)
    unfold Lib.TabIs
    rw [e3]
    have e5 := Lib.cells_of_tab (zs := Lib.pow10Tab) (k := .u64) Tryz.underlying200 Tryz.underlying153 cU64 cPow (by exact e4)
    rw [← e5]
  syn := var_iface gSyn tSyn (by kernel_rfl) (Lib.laidMet.reads h h2)
  rng := var_iface gRng tRng (by kernel_rfl) (Lib.laidMet.reads h h3)
instance : Inhabited AcD := ⟨⟨0, [], [], [], [], [], zI⟩⟩
theorem nwf_in {n : Int} (h : (Lit.int .i64 n).wf = true) : inI n := by
  simp [Lit.wf, IntKind.min, IntKind.max, IntKind.signed, IntKind.bits] at h
  unfold inI; omega
def nintC : Cod Tryz.prog 3 Int := Cod.int .i64 Tryz.underlying3 (by kernel_rfl)
def nstrC : Cod Tryz.prog 9 ByteArray := Cod.string Tryz.underlying9 (by kernel_rfl)
def ninC : Cod Tryz.prog 35 (Int × Int × Int × Unit) :=
  Cod.struct (P := Tryz.prog) Tryz.underlying35 (Flds.cons nintC rfl (Flds.cons nintC rfl (Flds.cons nintC rfl (Flds.nil _)))) (by kernel_rfl)
def actCod : Cod Tryz.prog 37 (Int × ByteArray × ByteArray × ByteArray × ByteArray × ByteArray × (Int × Int × Int × Unit) × Unit) :=
  Cod.struct (P := Tryz.prog) Tryz.underlying37 (Flds.cons nintC rfl (Flds.cons nstrC rfl (Flds.cons nstrC rfl (Flds.cons nstrC rfl (Flds.cons nstrC rfl (Flds.cons nstrC rfl (Flds.cons ninC rfl (Flds.nil _)))))))) (by kernel_rfl)
def acOf (y : (Int × ByteArray × ByteArray × ByteArray × ByteArray × ByteArray × (Int × Int × Int × Unit) × Unit)) : AcD := ⟨y.1, y.2.1.data.toList, y.2.2.1.data.toList, y.2.2.2.1.data.toList, y.2.2.2.2.1.data.toList, y.2.2.2.2.2.1.data.toList, ⟨y.2.2.2.2.2.2.1.1, y.2.2.2.2.2.2.1.2.1, y.2.2.2.2.2.2.1.2.2.1⟩⟩
theorem act_of {W : World} {cs : List Value} {y : (Int × ByteArray × ByteArray × ByteArray × ByteArray × ByteArray × (Int × Int × Int × Unit) × Unit)} (h : actCod.rd W cs y) : InB (acOf y).n ∧ cs = acV (acOf y) := by
  obtain ⟨c1, cs1, rfl, ⟨rfl, _⟩, c2, cs2, rfl, ⟨rfl, _⟩, c3, cs3, rfl, ⟨rfl, _⟩, c4, cs4, rfl, ⟨rfl, _⟩, c5, cs5, rfl, ⟨rfl, _⟩, c6, cs6, rfl, ⟨rfl, _⟩, c7, cs7, rfl, ⟨k1, ks1, rfl, ⟨rfl, g1⟩, k2, ks2, rfl, ⟨rfl, g2⟩, k3, ks3, rfl, ⟨rfl, g3⟩, rfl⟩, rfl⟩ := h
  exact ⟨⟨nwf_in g1, nwf_in g2, nwf_in g3⟩, by simp [acV, acOf]⟩
theorem acts_of {W : World} {v : Value} {l : List (Int × ByteArray × ByteArray × ByteArray × ByteArray × ByteArray × (Int × Int × Int × Unit) × Unit)} (h : SliceRd actCod.rd actCod.size W v l) : ∃ l' : List AcD, (∀ (i : Nat) (x : AcD), l'[i]? = some x → InB x.n) ∧ ∀ w, Below W.heap.size W w → RdL acC v l' w := by
  obtain ⟨ao, cap, h1, h2, h3, h4⟩ := h
  have hex : ∀ i, i < l.length → ∃ a : AcD, InB a.n ∧ ∀ w, Below W.heap.size W w → ∃ b off, ao = some ⟨b, off, none⟩ ∧ ∀ (j : Nat) (u : Value), (acV a)[j]? = some u → w.cell? ⟨b, off + i * 9 + j, none⟩ = some u := by
    intro i hi
    obtain ⟨b, off, cs, e1, e2, e3, e4⟩ := h4 i l[i] (List.getElem?_eq_getElem hi)
    obtain ⟨g, e5⟩ := act_of e4
    refine ⟨acOf l[i], g, fun w hb => ⟨b, off, e1, fun j u hu => ?_⟩⟩
    exact (hb.cell (p := ⟨b, off + i * 9 + j, none⟩) e2).trans (e3 j u (by rw [e5]; exact hu))
  obtain ⟨f, hf⟩ := Go.Deep.choose_lt (n := l.length) hex
  refine ⟨(List.range l.length).map f, fun i x hx => ?_, fun w hb => ⟨ao, cap, by simpa using h1, by simp; omega, fun i a hi => ?_⟩⟩
  · have hil : i < l.length := by have := (List.getElem?_eq_some_iff.1 hx).1; simpa using this
    simp [hil] at hx
    subst hx
    exact (hf i hil).1
  · have hil : i < l.length := by have := (List.getElem?_eq_some_iff.1 hi).1; simpa using this
    simp [hil] at hi
    subst hi
    exact (hf i hil).2 w hb
theorem nbelow_of {W w : World} (h : Sat w [frameT W]) : Below W.heap.size W w := h.below 0 rfl
theorem ent_wire {W : World} (h : WireG W) : Ent (frameT W) WireG := Ent.frame fun w hb => h.below hb
theorem apart_row {W : World} {v0 : Value} {l0 : List (Int × ByteArray × ByteArray × ByteArray × ByteArray × ByteArray × (Int × Int × Int × Unit) × Unit)} {cs1 : Array Value} {l1 : (Int × ByteArray × ByteArray × ByteArray × ByteArray × ByteArray × (Int × Int × Int × Unit) × Unit)} (hG : WireG W) (h0 : SliceRd actCod.rd actCod.size W v0 l0) (h1 : actCod.rd W cs1.toList l1) :
    Calls Tryz.prog 4 #[v0, .agg cs1] W fun e W' => e = .returned (.bool true) ∧ Below W.heap.size W W' := by
  obtain ⟨a0, g0, h0⟩ := acts_of h0
  obtain ⟨g1, h1⟩ := act_of h1
  obtain rfl : cs1 = (acV (acOf l1)).toArray := by rw [← h1]
  exact (apart_law (Sat.start W) (ent_wire hG) (Ent.frame h0) g0 g1).mono fun e W' ⟨v, h4, h5, h6⟩ => ⟨by rw [h4, h5], nbelow_of h6⟩
end Go.Proofs.YtkaikhcpcbjkcaaGreatDoor
