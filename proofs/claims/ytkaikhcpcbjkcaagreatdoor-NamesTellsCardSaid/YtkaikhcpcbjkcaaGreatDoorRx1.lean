/- reference 15: cells -/
import Derived.Test.YtkaikhcpcbjkcaaGreatDoorRefw
import Derived.Test.YtkaikhcpcbjkcaaGreatDoorWr
import Derived.Test.YtkaikhcpcbjkcaaGreatDoorNm1
import Derived.Test.YtkaikhcpcbjkcaaGreatDoorNm14
namespace Go.Proofs.YtkaikhcpcbjkcaaGreatDoor
open Go.RowKit M
set_option linter.unusedVariables false
def rfT (p : Nat) (Z : List (Bs × Bs)) (R : List Value) : Th := exT fun q : Value × Value => starL [blkT p (q.1 :: q.2 :: R), rowT stC q.1 (Z.map (·.1)), rowT stC q.2 (Z.map (·.2))]
theorem rfT_open {w : World} {As : List Th} {p : Nat} {Z : List (Bs × Bs)} {R : List Value} (h : Sat w (rfT p Z R :: As)) : ∃ kv vv, Sat w (blkT p (kv :: vv :: R) :: rowT stC kv (Z.map (·.1)) :: rowT stC vv (Z.map (·.2)) :: As) := by
  obtain ⟨⟨a, b⟩, h⟩ := h.ex
  exact ⟨a, b, h.flat⟩
theorem rfT_shut {w : World} {As : List Th} {p : Nat} {Z : List (Bs × Bs)} {R : List Value} {kv vv : Value} (h : Sat w (blkT p (kv :: vv :: R) :: rowT stC kv (Z.map (·.1)) :: rowT stC vv (Z.map (·.2)) :: As)) : Sat w (rfT p Z R :: As) :=
  Sat.ex_intro (f := fun q : Value × Value => starL [blkT p (q.1 :: q.2 :: R), rowT stC q.1 (Z.map (·.1)), rowT stC q.2 (Z.map (·.2))]) (kv, vv) (Sat.fold (As := [blkT p (kv :: vv :: R), rowT stC kv (Z.map (·.1)), rowT stC vv (Z.map (·.2))]) h)
theorem cells_at {Z : List (Bs × Bs)} {c : Bs → Bs} (h : CellsR Z c) {j : Nat} {k : Bs} (hj : (Z.map (·.1))[j]? = some k) : (Z.map (·.2))[j]? = some (c k) := by
  rw [List.getElem?_map] at hj ⊢
  obtain ⟨x, hx, rfl⟩ := Option.map_eq_some_iff.1 hj
  rw [hx, (h.val x (List.mem_of_getElem? hx)).2]; rfl
theorem putL_skip {k v : Bs} {d : Bool} {x : Bs × Bs} {r : List (Bs × Bs)} (h : x.1 = k) : putL k v d (x :: r) = putL k v d r := by cases d <;> simp [putL, h]
theorem putL_here {k v : Bs} {x : Bs × Bs} {r : List (Bs × Bs)} (h : x.1 ≠ k) (hl : k < x.1) : putL k v false (x :: r) = (k, v) :: x :: putL k v true r := by simp [putL, h, hl]
theorem putL_past {k v : Bs} {d : Bool} {x : Bs × Bs} {r : List (Bs × Bs)} (h : x.1 ≠ k) (hl : d = true ∨ ¬ k < x.1) : putL k v d (x :: r) = x :: putL k v d r := by
  cases d with
  | true => simp [putL, h]
  | false => have : ¬ k < x.1 := by simpa using hl
             simp only [putL, if_neg h, if_neg this]
theorem drop_at {Z : List (Bs × Bs)} {i : Nat} {x : Bs × Bs} (h : Z[i]? = some x) : Z.drop i = x :: Z.drop (i + 1) := by
  obtain ⟨h1, h2⟩ := List.getElem?_eq_some_iff.1 h
  rw [← h2, List.getElem_cons_drop]
set_option maxRecDepth 100000 in
theorem index_sp {w : World} {F : Th} (hS : Sat w [F]) {lv : Value} {l : List Bs} (hL : Ent F (RdL stC lv l)) (s : Bs) :
    Calls Tryz.prog 18 #[lv, strV s] w (Ret fun v w' => ∃ i : Int, v = intV i ∧ ((i = -1 ∧ s ∉ l) ∨ ∃ j : Nat, i = (j : Int) ∧ l[j]? = some s) ∧ Sat w' [F]) := by
 obtain ⟨ao, cap, rfl, hmax⟩ := (hL.sat hS 0 rfl).shape
 refine calls_enter Tryz.func18 rfl Tryz.ntmps18 rfl ?_
 refine wc_seq (wc_region (wl_assign rfl rfl (wl_nil (qs_seq (wc_seq (wc_seq (wc_region (wl_assign rfl rfl (wl_nil (qs_seq (wc_block ?_)))))))))))
 refine wc_loop (fun K0 E0 W0 => ∃ (i : Nat), K0 = l.length - i ∧ E0 = [(0, .slice ao l.length cap), (1, strV s), (5, intV (i : Int))] ∧ Sat W0 [F] ∧ (i ≤ l.length) ∧ (∀ j, j < i → l[j]? ≠ some s)) (L0 := [(0, _), (1, _), (5, _)]) (l.length - 0) (.cons rfl (.cons rfl (.cons rfl .nil))) ⟨0, rfl, rfl, hS, by omega, by omega⟩ ?_
 rintro _ _ w1 ⟨i, rfl, rfl, hS1, hi, hno⟩
 refine wc_seq (wc_seq (wc_region (wl_move rfl rfl (wl_move rfl rfl ?_))))
 refine wl_lenL Tryz.underlying40 rfl rfl ?_
 refine wl_lss rfl rfl rfl ?_
 refine wl_nil (qs_seq ?_)
 refine wc_condD rfl (fun h2 => ?_) (fun h2 => ?_)
 ·obtain ⟨x, hx⟩ : ∃ x, l[i]? = some x := ⟨_, List.getElem?_eq_getElem (by omega)⟩
  obtain ⟨b, off, rfl, hc⟩ := (hL.sat hS1 0 rfl).get hx
  refine wc_skip (qs_seq (wc_seq (wc_block (wc_seq (wc_region (wl_move rfl rfl (wl_move rfl rfl ?_)))))))
  refine wl_indexAddr i rfl rfl (by first | rfl | omega) (by omega) es_40 rfl ?_
  refine wl_load rfl ag_9 (hc 0 _ rfl) rfl ?_
  refine wl_move rfl rfl ?_
  refine wl_eqlS rfl rfl rfl ?_
  refine wl_nil (qs_seq ?_)
  refine wc_sub (L' := [(17, _), (0, _), (1, _), (5, _)]) (.cons rfl (.cons rfl (.cons rfl (.cons rfl .nil)))) ?_
  refine wc_condD rfl (fun h3 => ?_) (fun h3 => ?_)
  ·refine wc_seq (wc_region (wl_move rfl rfl (wl_assign rfl rfl (wl_nil (qs_seq (wc_ret (qs_block_ret (qs_then_ret (qs_then_ret (qs_block_ret (qs_then_ret ?_)))))))))))
   refine fin1 (.inr rfl) rfl rfl ?_
   exact ⟨_, rfl, _, rfl, .inr ⟨i, rfl, by rw [hx]; congr 1⟩, hS1⟩
  refine wc_skip (qs_block_normal (qs_seq (wc_region (wl_move rfl rfl ?_))))
  refine wl_add rfl rfl (by omega) (by omega) rfl ?_
  refine wl_assign rfl rfl (wl_nil ?_)
  exact qs_round (L1 := [(0, _), (1, _), (5, intV ((i + 1 : Nat) : Int))]) (.cons rfl (.cons rfl (.cons rfl .nil))) (k1 := l.length - (i + 1)) (by omega) ⟨i + 1, rfl, rfl, hS1, by omega, fun j hj => by by_cases ej : j = i; (subst ej; rw [hx]; intro qe; injection qe with qe; exact absurd qe (by assumption)); exact hno j (by omega)⟩
 refine wc_exit (qs_then_exit (qs_then_exit (qs_block_exit (qs_seq (wc_seq (wc_region (wl_assign rfl rfl (wl_nil (qs_seq (wc_ret ?_))))))))))
 refine fin1 (.inr rfl) rfl rfl ?_
 exact ⟨_, rfl, _, rfl, .inl ⟨rfl, fun hm => by obtain ⟨j, hj⟩ := List.mem_iff_getElem?.1 hm; exact hno j (by have := (List.getElem?_eq_some_iff.1 hj).1; omega) hj⟩, hS1⟩
set_option maxRecDepth 100000 in
theorem fGet_sp {w : World} {p : Nat} {Z : List (Bs × Bs)} {R : List Value} {F : Th} (hS : Sat w [rfT p Z R, F]) (hZ : Z.length ≤ 1000000) {c : Bs → Bs} (hC : CellsR Z c) (k : Bs) :
    Calls Tryz.prog 77 #[ptrV p 0, strV k] w (Ret fun v w' => v = strV (c k) ∧ Sat w' [rfT p Z R, F]) := by
 obtain ⟨kv, vv, hS⟩ := rfT_open hS
 refine calls_enter Tryz.func77 rfl Tryz.ntmps77 rfl ?_
 refine wc_seq (wc_region (wl_assign rfl rfl (wl_nil (qs_seq (wc_seq (wc_region (wl_move rfl rfl (wl_nilCheck rfl rfl ?_))))))))
 refine wl_fieldAddr rfl fo_50_0 rfl ?_
 refine wl_load rfl ag_40 (by first | assumption | exact hS.cell 0 rfl rfl) rfl ?_
 refine wl_move rfl rfl ?_
 have hC1 := hS.split [] [false, false, false, false] rfl; dsimp only [selF, pickA, nthA, List.cons_append, List.nil_append] at hC1
 refine wl_call cal_18 rfl (index_sp hC1 (Ent.starL (ent_row (C := stC) (l := Z.map (·.1)) (by simp; omega)) 1 rfl) k) rfl ?_
 rintro e w1 ⟨_, rfl, i, rfl, hix, hS1⟩; refine ⟨_, rfl, ?_⟩
 replace hS1 := hS1.join rfl; dsimp only [List.dropLast, List.cons_append, List.nil_append] at hS1; clear hC1
 refine wl_assign rfl rfl (wl_nil (qs_seq (wc_seq (wc_seq (wc_region (wl_move rfl rfl ?_))))))
 refine wl_lss rfl rfl rfl ?_
 refine wl_nil (qs_seq ?_)
 refine wc_sub (L' := [(13, _), (5, _), (4, _), (0, _)]) (.cons rfl (.cons rfl (.cons rfl (.cons rfl .nil)))) ?_
 refine wc_condD rfl (fun h2 => ?_) (fun h2 => ?_)
 ·refine wc_seq (wc_region (wl_assign rfl rfl (wl_nil (qs_seq (wc_ret (qs_then_ret ?_))))))
  refine fin1 (.inr rfl) rfl rfl ?_
  have hnm : k ∉ Z.map (·.1) := by rcases hix with ⟨_, q⟩ | ⟨j, q, _⟩; exact q; omega
  exact ⟨_, rfl, by rw [hC.none k hnm], rfT_shut hS1⟩
 obtain ⟨j, rfl, hj⟩ : ∃ j : Nat, i = (j : Int) ∧ (Z.map (·.1))[j]? = some k := by rcases hix with ⟨q, _⟩ | q; omega; exact q
 have hcj := cells_at hC hj
 refine wc_skip (qs_seq (wc_seq (wc_region (wl_move rfl rfl (wl_nilCheck rfl rfl ?_)))))
 refine wl_fieldAddr rfl fo_50_1 rfl ?_
 refine wl_load rfl ag_40 (by first | assumption | exact hS1.cell 0 rfl rfl) rfl ?_
 refine wl_move rfl rfl ?_
 refine wl_rowIdx stC 2 j hS1 rfl rfl rfl (by first | rfl | omega) hcj es_40 rfl ?_
 intro bx3 capx3 hvx3
 refine wl_rowLoad 2 j 0 hS1 rfl hvx3 rfl rfl hcj ag_9 rfl rfl ?_
 refine wl_assign rfl rfl (wl_nil (qs_seq ?_))
 refine wc_sub (L' := [(4, _)]) (.cons rfl .nil) ?_
 refine wc_ret ?_
 refine fin1 (.inr rfl) rfl rfl ?_
 exact ⟨_, rfl, rfl, rfT_shut hS1⟩
set_option maxRecDepth 100000 in
theorem fPut_sp {w : World} {p : Nat} {Z : List (Bs × Bs)} {R : List Value} {F : Th} (hS : Sat w [rfT p Z R, F]) (hZ : Z.length ≤ 1000000) (k v : Bs) :
    Calls Tryz.prog 24 #[ptrV p 0, strV k, strV v] w (Ret fun v_ w' => v_ = .tuple #[] ∧ Sat w' [rfT p (putZ Z k v) R, F]) := by
 obtain ⟨kv, vv, hS⟩ := rfT_open hS
 refine calls_enter Tryz.func24 rfl Tryz.ntmps24 rfl ?_
 refine wc_seq (wc_region (wl_assign rfl rfl (wl_nil (qs_seq (wc_seq (wc_region (wl_assign rfl rfl (wl_nil (qs_seq (wc_seq (wc_region (wl_move rfl rfl ?_))))))))))))
 refine wl_eqlS rfl rfl rfl ?_
 refine wl_assign rfl rfl (wl_nil (qs_seq (wc_seq (wc_seq (wc_region (wl_assign rfl rfl (wl_nil (qs_seq (wc_block ?_)))))))))
 refine wc_loop (fun K0 E0 W0 => ∃ (i : Nat) (av cv : Value) (d : Bool) (acc : List (Bs × Bs)), K0 = Z.length - i ∧ E0 = [(0, ptrV p 0), (1, strV k), (2, strV v), (6, av), (7, cv), (8, .bool d), (9, intV (i : Int))] ∧ Sat W0 [blkT p (kv :: vv :: R), rowT stC kv (Z.map (·.1)), rowT stC vv (Z.map (·.2)), rowT stC av (acc.map (·.1)), rowT stC cv (acc.map (·.2)), F] ∧ (i ≤ Z.length) ∧ (acc ++ putL k v d (Z.drop i) = putZ Z k v) ∧ (acc.length ≤ i + d.toNat)) (L0 := [(0, _), (1, _), (2, _), (6, _), (7, _), (8, _), (9, _)]) (Z.length - 0) (.cons rfl (.cons rfl (.cons rfl (.cons rfl (.cons rfl (.cons rfl (.cons rfl .nil))))))) ⟨0, _, _, _, [], rfl, rfl, ((hS.row_nil stC).row_nil stC).reorder [2, 3, 4, 0, 1, 5] rfl, by omega, rfl, by simp⟩ ?_
 rintro _ _ w1 ⟨i, av, cv, d, acc, rfl, rfl, hS1, hi, hac, hal⟩
 have h1av : av.oneCell' = true := hS1.own_one 3 rfl
 have h1cv : cv.oneCell' = true := hS1.own_one 4 rfl
 have hdt : d.toNat ≤ 1 := Bool.toNat_le d
 have hml : (Z.map (·.1)).length = Z.length := by simp
 refine wc_seq (wc_seq (wc_region (wl_move rfl rfl (wl_move rfl rfl (wl_nilCheck rfl rfl ?_)))))
 refine wl_fieldAddr rfl fo_50_0 rfl ?_
 refine wl_load rfl ag_40 (by first | assumption | exact hS1.cell 0 rfl rfl) rfl ?_
 first | refine wl_lenL Tryz.underlying40 rfl rfl ?_ | refine wl_lenO 1 hS1 Tryz.underlying40 rfl rfl rfl ?_ | refine wl_lenO 2 hS1 Tryz.underlying40 rfl rfl rfl ?_ | refine wl_lenO 3 hS1 Tryz.underlying40 rfl rfl rfl ?_ | refine wl_lenO 4 hS1 Tryz.underlying40 rfl rfl rfl ?_
 refine wl_lss rfl rfl rfl ?_
 refine wl_nil (qs_seq ?_)
 refine wc_sub (L' := [(18, _), (0, _), (1, _), (2, _), (6, _), (7, _), (8, _), (9, _)]) (.cons rfl (.cons rfl (.cons rfl (.cons rfl (.cons rfl (.cons rfl (.cons rfl (.cons rfl .nil)))))))) ?_
 refine wc_condD rfl (fun h2 => ?_) (fun h2 => ?_)
 ·obtain ⟨x, hx⟩ : ∃ x, Z[i]? = some x := ⟨_, List.getElem?_eq_getElem (by omega)⟩
  have hki : (Z.map (·.1))[i]? = some x.1 := by rw [List.getElem?_map, hx]; rfl
  have hvi : (Z.map (·.2))[i]? = some x.2 := by rw [List.getElem?_map, hx]; rfl
  refine wc_skip (qs_seq (wc_seq (wc_block (wc_seq (wc_seq (wc_region (wl_move rfl rfl (wl_nilCheck rfl rfl ?_))))))))
  refine wl_fieldAddr rfl fo_50_0 rfl ?_
  refine wl_load rfl ag_40 (by first | assumption | exact hS1.cell 0 rfl rfl) rfl ?_
  refine wl_move rfl rfl ?_
  refine wl_rowIdx stC 1 i hS1 rfl rfl rfl (by first | rfl | omega) hki es_40 rfl ?_
  intro bx3 capx3 hvx3
  refine wl_rowLoad 1 i 0 hS1 rfl hvx3 rfl rfl hki ag_9 rfl rfl ?_
  refine wl_move rfl rfl ?_
  refine wl_eqlS rfl rfl rfl ?_
  refine wl_nil (qs_seq ?_)
  refine wc_sub (L' := [(29, _), (0, _), (1, _), (2, _), (6, _), (7, _), (8, _), (9, _)]) (.cons rfl (.cons rfl (.cons rfl (.cons rfl (.cons rfl (.cons rfl (.cons rfl (.cons rfl .nil)))))))) ?_
  refine wc_condD rfl (fun h4 => ?_) (fun h4 => ?_)
  ·have hk1 : x.1 = k := h4
   refine wc_exit (qs_then_exit (qs_block_exit (qs_seq (wc_region (wl_move rfl rfl ?_)))))
   refine wl_add rfl rfl (by omega) (by omega) rfl ?_
   refine wl_assign rfl rfl (wl_nil ?_)
   have hSz := hS1.pick [0, 1, 2, 3, 4, 5] rfl; dsimp only [pickA, nthA] at hSz
   exact qs_round (L1 := [(0, _), (1, _), (2, _), (6, _), (7, _), (8, _), (9, intV ((i + 1 : Nat) : Int))]) (.cons rfl (.cons rfl (.cons rfl (.cons rfl (.cons rfl (.cons rfl (.cons rfl .nil))))))) (k1 := Z.length - (i + 1)) (by omega) ⟨i + 1, _, _, _, acc, rfl, rfl, by first | exact hSz | (simp only [List.map_append, List.map_cons, List.map_nil]; exact hSz), by omega, by rw [drop_at hx, putL_skip (by assumption)] at hac; exact hac, by omega⟩
  have hk1 : x.1 ≠ k := h4
  refine wc_skip (qs_seq (wc_seq (wc_seq (wc_region (wl_move rfl rfl ?_)))))
  refine wl_not rfl rfl ?_
  refine wl_move rfl rfl ?_
  refine wl_split 32 rfl (fun h5 => ?_) (fun h5 => ?_)
  ·have hd0 : d = false := by simpa using h5
   refine wl_guard rfl rfl h5 ?_
   refine wl_move rfl rfl ?_
   refine wl_guard rfl rfl h5 ?_
   refine wl_nilCheck rfl rfl ?_
   refine wl_guard rfl rfl h5 ?_
   refine wl_fieldAddr rfl fo_50_0 rfl ?_
   refine wl_guard rfl rfl h5 ?_
   refine wl_load rfl ag_40 (by first | assumption | exact hS1.cell 0 rfl rfl) rfl ?_
   refine wl_guard rfl rfl h5 ?_
   refine wl_move rfl rfl ?_
   refine wl_guard rfl rfl h5 ?_
   refine wl_rowIdx stC 1 i hS1 rfl rfl rfl (by first | rfl | omega) hki es_40 rfl ?_
   intro bx6 capx6 hvx6
   refine wl_guard rfl rfl h5 ?_
   refine wl_rowLoad 1 i 0 hS1 rfl hvx6 rfl rfl hki ag_9 rfl rfl ?_
   refine wl_guard rfl rfl h5 ?_
   refine wl_move rfl rfl ?_
   refine wl_guard rfl rfl h5 ?_
   refine wl_gtrS rfl rfl rfl ?_
   refine wl_pickT rfl h5 rfl rfl ?_
   refine wl_nil (qs_seq ?_)
   refine wc_sub (L' := [(42, _), (0, _), (1, _), (2, _), (6, _), (7, _), (8, _), (9, _)]) (.cons rfl (.cons rfl (.cons rfl (.cons rfl (.cons rfl (.cons rfl (.cons rfl (.cons rfl .nil)))))))) ?_
   refine wc_condD rfl (fun h7 => ?_) (fun h7 => ?_)
   ·have hgt : k < x.1 := h7
    refine wc_seq (wc_region (wl_move rfl rfl (wl_move rfl rfl ?_)))
    refine wl_rowBuild stC [k] hS1 rfl Tryz.underlying40 ifz_9 rfl rfl rfl rfl (by first | rfl | simp [RowC.cells, fillL, splice]) rfl ?_
    intro b8 w8 hS8
    clear hS1
    refine wl_rowApp stC 4 hS8 rfl rfl rfl (hS8.rd 0 rfl (by simp)) Tryz.underlying40 Tryz.underlying40 (by intro k hk; cases hk) ifo_9 rfl (by simp; omega) rfl (by simp; omega) ?_
    intro v9 w9 hS9; dsimp only [List.set] at hS9
    clear hS8
    have h1v9 : v9.oneCell' = true := hS9.own_one 4 rfl
    refine wl_assign rfl rfl (wl_nil (qs_seq ?_))
    refine wc_sub (L' := [(6, _), (0, _), (1, _), (2, _), (7, _), (8, _), (9, _)]) (.cons rfl (.cons rfl (.cons rfl (.cons rfl (.cons rfl (.cons rfl (.cons rfl .nil))))))) ?_
    refine wc_seq (wc_region (wl_move rfl rfl (wl_move rfl rfl ?_)))
    refine wl_rowBuild stC [v] hS9 rfl Tryz.underlying40 ifz_9 rfl rfl rfl rfl (by first | rfl | simp [RowC.cells, fillL, splice]) rfl ?_
    intro b10 w10 hS10
    clear hS9
    refine wl_rowApp stC 6 hS10 rfl rfl rfl (hS10.rd 0 rfl (by simp)) Tryz.underlying40 Tryz.underlying40 (by intro k hk; cases hk) ifo_9 rfl (by simp; omega) rfl (by simp; omega) ?_
    intro v11 w11 hS11; dsimp only [List.set] at hS11
    clear hS10
    have h1v11 : v11.oneCell' = true := hS11.own_one 6 rfl
    refine wl_assign rfl rfl (wl_nil (qs_seq ?_))
    refine wc_sub (L' := [(7, _), (6, _), (0, _), (1, _), (2, _), (8, _), (9, _)]) (.cons rfl (.cons rfl (.cons rfl (.cons rfl (.cons rfl (.cons rfl (.cons rfl .nil))))))) ?_
    refine wc_region (wl_assign rfl rfl (wl_nil (qs_seq (wc_seq (wc_region (wl_move rfl rfl (wl_move rfl rfl (wl_nilCheck rfl rfl ?_))))))))
    refine wl_fieldAddr rfl fo_50_0 rfl ?_
    refine wl_load rfl ag_40 (by first | assumption | exact hS11.cell 2 rfl rfl) rfl ?_
    refine wl_move rfl rfl ?_
    refine wl_rowIdx stC 3 i hS11 rfl rfl rfl (by first | rfl | omega) hki es_40 rfl ?_
    intro bx12 capx12 hvx12
    refine wl_rowLoad 3 i 0 hS11 rfl hvx12 rfl rfl hki ag_9 rfl rfl ?_
    refine wl_rowBuild stC [x.1] hS11 rfl Tryz.underlying40 ifz_9 rfl rfl rfl rfl (by first | rfl | simp [RowC.cells, fillL, splice]) rfl ?_
    intro b13 w13 hS13
    clear hS11
    refine wl_rowApp stC 6 hS13 rfl rfl rfl (hS13.rd 0 rfl (by simp)) Tryz.underlying40 Tryz.underlying40 (by intro k hk; cases hk) ifo_9 rfl (by simp; omega) rfl (by simp; omega) ?_
    intro v14 w14 hS14; dsimp only [List.set] at hS14
    clear hS13
    have h1v14 : v14.oneCell' = true := hS14.own_one 6 rfl
    refine wl_assign rfl rfl (wl_nil (qs_seq ?_))
    refine wc_sub (L' := [(6, _), (8, _), (7, _), (0, _), (1, _), (2, _), (9, _)]) (.cons rfl (.cons rfl (.cons rfl (.cons rfl (.cons rfl (.cons rfl (.cons rfl .nil))))))) ?_
    refine wc_region (wl_move rfl rfl (wl_move rfl rfl (wl_nilCheck rfl rfl ?_)))
    refine wl_fieldAddr rfl fo_50_1 rfl ?_
    refine wl_load rfl ag_40 (by first | assumption | exact hS14.cell 3 rfl rfl) rfl ?_
    refine wl_move rfl rfl ?_
    refine wl_rowIdx stC 5 i hS14 rfl rfl rfl (by first | rfl | omega) hvi es_40 rfl ?_
    intro bx15 capx15 hvx15
    refine wl_rowLoad 5 i 0 hS14 rfl hvx15 rfl rfl hvi ag_9 rfl rfl ?_
    refine wl_rowBuild stC [x.2] hS14 rfl Tryz.underlying40 ifz_9 rfl rfl rfl rfl (by first | rfl | simp [RowC.cells, fillL, splice]) rfl ?_
    intro b16 w16 hS16
    clear hS14
    refine wl_rowApp stC 8 hS16 rfl rfl rfl (hS16.rd 0 rfl (by simp)) Tryz.underlying40 Tryz.underlying40 (by intro k hk; cases hk) ifo_9 rfl (by simp; omega) rfl (by simp; omega) ?_
    intro v17 w17 hS17; dsimp only [List.set] at hS17
    clear hS16
    have h1v17 : v17.oneCell' = true := hS17.own_one 8 rfl
    refine wl_assign rfl rfl (wl_nil (qs_block_normal (qs_seq ?_)))
    refine wc_sub (L' := [(7, _), (6, _), (8, _), (0, _), (1, _), (2, _), (9, _)]) (.cons rfl (.cons rfl (.cons rfl (.cons rfl (.cons rfl (.cons rfl (.cons rfl .nil))))))) ?_
    refine wc_region (wl_move rfl rfl ?_)
    refine wl_add rfl rfl (by omega) (by omega) rfl ?_
    refine wl_assign rfl rfl (wl_nil ?_)
    have hSz := hS17.pick [4, 5, 6, 7, 8, 9] rfl; dsimp only [pickA, nthA] at hSz
    exact qs_round (L1 := [(0, _), (1, _), (2, _), (6, _), (7, _), (8, _), (9, intV ((i + 1 : Nat) : Int))]) (.cons rfl (.cons rfl (.cons rfl (.cons rfl (.cons rfl (.cons rfl (.cons rfl .nil))))))) (k1 := Z.length - (i + 1)) (by omega) ⟨i + 1, _, _, _, (acc ++ [(k, v)] ++ [x]), rfl, rfl, by first | exact hSz | (simp only [List.map_append, List.map_cons, List.map_nil]; exact hSz), by omega, by rw [drop_at hx, hd0, putL_here (by assumption) hgt] at hac; simpa using hac, by rw [hd0] at hal; simp at hal ⊢; omega⟩
   refine wc_skip (qs_seq (wc_seq (wc_region (wl_move rfl rfl (wl_move rfl rfl (wl_nilCheck rfl rfl ?_))))))
   refine wl_fieldAddr rfl fo_50_0 rfl ?_
   refine wl_load rfl ag_40 (by first | assumption | exact hS1.cell 0 rfl rfl) rfl ?_
   refine wl_move rfl rfl ?_
   refine wl_rowIdx stC 1 i hS1 rfl rfl rfl (by first | rfl | omega) hki es_40 rfl ?_
   intro bx18 capx18 hvx18
   refine wl_rowLoad 1 i 0 hS1 rfl hvx18 rfl rfl hki ag_9 rfl rfl ?_
   refine wl_rowBuild stC [x.1] hS1 rfl Tryz.underlying40 ifz_9 rfl rfl rfl rfl (by first | rfl | simp [RowC.cells, fillL, splice]) rfl ?_
   intro b19 w19 hS19
   clear hS1
   refine wl_rowApp stC 4 hS19 rfl rfl rfl (hS19.rd 0 rfl (by simp)) Tryz.underlying40 Tryz.underlying40 (by intro k hk; cases hk) ifo_9 rfl (by simp; omega) rfl (by simp; omega) ?_
   intro v20 w20 hS20; dsimp only [List.set] at hS20
   clear hS19
   have h1v20 : v20.oneCell' = true := hS20.own_one 4 rfl
   refine wl_assign rfl rfl (wl_nil (qs_seq ?_))
   refine wc_sub (L' := [(6, _), (0, _), (1, _), (2, _), (7, _), (8, _), (9, _)]) (.cons rfl (.cons rfl (.cons rfl (.cons rfl (.cons rfl (.cons rfl (.cons rfl .nil))))))) ?_
   refine wc_region (wl_move rfl rfl (wl_move rfl rfl (wl_nilCheck rfl rfl ?_)))
   refine wl_fieldAddr rfl fo_50_1 rfl ?_
   refine wl_load rfl ag_40 (by first | assumption | exact hS20.cell 1 rfl rfl) rfl ?_
   refine wl_move rfl rfl ?_
   refine wl_rowIdx stC 3 i hS20 rfl rfl rfl (by first | rfl | omega) hvi es_40 rfl ?_
   intro bx21 capx21 hvx21
   refine wl_rowLoad 3 i 0 hS20 rfl hvx21 rfl rfl hvi ag_9 rfl rfl ?_
   refine wl_rowBuild stC [x.2] hS20 rfl Tryz.underlying40 ifz_9 rfl rfl rfl rfl (by first | rfl | simp [RowC.cells, fillL, splice]) rfl ?_
   intro b22 w22 hS22
   clear hS20
   refine wl_rowApp stC 6 hS22 rfl rfl rfl (hS22.rd 0 rfl (by simp)) Tryz.underlying40 Tryz.underlying40 (by intro k hk; cases hk) ifo_9 rfl (by simp; omega) rfl (by simp; omega) ?_
   intro v23 w23 hS23; dsimp only [List.set] at hS23
   clear hS22
   have h1v23 : v23.oneCell' = true := hS23.own_one 6 rfl
   refine wl_assign rfl rfl (wl_nil (qs_block_normal (qs_seq ?_)))
   refine wc_sub (L' := [(7, _), (6, _), (0, _), (1, _), (2, _), (8, _), (9, _)]) (.cons rfl (.cons rfl (.cons rfl (.cons rfl (.cons rfl (.cons rfl (.cons rfl .nil))))))) ?_
   refine wc_region (wl_move rfl rfl ?_)
   refine wl_add rfl rfl (by omega) (by omega) rfl ?_
   refine wl_assign rfl rfl (wl_nil ?_)
   have hSz := hS23.pick [2, 3, 4, 5, 6, 7] rfl; dsimp only [pickA, nthA] at hSz
   exact qs_round (L1 := [(0, _), (1, _), (2, _), (6, _), (7, _), (8, _), (9, intV ((i + 1 : Nat) : Int))]) (.cons rfl (.cons rfl (.cons rfl (.cons rfl (.cons rfl (.cons rfl (.cons rfl .nil))))))) (k1 := Z.length - (i + 1)) (by omega) ⟨i + 1, _, _, _, (acc ++ [x]), rfl, rfl, by first | exact hSz | (simp only [List.map_append, List.map_cons, List.map_nil]; exact hSz), by omega, by rw [drop_at hx, putL_past (by assumption) (by first | exact .inl (by simpa using (by assumption : (!d) = false)) | exact .inr (by assumption))] at hac; simpa using hac, by simp; omega⟩
  refine wl_unwanted rfl rfl h5 rfl ?_
  refine wl_unwanted rfl rfl h5 rfl ?_
  refine wl_unwanted rfl rfl h5 rfl ?_
  refine wl_unwanted rfl rfl h5 rfl ?_
  refine wl_unwanted rfl rfl h5 rfl ?_
  refine wl_unwanted rfl rfl h5 rfl ?_
  refine wl_unwanted rfl rfl h5 rfl ?_
  refine wl_unwanted rfl rfl h5 rfl ?_
  refine wl_unwanted rfl rfl h5 rfl ?_
  refine wl_pickF rfl h5 rfl rfl ?_
  refine wl_nil (qs_seq ?_)
  refine wc_sub (L' := [(42, _), (0, _), (1, _), (2, _), (6, _), (7, _), (8, _), (9, _)]) (.cons rfl (.cons rfl (.cons rfl (.cons rfl (.cons rfl (.cons rfl (.cons rfl (.cons rfl .nil)))))))) ?_
  refine wc_condF rfl ?_
  refine wc_skip (qs_seq (wc_seq (wc_region (wl_move rfl rfl (wl_move rfl rfl (wl_nilCheck rfl rfl ?_))))))
  refine wl_fieldAddr rfl fo_50_0 rfl ?_
  refine wl_load rfl ag_40 (by first | assumption | exact hS1.cell 0 rfl rfl) rfl ?_
  refine wl_move rfl rfl ?_
  refine wl_rowIdx stC 1 i hS1 rfl rfl rfl (by first | rfl | omega) hki es_40 rfl ?_
  intro bx24 capx24 hvx24
  refine wl_rowLoad 1 i 0 hS1 rfl hvx24 rfl rfl hki ag_9 rfl rfl ?_
  refine wl_rowBuild stC [x.1] hS1 rfl Tryz.underlying40 ifz_9 rfl rfl rfl rfl (by first | rfl | simp [RowC.cells, fillL, splice]) rfl ?_
  intro b25 w25 hS25
  clear hS1
  refine wl_rowApp stC 4 hS25 rfl rfl rfl (hS25.rd 0 rfl (by simp)) Tryz.underlying40 Tryz.underlying40 (by intro k hk; cases hk) ifo_9 rfl (by simp; omega) rfl (by simp; omega) ?_
  intro v26 w26 hS26; dsimp only [List.set] at hS26
  clear hS25
  have h1v26 : v26.oneCell' = true := hS26.own_one 4 rfl
  refine wl_assign rfl rfl (wl_nil (qs_seq ?_))
  refine wc_sub (L' := [(6, _), (0, _), (1, _), (2, _), (7, _), (8, _), (9, _)]) (.cons rfl (.cons rfl (.cons rfl (.cons rfl (.cons rfl (.cons rfl (.cons rfl .nil))))))) ?_
  refine wc_region (wl_move rfl rfl (wl_move rfl rfl (wl_nilCheck rfl rfl ?_)))
  refine wl_fieldAddr rfl fo_50_1 rfl ?_
  refine wl_load rfl ag_40 (by first | assumption | exact hS26.cell 1 rfl rfl) rfl ?_
  refine wl_move rfl rfl ?_
  refine wl_rowIdx stC 3 i hS26 rfl rfl rfl (by first | rfl | omega) hvi es_40 rfl ?_
  intro bx27 capx27 hvx27
  refine wl_rowLoad 3 i 0 hS26 rfl hvx27 rfl rfl hvi ag_9 rfl rfl ?_
  refine wl_rowBuild stC [x.2] hS26 rfl Tryz.underlying40 ifz_9 rfl rfl rfl rfl (by first | rfl | simp [RowC.cells, fillL, splice]) rfl ?_
  intro b28 w28 hS28
  clear hS26
  refine wl_rowApp stC 6 hS28 rfl rfl rfl (hS28.rd 0 rfl (by simp)) Tryz.underlying40 Tryz.underlying40 (by intro k hk; cases hk) ifo_9 rfl (by simp; omega) rfl (by simp; omega) ?_
  intro v29 w29 hS29; dsimp only [List.set] at hS29
  clear hS28
  have h1v29 : v29.oneCell' = true := hS29.own_one 6 rfl
  refine wl_assign rfl rfl (wl_nil (qs_block_normal (qs_seq ?_)))
  refine wc_sub (L' := [(7, _), (6, _), (0, _), (1, _), (2, _), (8, _), (9, _)]) (.cons rfl (.cons rfl (.cons rfl (.cons rfl (.cons rfl (.cons rfl (.cons rfl .nil))))))) ?_
  refine wc_region (wl_move rfl rfl ?_)
  refine wl_add rfl rfl (by omega) (by omega) rfl ?_
  refine wl_assign rfl rfl (wl_nil ?_)
  have hSz := hS29.pick [2, 3, 4, 5, 6, 7] rfl; dsimp only [pickA, nthA] at hSz
  exact qs_round (L1 := [(0, _), (1, _), (2, _), (6, _), (7, _), (8, _), (9, intV ((i + 1 : Nat) : Int))]) (.cons rfl (.cons rfl (.cons rfl (.cons rfl (.cons rfl (.cons rfl (.cons rfl .nil))))))) (k1 := Z.length - (i + 1)) (by omega) ⟨i + 1, _, _, _, (acc ++ [x]), rfl, rfl, by first | exact hSz | (simp only [List.map_append, List.map_cons, List.map_nil]; exact hSz), by omega, by rw [drop_at hx, putL_past (by assumption) (by first | exact .inl (by simpa using (by assumption : (!d) = false)) | exact .inr (by assumption))] at hac; simpa using hac, by simp; omega⟩
 refine wc_exit (qs_then_exit (qs_then_exit (qs_block_exit (qs_seq (wc_seq (wc_seq (wc_region (wl_move rfl rfl ?_))))))))
 refine wl_not rfl rfl ?_
 refine wl_nil (qs_seq ?_)
 refine wc_cond rfl (fun h30 => ?_) (fun h30 => ?_)
 ·refine wc_seq (wc_region (wl_move rfl rfl (wl_move rfl rfl ?_)))
  refine wl_rowBuild stC [k] hS1 rfl Tryz.underlying40 ifz_9 rfl rfl rfl rfl (by first | rfl | simp [RowC.cells, fillL, splice]) rfl ?_
  intro b31 w31 hS31
  clear hS1
  refine wl_rowApp stC 4 hS31 rfl rfl rfl (hS31.rd 0 rfl (by simp)) Tryz.underlying40 Tryz.underlying40 (by intro k hk; cases hk) ifo_9 rfl (by simp; omega) rfl (by simp; omega) ?_
  intro v32 w32 hS32; dsimp only [List.set] at hS32
  clear hS31
  have h1v32 : v32.oneCell' = true := hS32.own_one 4 rfl
  refine wl_assign rfl rfl (wl_nil (qs_seq ?_))
  refine wc_sub (L' := [(6, _), (0, _), (2, _), (7, _)]) (.cons rfl (.cons rfl (.cons rfl (.cons rfl .nil)))) ?_
  refine wc_region (wl_move rfl rfl (wl_move rfl rfl ?_))
  refine wl_rowBuild stC [v] hS32 rfl Tryz.underlying40 ifz_9 rfl rfl rfl rfl (by first | rfl | simp [RowC.cells, fillL, splice]) rfl ?_
  intro b33 w33 hS33
  clear hS32
  refine wl_rowApp stC 6 hS33 rfl rfl rfl (hS33.rd 0 rfl (by simp)) Tryz.underlying40 Tryz.underlying40 (by intro k hk; cases hk) ifo_9 rfl (by simp; omega) rfl (by simp; omega) ?_
  intro v34 w34 hS34; dsimp only [List.set] at hS34
  clear hS33
  have h1v34 : v34.oneCell' = true := hS34.own_one 6 rfl
  refine wl_assign rfl rfl (wl_nil (qs_seq (wc_seq (wc_region (wl_move rfl rfl (wl_move rfl rfl (wl_nilCheck rfl rfl ?_)))))))
  refine wl_fieldAddr rfl fo_50_0 rfl ?_
  refine wl_store hS34 rfl rfl sz_40 (by first | rfl | assumption) (i := 2) rfl (by simp) ?_
  intro w35 hS35; dsimp only [List.set] at hS35
  clear hS34
  refine wl_nil (qs_seq ?_)
  refine wc_sub (L' := [(7, _), (0, _)]) (.cons rfl (.cons rfl .nil)) ?_
  refine wc_region (wl_move rfl rfl (wl_move rfl rfl (wl_nilCheck rfl rfl ?_)))
  refine wl_fieldAddr rfl fo_50_1 rfl ?_
  refine wl_store hS35 rfl rfl sz_40 (by first | rfl | assumption) (i := 2) rfl (by simp) ?_
  intro w36 hS36; dsimp only [List.set] at hS36
  clear hS35
  refine wl_nil ?_
  refine fin0 (.inl rfl) rfl ?_
  have hfin : (acc ++ [(k, v)]) = putZ Z k v := by rw [List.drop_eq_nil_of_le (by omega)] at hac; rw [show d = false by simpa using (by assumption : (!d) = true)] at hac; simpa [putL] using hac
  exact ⟨_, rfl, rfl, rfT_shut (by rw [← hfin]; first | exact hS36.pick [2, 5, 6, 7] rfl | (simp only [List.map_append, List.map_cons, List.map_nil]; exact hS36.pick [2, 5, 6, 7] rfl))⟩
 refine wc_skip (qs_seq (wc_seq (wc_region (wl_move rfl rfl (wl_move rfl rfl (wl_nilCheck rfl rfl ?_))))))
 refine wl_fieldAddr rfl fo_50_0 rfl ?_
 refine wl_store hS1 rfl rfl sz_40 (by first | rfl | assumption) (i := 0) rfl (by simp) ?_
 intro w37 hS37; dsimp only [List.set] at hS37
 clear hS1
 refine wl_nil (qs_seq ?_)
 refine wc_sub (L' := [(0, _), (7, _)]) (.cons rfl (.cons rfl .nil)) ?_
 refine wc_region (wl_move rfl rfl (wl_move rfl rfl (wl_nilCheck rfl rfl ?_)))
 refine wl_fieldAddr rfl fo_50_1 rfl ?_
 refine wl_store hS37 rfl rfl sz_40 (by first | rfl | assumption) (i := 0) rfl (by simp) ?_
 intro w38 hS38; dsimp only [List.set] at hS38
 clear hS37
 refine wl_nil ?_
 refine fin0 (.inl rfl) rfl ?_
 have hfin : acc = putZ Z k v := by rw [List.drop_eq_nil_of_le (by omega)] at hac; rw [show d = true by simpa using (by assumption : (!d) = false)] at hac; simpa [putL] using hac
 exact ⟨_, rfl, rfl, rfT_shut (by rw [← hfin]; first | exact hS38.pick [0, 3, 4, 5] rfl | (simp only [List.map_append, List.map_cons, List.map_nil]; exact hS38.pick [0, 3, 4, 5] rfl))⟩
theorem starts_eq (s q : Bs) : (decide (q.length ≤ s.length) && decide (s.take (min q.length s.length) = q)) = Lib.hasPrefix s q := by
  unfold Lib.hasPrefix
  rw [Bool.eq_iff_iff]
  simp only [Bool.and_eq_true, decide_eq_true_eq, List.isPrefixOf_iff_prefix]
  constructor
  · rintro ⟨h1, h2⟩
    rw [← h2]; exact List.take_prefix _ _
  · intro h
    have h1 := h.length_le
    exact ⟨h1, by rw [Nat.min_eq_left h1]; exact (List.prefix_iff_eq_take.1 h).symm⟩
theorem starts_sp {w : World} {F : Th} (hS : Sat w [F]) (s q : Bs) :
    Calls Tryz.prog 101 #[strV s, strV q] w (Ret fun v w' => v = .bool (Lib.hasPrefix s q) ∧ Sat w' [F]) := by
 refine calls_enter Tryz.func101 rfl Tryz.ntmps101 rfl ?_
 refine wc_seq (wc_region (wl_assign rfl rfl (wl_nil (qs_seq (wc_seq (wc_region (wl_move rfl rfl ?_)))))))
 refine wl_lenS Tryz.underlying9 rfl rfl ?_
 refine wl_move rfl rfl ?_
 refine wl_lenS Tryz.underlying9 rfl rfl ?_
 refine wl_geq rfl rfl rfl ?_
 refine wl_move rfl rfl ?_
 refine wl_splitD 10 rfl (fun h1 => ?_) (fun h1 => ?_)
 ·refine wl_guard rfl rfl (decide_eq_true h1) ?_
  refine wl_move rfl rfl ?_
  refine wl_guard rfl rfl (decide_eq_true h1) ?_
  refine wl_move rfl rfl ?_
  refine wl_guard rfl rfl (decide_eq_true h1) ?_
  refine wl_lenS Tryz.underlying9 rfl rfl ?_
  refine wl_guard rfl rfl (decide_eq_true h1) ?_
  refine wl_move rfl rfl ?_
  refine wl_guard rfl rfl (decide_eq_true h1) ?_
  refine wl_lenS Tryz.underlying9 rfl rfl ?_
  refine wl_guard rfl rfl (decide_eq_true h1) ?_
  refine wl_minI rfl rfl rfl ?_
  refine wl_guard rfl rfl (decide_eq_true h1) ?_
  refine wl_sliceS 0 (min q.length s.length) Tryz.underlying9 rfl (bndN _) (bndS (min q.length s.length) _ rfl (by omega)) (by omega) (by omega) rfl ?_
  refine wl_guard rfl rfl (decide_eq_true h1) ?_
  refine wl_move rfl rfl ?_
  refine wl_guard rfl rfl (decide_eq_true h1) ?_
  refine wl_eqlS rfl rfl rfl ?_
  refine wl_pickT rfl (decide_eq_true h1) rfl rfl ?_
  refine wl_assign rfl rfl (wl_nil (qs_seq ?_))
  refine wc_sub (L' := [(4, _)]) (.cons rfl .nil) ?_
  refine wc_ret ?_
  refine fin1 (.inr rfl) rfl rfl ?_
  exact ⟨_, rfl, by rw [← starts_eq, decide_eq_true (show q.length ≤ s.length by omega), Bool.true_and, List.drop_zero], hS⟩
 refine wl_unwanted rfl rfl (decide_eq_false h1) rfl ?_
 refine wl_unwanted rfl rfl (decide_eq_false h1) rfl ?_
 refine wl_unwanted rfl rfl (decide_eq_false h1) rfl ?_
 refine wl_unwanted rfl rfl (decide_eq_false h1) rfl ?_
 refine wl_unwanted rfl rfl (decide_eq_false h1) rfl ?_
 refine wl_unwanted rfl rfl (decide_eq_false h1) rfl ?_
 refine wl_unwanted rfl rfl (decide_eq_false h1) rfl ?_
 refine wl_unwanted rfl rfl (decide_eq_false h1) rfl ?_
 refine wl_unwanted rfl rfl (decide_eq_false h1) rfl ?_
 refine wl_pickF rfl (decide_eq_false h1) rfl rfl ?_
 refine wl_assign rfl rfl (wl_nil (qs_seq ?_))
 refine wc_sub (L' := [(4, _)]) (.cons rfl .nil) ?_
 refine wc_ret ?_
 refine fin1 (.inr rfl) rfl rfl ?_
 exact ⟨_, rfl, by rw [← starts_eq, decide_eq_false (by omega)]; rfl, hS⟩
def withL (Z : List (Bs × Bs)) (q : Bs) (i : Nat) : List Bs := ((Z.map (·.1)).take i).filter fun k => Lib.hasPrefix k q
theorem filt_step {Z : List (Bs × Bs)} {q k : Bs} {i : Nat} (h : (Z.map (·.1))[i]? = some k) : withL Z q (i + 1) = withL Z q i ++ if Lib.hasPrefix k q = true then [k] else [] := by
  unfold withL
  rw [List.take_add_one, h, List.filter_append]
  congr 1
  simp only [Option.toList_some, List.filter_cons, List.filter_nil]
theorem withL_len (Z : List (Bs × Bs)) (q : Bs) (i : Nat) : (withL Z q i).length ≤ Z.length := by
  unfold withL
  refine Nat.le_trans (List.length_filter_le _ _) ?_
  simp; omega
def withZ (Z : List (Bs × Bs)) (q : Bs) : List Bs := (Z.map (·.1)).filter fun k => Lib.hasPrefix k q
theorem withL_end {Z : List (Bs × Bs)} {q : Bs} {i : Nat} (h : Z.length ≤ i) : withL Z q i = withZ Z q := by
  unfold withL withZ; rw [List.take_of_length_le (by simpa using h)]
theorem withZ_keys {Z : List (Bs × Bs)} {c : Bs → Bs} {q : Bs} {l : List Bs} (hC : CellsR Z c) (hK : KeysOf c q l) : l = withZ Z q := by
  obtain ⟨l0, rfl, hn, hm⟩ := hK
  refine sorted_eq hn (hC.sorted.sublist (List.filter_sublist)) fun k => ?_
  rw [hm k, withZ, List.mem_filter]
  refine and_congr_left fun _ => ⟨fun h => Decidable.byContradiction fun hn => h (hC.none k hn), fun h => ?_⟩
  obtain ⟨x, hx, rfl⟩ := List.mem_map.1 h
  have := hC.val x hx
  rw [this.2]; exact this.1
set_option maxRecDepth 100000 in
theorem fWith_sp {w : World} {p : Nat} {Z : List (Bs × Bs)} {R : List Value} {F : Th} (hS : Sat w [rfT p Z R, F]) (hZ : Z.length ≤ 1000000) (q : Bs) :
    Calls Tryz.prog 72 #[ptrV p 0, strV q] w (Ret fun v w' => Sat w' [rowT stC v (withZ Z q), rfT p Z R, F]) := by
 obtain ⟨kv, vv, hS⟩ := rfT_open hS
 refine calls_enter Tryz.func72 rfl Tryz.ntmps72 rfl ?_
 refine wc_seq (wc_region (wl_assign rfl rfl (wl_nil (qs_seq (wc_seq (wc_region (wl_assign rfl rfl (wl_nil (qs_seq (wc_seq (wc_seq (wc_region (wl_assign rfl rfl (wl_nil (qs_seq (wc_block ?_))))))))))))))))
 refine wc_loop (fun K0 E0 W0 => ∃ (i : Nat) (av : Value), K0 = Z.length - i ∧ E0 = [(0, ptrV p 0), (1, strV q), (5, av), (6, intV (i : Int))] ∧ Sat W0 [blkT p (kv :: vv :: R), rowT stC kv (Z.map (·.1)), rowT stC vv (Z.map (·.2)), rowT stC av (withL Z q i), F] ∧ (i ≤ Z.length)) (L0 := [(0, _), (1, _), (5, _), (6, _)]) (Z.length - 0) (.cons rfl (.cons rfl (.cons rfl (.cons rfl .nil)))) ⟨0, _, rfl, rfl, (hS.row_nil stC).reorder [1, 2, 3, 0, 4] rfl, by omega⟩ ?_
 rintro _ _ w1 ⟨i, av, rfl, rfl, hS1, hi⟩
 have h1av : av.oneCell' = true := hS1.own_one 3 rfl
 have hwl := withL_len Z q i
 have hml : (Z.map (·.1)).length = Z.length := by simp
 refine wc_seq (wc_seq (wc_region (wl_move rfl rfl (wl_move rfl rfl (wl_nilCheck rfl rfl ?_)))))
 refine wl_fieldAddr rfl fo_50_0 rfl ?_
 refine wl_load rfl ag_40 (by first | assumption | exact hS1.cell 0 rfl rfl) rfl ?_
 first | refine wl_lenL Tryz.underlying40 rfl rfl ?_ | refine wl_lenO 1 hS1 Tryz.underlying40 rfl rfl rfl ?_ | refine wl_lenO 2 hS1 Tryz.underlying40 rfl rfl rfl ?_ | refine wl_lenO 3 hS1 Tryz.underlying40 rfl rfl rfl ?_
 refine wl_lss rfl rfl rfl ?_
 refine wl_nil (qs_seq ?_)
 refine wc_sub (L' := [(13, _), (0, _), (1, _), (5, _), (6, _)]) (.cons rfl (.cons rfl (.cons rfl (.cons rfl (.cons rfl .nil))))) ?_
 refine wc_condD rfl (fun h2 => ?_) (fun h2 => ?_)
 ·obtain ⟨x, hki⟩ : ∃ x, (Z.map (·.1))[i]? = some x := ⟨_, List.getElem?_eq_getElem (by omega)⟩
  refine wc_skip (qs_seq (wc_seq (wc_block (wc_seq (wc_region (wl_move rfl rfl (wl_nilCheck rfl rfl ?_)))))))
  refine wl_fieldAddr rfl fo_50_0 rfl ?_
  refine wl_load rfl ag_40 (by first | assumption | exact hS1.cell 0 rfl rfl) rfl ?_
  refine wl_move rfl rfl ?_
  refine wl_rowIdx stC 1 i hS1 rfl rfl rfl (by first | rfl | omega) hki es_40 rfl ?_
  intro bx3 capx3 hvx3
  refine wl_rowLoad 1 i 0 hS1 rfl hvx3 rfl rfl hki ag_9 rfl rfl ?_
  refine wl_move rfl rfl ?_
  have hC4 := hS1.split [] [false, false, false, false, false] rfl; dsimp only [selF, pickA, nthA, List.cons_append, List.nil_append] at hC4
  refine wl_call cal_101 rfl (starts_sp hC4 x q) rfl ?_
  rintro e w4 ⟨_, rfl, rfl, hS4⟩; refine ⟨_, rfl, ?_⟩
  replace hS4 := hS4.join rfl; dsimp only [List.dropLast, List.cons_append, List.nil_append] at hS4; clear hC4
  clear hS1
  refine wl_nil (qs_seq ?_)
  refine wc_sub (L' := [(24, _), (0, _), (1, _), (5, _), (6, _)]) (.cons rfl (.cons rfl (.cons rfl (.cons rfl (.cons rfl .nil))))) ?_
  refine wc_cond rfl (fun h5 => ?_) (fun h5 => ?_)
  ·have hpre : Lib.hasPrefix x q = true := h5
   refine wc_region (wl_move rfl rfl (wl_move rfl rfl (wl_nilCheck rfl rfl ?_)))
   refine wl_fieldAddr rfl fo_50_0 rfl ?_
   refine wl_load rfl ag_40 (by first | assumption | exact hS4.cell 0 rfl rfl) rfl ?_
   refine wl_move rfl rfl ?_
   refine wl_rowIdx stC 1 i hS4 rfl rfl rfl (by first | rfl | omega) hki es_40 rfl ?_
   intro bx6 capx6 hvx6
   refine wl_rowLoad 1 i 0 hS4 rfl hvx6 rfl rfl hki ag_9 rfl rfl ?_
   refine wl_rowBuild stC [x] hS4 rfl Tryz.underlying40 ifz_9 rfl rfl rfl rfl (by first | rfl | simp [RowC.cells, fillL, splice]) rfl ?_
   intro b7 w7 hS7
   clear hS4
   refine wl_rowApp stC 4 hS7 rfl rfl rfl (hS7.rd 0 rfl (by simp)) Tryz.underlying40 Tryz.underlying40 (by intro k hk; cases hk) ifo_9 rfl (by simp; omega) rfl (by simp; omega) ?_
   intro v8 w8 hS8; dsimp only [List.set] at hS8
   clear hS7
   have h1v8 : v8.oneCell' = true := hS8.own_one 4 rfl
   refine wl_assign rfl rfl (wl_nil (qs_block_normal (qs_seq ?_)))
   refine wc_sub (L' := [(5, _), (0, _), (1, _), (6, _)]) (.cons rfl (.cons rfl (.cons rfl (.cons rfl .nil)))) ?_
   refine wc_region (wl_move rfl rfl ?_)
   refine wl_add rfl rfl (by omega) (by omega) rfl ?_
   refine wl_assign rfl rfl (wl_nil ?_)
   have hSz := hS8.pick [1, 2, 3, 4, 5] rfl; dsimp only [pickA, nthA] at hSz
   exact qs_round (L1 := [(0, _), (1, _), (5, _), (6, intV ((i + 1 : Nat) : Int))]) (.cons rfl (.cons rfl (.cons rfl (.cons rfl .nil)))) (k1 := Z.length - (i + 1)) (by omega) ⟨i + 1, _, rfl, rfl, by rw [filt_step hki, if_pos hpre]; exact hSz, by omega⟩
  have hpre : Lib.hasPrefix x q = false := h5
  refine wc_skip (qs_block_normal (qs_seq (wc_region (wl_move rfl rfl ?_))))
  refine wl_add rfl rfl (by omega) (by omega) rfl ?_
  refine wl_assign rfl rfl (wl_nil ?_)
  have hSz := hS4.pick [0, 1, 2, 3, 4] rfl; dsimp only [pickA, nthA] at hSz
  exact qs_round (L1 := [(0, _), (1, _), (5, _), (6, intV ((i + 1 : Nat) : Int))]) (.cons rfl (.cons rfl (.cons rfl (.cons rfl .nil)))) (k1 := Z.length - (i + 1)) (by omega) ⟨i + 1, _, rfl, rfl, by rw [filt_step hki, if_neg (by rw [hpre]; simp), List.append_nil]; exact hSz, by omega⟩
 refine wc_exit (qs_then_exit (qs_then_exit (qs_block_exit (qs_seq (wc_seq (wc_region (wl_move rfl rfl (wl_assign rfl rfl (wl_nil (qs_seq (wc_ret ?_)))))))))))
 refine fin1 (.inr rfl) rfl rfl ?_
 exact ⟨_, rfl, by rw [← withL_end (q := q) (show Z.length ≤ i by omega)]; exact (rfT_shut (hS1.pick [0, 1, 2, 3, 4] rfl)).reorder [1, 0, 2] rfl⟩
end Go.Proofs.YtkaikhcpcbjkcaaGreatDoor
/- reference 01: texts -/
namespace Go.Proofs.YtkaikhcpcbjkcaaGreatDoor
open Go.RowKit M
set_option linter.unusedVariables false
theorem r1Done_sp {w : World} {F : Th} {b : Nat} {s : Bs × Bool} (hS : Sat w [readT b s, F]) :
    Calls Tryz.prog 80 #[ptrV b 0] w (Ret fun v w' => v = .bool (!s.2 && decide (s.1 = [])) ∧ Sat w' [readT b s, F]) := by
 obtain ⟨r, q⟩ := s
 change Sat w [blkT b [strV r, .bool q], F] at hS
 refine calls_enter Tryz.func80 rfl Tryz.ntmps80 rfl ?_
 refine wc_seq (wc_region (wl_assign rfl rfl (wl_nil (qs_seq (wc_seq (wc_region (wl_move rfl rfl (wl_nilCheck rfl rfl ?_))))))))
 refine wl_fieldAddr rfl fo_135_1 rfl ?_
 refine wl_load rfl ag_4 (by first | assumption | exact hS.cell 0 rfl rfl) rfl ?_
 refine wl_not rfl rfl ?_
 refine wl_move rfl rfl ?_
 refine wl_split 8 rfl (fun h1 => ?_) (fun h1 => ?_)
 ·refine wl_guard rfl rfl h1 ?_
  refine wl_move rfl rfl ?_
  refine wl_guard rfl rfl h1 ?_
  refine wl_nilCheck rfl rfl ?_
  refine wl_guard rfl rfl h1 ?_
  refine wl_fieldAddr rfl fo_135_0 rfl ?_
  refine wl_guard rfl rfl h1 ?_
  refine wl_load rfl ag_9 (by first | assumption | exact hS.cell 0 rfl rfl) rfl ?_
  refine wl_guard rfl rfl h1 ?_
  refine wl_eqlS rfl rfl rfl ?_
  refine wl_pickT rfl h1 rfl rfl ?_
  refine wl_assign rfl rfl (wl_nil (qs_seq ?_))
  refine wc_sub (L' := [(2, _)]) (.cons rfl .nil) ?_
  refine wc_ret ?_
  refine fin1 (.inr rfl) rfl rfl ?_
  exact ⟨_, rfl, by first | rfl | (simp_all; done), hS⟩
 refine wl_unwanted rfl rfl h1 rfl ?_
 refine wl_unwanted rfl rfl h1 rfl ?_
 refine wl_unwanted rfl rfl h1 rfl ?_
 refine wl_unwanted rfl rfl h1 rfl ?_
 refine wl_unwanted rfl rfl h1 rfl ?_
 refine wl_pickF rfl h1 rfl rfl ?_
 refine wl_assign rfl rfl (wl_nil (qs_seq ?_))
 refine wc_sub (L' := [(2, _)]) (.cons rfl .nil) ?_
 refine wc_ret ?_
 refine fin1 (.inr rfl) rfl rfl ?_
 exact ⟨_, rfl, by first | rfl | (simp_all; done), hS⟩
end Go.Proofs.YtkaikhcpcbjkcaaGreatDoor
