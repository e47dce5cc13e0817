/- tty: Ready, Read, Control, Due, NextAt -/
import Derived.Test.YtdkfppcafpjomaaGreatDoorTz
namespace Go.Proofs.YtdkfppcafpjomaaGreatDoor
open Go.RowKit M
set_option linter.unusedVariables false
/-- every cell is short -/
def TB (W : WS) : Prop := ∀ k, (W.cells k).length ≤ 1000000
theorem TB.empty : TB emptyW := fun k => by simp [emptyW]
theorem TB.put {W : WS} (h : TB W) {k v : Bs} (hv : v.length ≤ 1000000) : TB (putS W k v) := fun j => by
  simp only [putS, updC]; split
  · exact hv
  · exact h j
theorem fillC_len {l : List ItemD} (h : rightB l = true) : (fillC l).length ≤ 1000000 := by
  have key : ∀ l : List ItemD, (∀ x ∈ l, OkIt x ∧ x.t.length ≤ 200) → (l.flatMap encX).length ≤ 400 * l.length := by
    intro l
    induction l with
    | nil => simp
    | cons x l ih =>
      intro h
      obtain ⟨h0, h9⟩ := h x List.mem_cons_self
      have h1 := encN_len h0.1
      have h2 := encN_len h0.2.1
      have h3 := (itoa_len (n := (x.t.length : Int)) (by unfold inI; omega)).1
      have h4 := ih fun y hy => h y (List.mem_cons_of_mem _ hy)
      have h5 : (encX x).length ≤ 400 := by
        unfold encX encT
        simp only [List.length_append, List.length_cons, List.length_nil]; omega
      simp only [List.flatMap_cons, List.length_append, List.length_cons]; omega
  have h1 := key l fun x hx => ⟨right_ok h x hx, (right_mem h x hx).2.2.2.2.2.1⟩
  have h2 := right_len h
  have h3 := encN_len (n := (l.length : Int)) (by unfold inI; omega)
  unfold fillC; split
  · simp
  · unfold encL; rw [List.length_append]; omega
theorem TB.fill {W : WS} (h : TB W) (l : List ItemD) : TB (fillW W l) := by
  unfold fillW; split
  · rename_i hr
    exact (((h.put (fillC_len hr)).put (by simp)).put (by simp)).put (by simp)
  · exact h
theorem item_ok (W : WS) {i : Nat} {x : ItemD} (hx : (itemsW W)[i]? = some x) : 0 ≤ x.a ∧ x.a ≤ 1099511627776 ∧ 0 ≤ x.k ∧ x.k < 4 ∧ (x.k = 0 ∨ x.t = []) ∧ x.t.length ≤ 200 ∧ (10 : UInt8) ∉ x.t := right_mem (items_right _) x (List.mem_of_getElem? hx)
theorem next_ok {W : WS} {key : Bs} {ctl : Bool} {i : Nat} (h : nextW W key ctl = some i) : i < 100 ∧ (itemsW W)[i]? = some (ix (itemsW W) i) := by
  have h1 := nextF_lt h
  have h2 := items_len W
  refine ⟨by omega, ?_⟩
  unfold ix; rw [List.getElem?_eq_getElem h1]; rfl
theorem encN1_len {i : Nat} (h : i < 100) : (encN ((i : Int) + 1)).length ≤ 30 := encN_len (by unfold inI; omega)
theorem TB.read {W : WS} (h : TB W) (now n : Int) : TB (readTW W now n) := by
  unfold readTW
  split
  · exact h
  split
  · exact h.put (by have := h kPart; simp only [List.length_drop]; omega)
  split
  · exact h
  · rename_i i hi
    obtain ⟨h1, h2⟩ := next_ok hi
    have h3 := encN1_len h1
    have h4 := item_ok W h2
    split
    · exact h
    split
    · exact h.put (by omega)
    · exact (h.put (by omega)).put (by simp only [List.length_drop, List.length_append, List.length_cons, List.length_nil]; omega)
theorem due_next {W : WS} {now : Int} {i : Nat} (h : dueI W now = some i) : nextW W kCtl true = some i ∧ ¬ now < (ix (itemsW W) i).a := by
  unfold dueI dueX at h
  unfold nextW
  split at h
  · rename_i j hj
    split at h
    · cases h
    · rename_i hc; cases h; exact ⟨hj, hc⟩
  · cases h
theorem TB.due {W : WS} (h : TB W) (now : Int) : TB (dueW W now) := by
  unfold dueW; split
  · rename_i i hi
    have := encN1_len (next_ok (due_next hi).1).1
    exact h.put (by omega)
  · exact h
theorem TB.fg {W : WS} (h : TB W) {g : Int} (hg : inI g) : TB (setFgW W g) := by
  have := encN_len hg
  unfold setFgW; exact h.put (by split; exact Nat.zero_le _; omega)
theorem optNo {α : Type} {q : Option α} (h : q.isSome = false) : q = none := by cases q <;> simp_all
theorem optYes {α : Type} {q : Option α} (h : q.isSome = true) : ∃ x, q = some x := by cases q <;> simp_all
set_option maxRecDepth 100000 in
theorem ready_sp {w : World} {p : Nat} {W : WS} {F : Th} (hS : Sat w [worldT p W, F]) (hG : Ent F WireG) (hB : TB W) (now : Int) :
    Calls Tryz.prog 26 #[.iface 24 (ptrV p 0), intV now] w (Ret fun v w' => v = .bool (readyW W now) ∧ Sat w' [worldT p W, F]) := by
  refine calls_enter Tryz.func26 rfl Tryz.ntmps26 rfl ?_
  refine wc_seq ?_
  refine wc_region ?_
  refine wl_assign rfl rfl ?_
  refine wl_nil ?_
  refine qs_seq ?_
  refine wc_seq ?_
  refine wc_seq ?_
  refine wc_region ?_
  refine wl_move rfl rfl ?_
  have hC1 := hS.split [0] [true, false] rfl; dsimp only [selF, pickA, nthA, List.cons_append, List.nil_append] at hC1
  refine wl_invoke (vs := [strV kPart]) rfl (imeth_Get p) cal_14 rfl (get_sp hC1 kPart) rfl ?_
  rintro e w1 ⟨_, rfl, rfl, hS1⟩; refine ⟨_, rfl, ?_⟩
  replace hS1 := hS1.join rfl; dsimp only [List.dropLast, List.cons_append, List.nil_append] at hS1; clear hC1
  refine wl_neqS rfl rfl rfl ?_
  refine wl_nil ?_
  refine qs_seq ?_
  refine wc_condD rfl (fun h2 => ?_) (fun h2 => ?_)
  · skip
    refine wc_seq ?_
    refine wc_region ?_
    refine wl_assign rfl rfl ?_
    refine wl_nil ?_
    refine qs_seq ?_
    refine wc_ret ?_
    refine qs_then_ret ?_
    refine fin1 (.inr rfl) rfl rfl ?_
    exact ⟨_, rfl, by unfold readyW readyX; rw [if_pos (by assumption)], hS1.pick [0, 1] rfl⟩
  · skip
    refine wc_skip ?_
    refine qs_seq ?_
    refine wc_seq ?_
    refine wc_region ?_
    refine wl_move rfl rfl ?_
    have hC3 := hS1.split [0] [true, false] rfl; dsimp only [selF, pickA, nthA, List.cons_append, List.nil_append] at hC3
    refine wl_call cal_59 rfl (next_sp hC3 (hG.starL 0 rfl) (hB _) kPos (hB _) false) rfl ?_
    rintro e w3 ⟨_, rfl, rfl, hS3⟩; refine ⟨_, rfl, ?_⟩
    replace hS3 := hS3.join rfl; dsimp only [List.dropLast, List.cons_append, List.nil_append] at hS3; clear hC3
    clear hS1
    refine wl_move rfl rfl ?_
    refine wl_extract rfl rfl rfl ?_
    refine wl_extract rfl rfl rfl ?_
    refine wl_extract rfl rfl rfl ?_
    refine wl_alloc hS3 zr_49 rfl rfl ?_
    intro b4 w4 hS4
    clear hS3
    first | (refine wl_storeA hS4 rfl rfl sz_49 rfl (by first | rfl | (simp [allOne, Value.oneCell']; done) | assumption | exact hone) (i := 0) rfl (by first | decide | exact Nat.le_of_ble_eq_true rfl | (simp; done) | omega) ?_)
    intro w5 hS6; dsimp only [List.set] at hS6
    clear hS4
    refine wl_assign rfl rfl ?_
    refine wl_assign rfl rfl ?_
    refine wl_nil ?_
    refine qs_seq ?_
    refine wc_sub (L' := [(7, _), (5, _), (4, _), (1, _)]) (.cons rfl (.cons rfl (.cons rfl (.cons rfl .nil)))) ?_
    refine wc_seq ?_
    refine wc_region ?_
    refine wl_move rfl rfl ?_
    refine wl_move rfl rfl ?_
    refine wl_split 18 rfl (fun h7 => ?_) (fun h7 => ?_)
    · skip
      obtain ⟨i, hi⟩ := optYes (q := nextW W kPos false) (by simpa using h7)
      rw [hi] at hS6 h7 ⊢
      dsimp only [nxI, nxN] at hS6 ⊢
      obtain ⟨hi1, hi2⟩ := next_ok hi
      have hik := item_ok W hi2
      have hi3 : nextF (itemsW W) (posW W kPos) false = some i := hi
      refine wl_guard rfl rfl h7 ?_
      refine wl_fieldAddr rfl fo_49_0 rfl ?_
      refine wl_guard rfl rfl h7 ?_
      refine wl_load rfl ag_3 (by first | assumption | exact hS6.cell 0 rfl rfl) rfl ?_
      refine wl_guard rfl rfl h7 ?_
      refine wl_move rfl rfl ?_
      refine wl_guard rfl rfl h7 ?_
      refine wl_leq rfl rfl rfl ?_
      refine wl_pickT rfl h7 rfl rfl ?_
      refine wl_assign rfl rfl ?_
      refine wl_nil ?_
      refine qs_seq ?_
      refine wc_sub (L' := [(4, _)]) (.cons rfl .nil) ?_
      refine wc_ret ?_
      refine fin1 (.inr rfl) rfl rfl ?_
      exact ⟨_, rfl, by unfold readyW readyX; rw [if_neg (by assumption), hi3]; first | done | rfl, hS6.pick [1, 2] rfl⟩
    · skip
      have hi := optNo (q := nextW W kPos false) (by simpa using h7)
      have hi3 : nextF (itemsW W) (posW W kPos) false = none := hi
      refine wl_unwanted rfl rfl h7 rfl ?_
      refine wl_unwanted rfl rfl h7 rfl ?_
      refine wl_unwanted rfl rfl h7 rfl ?_
      refine wl_unwanted rfl rfl h7 rfl ?_
      refine wl_pickF rfl h7 rfl rfl ?_
      refine wl_assign rfl rfl ?_
      refine wl_nil ?_
      refine qs_seq ?_
      refine wc_sub (L' := [(4, _)]) (.cons rfl .nil) ?_
      refine wc_ret ?_
      refine fin1 (.inr rfl) rfl rfl ?_
      exact ⟨_, rfl, by unfold readyW readyX; rw [if_neg (by assumption), hi3]; first | done | rfl, hS6.pick [1, 2] rfl⟩

set_option maxRecDepth 100000 in
set_option maxHeartbeats 1000000 in
theorem readT_sp {w : World} {p : Nat} {W : WS} {F : Th} (hS : Sat w [worldT p W, F]) (hG : Ent F WireG) (hB : TB W) (now n : Int) :
    Calls Tryz.prog 22 #[.iface 24 (ptrV p 0), intV now, intV n] w (Ret fun v w' => v = .tuple #[strV (readTV W now n).1, intV (readTV W now n).2] ∧ Sat w' [worldT p (readTW W now n), F]) := by
  refine calls_enter Tryz.func22 rfl Tryz.ntmps22 rfl ?_
  refine wc_seq ?_
  refine wc_region ?_
  refine wl_assign rfl rfl ?_
  refine wl_assign rfl rfl ?_
  refine wl_nil ?_
  refine qs_seq ?_
  refine wc_seq ?_
  refine wc_seq ?_
  refine wc_region ?_
  refine wl_move rfl rfl ?_
  refine wl_lss rfl rfl rfl ?_
  refine wl_nil ?_
  refine qs_seq ?_
  refine wc_condD rfl (fun h1 => ?_) (fun h1 => ?_)
  · skip
    refine wc_seq ?_
    refine wc_region ?_
    refine wl_assign rfl rfl ?_
    refine wl_assign rfl rfl ?_
    refine wl_nil ?_
    refine qs_seq ?_
    refine wc_ret ?_
    refine qs_then_ret ?_
    refine fin2 (.inr rfl) rfl rfl rfl ?_
    exact ⟨_, rfl, by unfold readTV readX; rw [if_pos (by assumption)]; first | done | rfl, by unfold readTW; rw [if_pos (by assumption)]; exact hS.pick [0, 1] rfl⟩
  · skip
    refine wc_skip ?_
    refine qs_seq ?_
    refine wc_seq ?_
    refine wc_region ?_
    refine wl_move rfl rfl ?_
    have hC2 := hS.split [0] [true, false] rfl; dsimp only [selF, pickA, nthA, List.cons_append, List.nil_append] at hC2
    refine wl_invoke (vs := [strV kPart]) rfl (imeth_Get p) cal_14 rfl (get_sp hC2 kPart) rfl ?_
    rintro e w2 ⟨_, rfl, rfl, hS2⟩; refine ⟨_, rfl, ?_⟩
    replace hS2 := hS2.join rfl; dsimp only [List.dropLast, List.cons_append, List.nil_append] at hS2; clear hC2
    refine wl_assign rfl rfl ?_
    refine wl_nil ?_
    refine qs_seq ?_
    refine wc_seq ?_
    refine wc_seq ?_
    refine wc_region ?_
    refine wl_move rfl rfl ?_
    refine wl_eqlS rfl rfl rfl ?_
    refine wl_nil ?_
    refine qs_seq ?_
    refine wc_sub (L' := [(17, _), (8, _), (7, _), (6, _), (0, _), (1, _), (2, _)]) (.cons rfl (.cons rfl (.cons rfl (.cons rfl (.cons rfl (.cons rfl (.cons rfl .nil))))))) ?_
    refine wc_condD rfl (fun h3 => ?_) (fun h3 => ?_)
    · skip
      refine wc_seq ?_
      refine wc_region ?_
      refine wl_move rfl rfl ?_
      have hC4 := hS2.split [0] [true, false] rfl; dsimp only [selF, pickA, nthA, List.cons_append, List.nil_append] at hC4
      refine wl_call cal_59 rfl (next_sp hC4 (hG.starL 0 rfl) (hB _) kPos (hB _) false) rfl ?_
      rintro e w4 ⟨_, rfl, rfl, hS4⟩; refine ⟨_, rfl, ?_⟩
      replace hS4 := hS4.join rfl; dsimp only [List.dropLast, List.cons_append, List.nil_append] at hS4; clear hC4
      clear hS2
      refine wl_move rfl rfl ?_
      refine wl_extract rfl rfl rfl ?_
      refine wl_extract rfl rfl rfl ?_
      refine wl_extract rfl rfl rfl ?_
      refine wl_alloc hS4 zr_49 rfl rfl ?_
      intro b5 w5 hS5
      clear hS4
      first | (refine wl_storeA hS5 rfl rfl sz_49 rfl (by first | rfl | (simp [allOne, Value.oneCell']; done) | assumption | exact hone) (i := 0) rfl (by first | decide | exact Nat.le_of_ble_eq_true rfl | (simp; done) | omega) ?_)
      intro w6 hS7; dsimp only [List.set] at hS7
      clear hS5
      refine wl_assign rfl rfl ?_
      refine wl_assign rfl rfl ?_
      refine wl_nil ?_
      refine qs_seq ?_
      refine wc_sub (L' := [(11, _), (10, _), (9, _), (8, _), (7, _), (6, _), (0, _), (1, _), (2, _)]) (.cons rfl (.cons rfl (.cons rfl (.cons rfl (.cons rfl (.cons rfl (.cons rfl (.cons rfl (.cons rfl .nil))))))))) ?_
      refine wc_seq ?_
      refine wc_seq ?_
      refine wc_region ?_
      refine wl_move rfl rfl ?_
      refine wl_not rfl rfl ?_
      refine wl_move rfl rfl ?_
      refine wl_split 26 rfl (fun h8 => ?_) (fun h8 => ?_)
      · skip
        have hi := optNo (q := nextW W kPos false) (by simpa using h8)
        have hi3 : nextF (itemsW W) (posW W kPos) false = none := hi
        refine wl_unwanted rfl rfl h8 rfl ?_
        refine wl_unwanted rfl rfl h8 rfl ?_
        refine wl_unwanted rfl rfl h8 rfl ?_
        refine wl_unwanted rfl rfl h8 rfl ?_
        refine wl_pickT rfl h8 rfl rfl ?_
        refine wl_nil ?_
        refine qs_seq ?_
        refine wc_sub (L' := [(31, _), (10, _), (9, _), (8, _), (7, _), (6, _), (0, _), (2, _)]) (.cons rfl (.cons rfl (.cons rfl (.cons rfl (.cons rfl (.cons rfl (.cons rfl (.cons rfl .nil)))))))) ?_
        refine wc_condT rfl ?_
        refine wc_seq ?_
        refine wc_region ?_
        refine wl_assign rfl rfl ?_
        refine wl_assign rfl rfl ?_
        refine wl_nil ?_
        refine qs_seq ?_
        refine wc_ret ?_
        refine qs_then_ret ?_
        refine qs_then_ret ?_
        refine fin2 (.inr rfl) rfl rfl rfl ?_
        exact ⟨_, rfl, by unfold readTV readX; rw [if_neg (by assumption), if_neg (fun q => q (by assumption)), hi3]; first | done | rfl, by unfold readTW; rw [if_neg (by assumption), if_neg (fun q => q (by assumption)), hi]; exact hS7.pick [1, 2] rfl⟩
      · skip
        obtain ⟨i, hi⟩ := optYes (q := nextW W kPos false) (by simpa using h8)
        rw [hi] at hS7 h8 ⊢
        dsimp only [nxI, nxN] at hS7 ⊢
        obtain ⟨hi1, hi2⟩ := next_ok hi
        have hik := item_ok W hi2
        have hi3 : nextF (itemsW W) (posW W kPos) false = some i := hi
        refine wl_guard rfl rfl h8 ?_
        refine wl_fieldAddr rfl fo_49_0 rfl ?_
        refine wl_guard rfl rfl h8 ?_
        refine wl_load rfl ag_3 (by first | assumption | exact hS7.cell 0 rfl rfl) rfl ?_
        refine wl_guard rfl rfl h8 ?_
        refine wl_move rfl rfl ?_
        refine wl_guard rfl rfl h8 ?_
        refine wl_gtr rfl rfl rfl ?_
        refine wl_pickF rfl h8 rfl rfl ?_
        refine wl_nil ?_
        refine qs_seq ?_
        refine wc_sub (L' := [(31, _), (10, _), (9, _), (8, _), (7, _), (6, _), (0, _), (2, _)]) (.cons rfl (.cons rfl (.cons rfl (.cons rfl (.cons rfl (.cons rfl (.cons rfl (.cons rfl .nil)))))))) ?_
        refine wc_condD rfl (fun h9 => ?_) (fun h9 => ?_)
        · skip
          refine wc_seq ?_
          refine wc_region ?_
          refine wl_assign rfl rfl ?_
          refine wl_assign rfl rfl ?_
          refine wl_nil ?_
          refine qs_seq ?_
          refine wc_ret ?_
          refine qs_then_ret ?_
          refine qs_then_ret ?_
          refine fin2 (.inr rfl) rfl rfl rfl ?_
          exact ⟨_, rfl, by unfold readTV readX; rw [if_neg (by assumption), if_neg (fun q => q (by assumption)), hi3]; dsimp only; rw [if_pos (by assumption)]; first | done | rfl, by unfold readTW; rw [if_neg (by assumption), if_neg (fun q => q (by assumption)), hi]; dsimp only; rw [if_pos (by assumption)]; exact hS7.pick [1, 2] rfl⟩
        · skip
          refine wc_skip ?_
          refine qs_seq ?_
          refine wc_seq ?_
          have hS10 := hS7.drew
          refine wc_draw [0, 1, 2, 4, 5, 6, 3, 7] [3, 7] mix (by kernel_rfl) ?_
          refine vc_p rfl rfl rfl (fun _ => (ev_move rfl)) ?_
          refine vc_p rfl rfl rfl (fun _ => (ev_move rfl)) ?_
          refine vc_p rfl rfl rfl (fun _ => (ev_add rfl rfl (by first | omega | (simp; omega)) (by first | omega | (simp; omega)))) ?_
          refine vc_p rfl rfl rfl (fun _ => (ev_makeMeth rfl)) ?_
          refine vc_p rfl rfl rfl (fun _ => (ev_nilCheckMeth rfl (mnil_Put p))) ?_
          refine vc_p rfl rfl rfl (fun _ => (ev_move rfl)) ?_
          refine vc_s rfl rfl rfl rfl rfl rfl ?_
          have hC11 := hS10.split [] [false, false, false] rfl; dsimp only [selF, pickA, nthA, List.cons_append, List.nil_append] at hC11
          refine wl_call cal_60 rfl (wInt_sp hC11 (hG.starL 2 rfl) ((i : Int) + 1) (by unfold inI; omega)) rfl ?_
          rintro e w11 ⟨_, rfl, rfl, hS11⟩; refine ⟨_, rfl, ?_⟩
          replace hS11 := hS11.join rfl; dsimp only [List.dropLast, List.cons_append, List.nil_append] at hS11; clear hC11
          clear hS10
          refine vc_e .nil ?_
          refine vc_s rfl rfl rfl rfl rfl rfl ?_
          have hC12 := hS11.split [1] [false, true, false] rfl; dsimp only [selF, pickA, nthA, List.cons_append, List.nil_append] at hC12
          refine wl_invoke (vs := [strV kPos, strV (encN ((i : Int) + 1))]) rfl (imeth_Put p) cal_30 rfl (put_sp hC12 kPos (encN ((i : Int) + 1)) (by decide) (by have := encN1_len hi1; omega)) rfl ?_
          rintro e w12 ⟨_, rfl, rfl, hS12⟩; refine ⟨_, rfl, ?_⟩
          replace hS12 := hS12.join rfl; dsimp only [List.dropLast, List.cons_append, List.nil_append] at hS12; clear hC12
          clear hS11
          refine vc_e .nil ?_
          refine VC.nil ?_
          refine qs_seq ?_
          refine wc_sub (L' := [(9, _), (8, _), (7, _), (6, _), (0, _), (2, _)]) (.cons rfl (.cons rfl (.cons rfl (.cons rfl (.cons rfl (.cons rfl .nil)))))) ?_
          refine wc_seq ?_
          refine wc_seq ?_
          refine wc_region ?_
          refine wl_fieldAddr rfl fo_49_1 rfl ?_
          refine wl_load rfl ag_3 (by first | assumption | exact hS12.cell 1 rfl rfl) rfl ?_
          refine wl_eql rfl rfl rfl ?_
          refine wl_nil ?_
          refine qs_seq ?_
          refine wc_condD rfl (fun h13 => ?_) (fun h13 => ?_)
          · skip
            refine wc_seq ?_
            refine wc_region ?_
            refine wl_assign rfl rfl ?_
            refine wl_assign rfl rfl ?_
            refine wl_nil ?_
            refine qs_seq ?_
            refine wc_ret ?_
            refine qs_then_ret ?_
            refine qs_then_ret ?_
            refine fin2 (.inr rfl) rfl rfl rfl ?_
            exact ⟨_, rfl, by unfold readTV readX; rw [if_neg (by assumption), if_neg (fun q => q (by assumption)), hi3]; dsimp only; rw [if_neg (by assumption), if_pos (by assumption)]; first | done | rfl, by unfold readTW; rw [if_neg (by assumption), if_neg (fun q => q (by assumption)), hi]; dsimp only; rw [if_neg (by assumption), if_pos (by assumption)]; exact hS12.pick [0, 2] rfl⟩
          · skip
            refine wc_skip ?_
            refine qs_seq ?_
            refine wc_region ?_
            refine wl_fieldAddr rfl fo_49_2 rfl ?_
            refine wl_load rfl ag_9 (by first | assumption | exact hS12.cell 1 rfl rfl) rfl ?_
            refine wl_concat rfl rfl (by first | omega | (simp; omega)) rfl ?_
            refine wl_assign rfl rfl ?_
            refine wl_nil ?_
            refine qs_seq ?_
            refine wc_sub (L' := [(8, _), (7, _), (6, _), (0, _), (2, _)]) (.cons rfl (.cons rfl (.cons rfl (.cons rfl (.cons rfl .nil))))) ?_
            refine wc_seq ?_
            have hpl := hB kPart
            obtain ⟨xt, hxt⟩ : ∃ xt, xt = (ix (itemsW W) i).t ++ [10] := ⟨_, rfl⟩
            rw [← hxt]
            have hxl : xt.length = (ix (itemsW W) i).t.length + 1 := by rw [hxt]; simp
            refine wc_region ?_
            refine wl_move rfl rfl ?_
            refine wl_move rfl rfl ?_
            refine wl_lenS Tryz.underlying9 rfl rfl ?_
            refine wl_minI rfl rfl rfl ?_
            refine wl_assign rfl rfl ?_
            refine wl_nil ?_
            refine qs_seq ?_
            refine wc_seq ?_
            have hS14 := hS12.drew
            refine wc_draw [0, 1, 2, 3, 4, 5, 6, 7] [7] mix (by kernel_rfl) ?_
            refine vc_p rfl rfl rfl (fun _ => (ev_move rfl)) ?_
            refine vc_p rfl rfl rfl (fun _ => (ev_move rfl)) ?_
            refine vc_p rfl rfl rfl (fun _ => (ev_move rfl)) ?_
            refine vc_p rfl rfl rfl (fun _ => (ev_sliceS (min n xt.length).toNat xt.length Tryz.underlying9 rfl (bndS (min n xt.length).toNat _ rfl (by first | rfl | (simp; omega))) (bndN _) (by first | omega | (simp; omega)) (by first | omega | (simp; omega)))) ?_
            rw [List.take_length]
            refine vc_p rfl rfl rfl (fun _ => (ev_makeMeth rfl)) ?_
            refine vc_p rfl rfl rfl (fun _ => (ev_nilCheckMeth rfl (mnil_Put p))) ?_
            refine vc_p rfl rfl rfl (fun _ => (ev_move rfl)) ?_
            refine vc_s rfl rfl rfl rfl rfl rfl ?_
            have hC15 := hS14.split [0] [true, false, false] rfl; dsimp only [selF, pickA, nthA, List.cons_append, List.nil_append] at hC15
            refine wl_invoke (vs := [strV kPart, strV (xt.drop (min n xt.length).toNat)]) rfl (imeth_Put p) cal_30 rfl (put_sp hC15 kPart (xt.drop (min n xt.length).toNat) (by decide) (by have := hB kPart; simp only [List.length_drop, List.length_append, List.length_cons, List.length_nil]; omega)) rfl ?_
            rintro e w15 ⟨_, rfl, rfl, hS15⟩; refine ⟨_, rfl, ?_⟩
            replace hS15 := hS15.join rfl; dsimp only [List.dropLast, List.cons_append, List.nil_append] at hS15; clear hC15
            clear hS14
            refine vc_e .nil ?_
            refine VC.nil ?_
            refine qs_seq ?_
            refine wc_sub (L' := [(2, _), (8, _), (7, _), (6, _)]) (.cons rfl (.cons rfl (.cons rfl (.cons rfl .nil)))) ?_
            refine wc_seq ?_
            refine wc_region ?_
            refine wl_move rfl rfl ?_
            refine wl_move rfl rfl ?_
            refine wl_sliceS 0 (min n xt.length).toNat Tryz.underlying9 rfl (bndN _) (bndS (min n xt.length).toNat _ rfl (by first | rfl | (simp; omega))) (by first | omega | (simp; omega)) (by first | omega | (simp; omega)) rfl ?_
            rw [List.drop_zero]
            refine wl_assign rfl rfl ?_
            refine wl_assign rfl rfl ?_
            refine wl_nil ?_
            refine qs_seq ?_
            refine wc_ret ?_
            refine fin2 (.inr rfl) rfl rfl rfl ?_
            exact ⟨_, rfl, by unfold readTV readX; rw [if_neg (by assumption), if_neg (fun q => q (by assumption)), hi3]; dsimp only; rw [if_neg (by assumption), if_neg (by assumption), ← hxt, show ((ix (itemsW W) i).t.length : Int) + 1 = (xt.length : Int) by omega]; first | done | rfl, by unfold readTW; rw [if_neg (by assumption), if_neg (fun q => q (by assumption)), hi]; dsimp only; rw [if_neg (by assumption), if_neg (by assumption), ← hxt, show ((ix (itemsW W) i).t.length : Int) + 1 = (xt.length : Int) by omega]; exact hS15.pick [0, 2] rfl⟩
    · skip
      refine wc_skip ?_
      refine qs_seq ?_
      refine wc_seq ?_
      have hpl := hB kPart
      refine wc_region ?_
      refine wl_move rfl rfl ?_
      refine wl_move rfl rfl ?_
      refine wl_lenS Tryz.underlying9 rfl rfl ?_
      refine wl_minI rfl rfl rfl ?_
      refine wl_assign rfl rfl ?_
      refine wl_nil ?_
      refine qs_seq ?_
      refine wc_sub (L' := [(2, _), (8, _), (7, _), (6, _), (0, _)]) (.cons rfl (.cons rfl (.cons rfl (.cons rfl (.cons rfl .nil))))) ?_
      refine wc_seq ?_
      have hS16 := hS2.drew
      refine wc_draw [0, 1, 2, 3, 4, 5, 6, 7] [7] mix (by kernel_rfl) ?_
      refine vc_p rfl rfl rfl (fun _ => (ev_move rfl)) ?_
      refine vc_p rfl rfl rfl (fun _ => (ev_move rfl)) ?_
      refine vc_p rfl rfl rfl (fun _ => (ev_move rfl)) ?_
      refine vc_p rfl rfl rfl (fun _ => (ev_sliceS (min n (W.cells kPart).length).toNat (W.cells kPart).length Tryz.underlying9 rfl (bndS (min n (W.cells kPart).length).toNat _ rfl (by first | rfl | (simp; omega))) (bndN _) (by first | omega | (simp; omega)) (by first | omega | (simp; omega)))) ?_
      rw [List.take_length]
      refine vc_p rfl rfl rfl (fun _ => (ev_makeMeth rfl)) ?_
      refine vc_p rfl rfl rfl (fun _ => (ev_nilCheckMeth rfl (mnil_Put p))) ?_
      refine vc_p rfl rfl rfl (fun _ => (ev_move rfl)) ?_
      refine vc_s rfl rfl rfl rfl rfl rfl ?_
      have hC17 := hS16.split [0] [true, false] rfl; dsimp only [selF, pickA, nthA, List.cons_append, List.nil_append] at hC17
      refine wl_invoke (vs := [strV kPart, strV ((W.cells kPart).drop (min n (W.cells kPart).length).toNat)]) rfl (imeth_Put p) cal_30 rfl (put_sp hC17 kPart ((W.cells kPart).drop (min n (W.cells kPart).length).toNat) (by decide) (by have := hB kPart; simp only [List.length_drop, List.length_append, List.length_cons, List.length_nil]; omega)) rfl ?_
      rintro e w17 ⟨_, rfl, rfl, hS17⟩; refine ⟨_, rfl, ?_⟩
      replace hS17 := hS17.join rfl; dsimp only [List.dropLast, List.cons_append, List.nil_append] at hS17; clear hC17
      clear hS16
      refine vc_e .nil ?_
      refine VC.nil ?_
      refine qs_seq ?_
      refine wc_sub (L' := [(2, _), (8, _), (7, _), (6, _)]) (.cons rfl (.cons rfl (.cons rfl (.cons rfl .nil)))) ?_
      refine wc_seq ?_
      refine wc_region ?_
      refine wl_move rfl rfl ?_
      refine wl_move rfl rfl ?_
      refine wl_sliceS 0 (min n (W.cells kPart).length).toNat Tryz.underlying9 rfl (bndN _) (bndS (min n (W.cells kPart).length).toNat _ rfl (by first | rfl | (simp; omega))) (by first | omega | (simp; omega)) (by first | omega | (simp; omega)) rfl ?_
      rw [List.drop_zero]
      refine wl_assign rfl rfl ?_
      refine wl_assign rfl rfl ?_
      refine wl_nil ?_
      refine qs_seq ?_
      refine wc_ret ?_
      refine fin2 (.inr rfl) rfl rfl rfl ?_
      exact ⟨_, rfl, by unfold readTV readX; rw [if_neg (by assumption), if_pos (by assumption)]; first | done | rfl, by unfold readTW; rw [if_neg (by assumption), if_pos (by assumption)]; exact hS17.pick [0, 1] rfl⟩

set_option maxRecDepth 100000 in
theorem controlW_sp {w : World} {p : Nat} {W : WS} {F : Th} (hS : Sat w [worldT p W, F]) (hG : Ent F WireG) (hB : TB W) (now : Int) :
    Calls Tryz.prog 27 #[.iface 24 (ptrV p 0), intV now] w (Ret fun v w' => v = .bool (ctlW W now) ∧ Sat w' [worldT p W, F]) := by
  refine calls_enter Tryz.func27 rfl Tryz.ntmps27 rfl ?_
  refine wc_seq ?_
  refine wc_region ?_
  refine wl_assign rfl rfl ?_
  refine wl_nil ?_
  refine qs_seq ?_
  refine wc_seq ?_
  refine wc_region ?_
  refine wl_move rfl rfl ?_
  have hC1 := hS.split [0] [true, false] rfl; dsimp only [selF, pickA, nthA, List.cons_append, List.nil_append] at hC1
  refine wl_call cal_59 rfl (next_sp hC1 (hG.starL 0 rfl) (hB _) kCtl (hB _) true) rfl ?_
  rintro e w1 ⟨_, rfl, rfl, hS1⟩; refine ⟨_, rfl, ?_⟩
  replace hS1 := hS1.join rfl; dsimp only [List.dropLast, List.cons_append, List.nil_append] at hS1; clear hC1
  refine wl_move rfl rfl ?_
  refine wl_extract rfl rfl rfl ?_
  refine wl_extract rfl rfl rfl ?_
  refine wl_extract rfl rfl rfl ?_
  refine wl_alloc hS1 zr_49 rfl rfl ?_
  intro b2 w2 hS2
  clear hS1
  first | (refine wl_storeA hS2 rfl rfl sz_49 rfl (by first | rfl | (simp [allOne, Value.oneCell']; done) | assumption | exact hone) (i := 0) rfl (by first | decide | exact Nat.le_of_ble_eq_true rfl | (simp; done) | omega) ?_)
  intro w3 hS4; dsimp only [List.set] at hS4
  clear hS2
  refine wl_assign rfl rfl ?_
  refine wl_assign rfl rfl ?_
  refine wl_nil ?_
  refine qs_seq ?_
  refine wc_sub (L' := [(7, _), (5, _), (4, _), (1, _)]) (.cons rfl (.cons rfl (.cons rfl (.cons rfl .nil)))) ?_
  refine wc_seq ?_
  refine wc_region ?_
  refine wl_move rfl rfl ?_
  refine wl_move rfl rfl ?_
  refine wl_split 15 rfl (fun h5 => ?_) (fun h5 => ?_)
  · skip
    obtain ⟨i, hi⟩ := optYes (q := nextW W kCtl true) (by simpa using h5)
    rw [hi] at hS4 h5 ⊢
    dsimp only [nxI, nxN] at hS4 ⊢
    obtain ⟨hi1, hi2⟩ := next_ok hi
    have hik := item_ok W hi2
    have hi3 : nextF (itemsW W) (posW W kCtl) true = some i := hi
    refine wl_guard rfl rfl h5 ?_
    refine wl_fieldAddr rfl fo_49_0 rfl ?_
    refine wl_guard rfl rfl h5 ?_
    refine wl_load rfl ag_3 (by first | assumption | exact hS4.cell 0 rfl rfl) rfl ?_
    refine wl_guard rfl rfl h5 ?_
    refine wl_move rfl rfl ?_
    refine wl_guard rfl rfl h5 ?_
    refine wl_leq rfl rfl rfl ?_
    refine wl_pickT rfl h5 rfl rfl ?_
    refine wl_assign rfl rfl ?_
    refine wl_nil ?_
    refine qs_seq ?_
    refine wc_sub (L' := [(4, _)]) (.cons rfl .nil) ?_
    refine wc_ret ?_
    refine fin1 (.inr rfl) rfl rfl ?_
    exact ⟨_, rfl, by unfold ctlW dueI dueX; rw [hi3]; dsimp only; congr 1; by_cases hq : now < (ix (itemsW W) i).a <;> simp [hq] <;> omega, hS4.pick [1, 2] rfl⟩
  · skip
    have hi := optNo (q := nextW W kCtl true) (by simpa using h5)
    have hi3 : nextF (itemsW W) (posW W kCtl) true = none := hi
    refine wl_unwanted rfl rfl h5 rfl ?_
    refine wl_unwanted rfl rfl h5 rfl ?_
    refine wl_unwanted rfl rfl h5 rfl ?_
    refine wl_unwanted rfl rfl h5 rfl ?_
    refine wl_pickF rfl h5 rfl rfl ?_
    refine wl_assign rfl rfl ?_
    refine wl_nil ?_
    refine qs_seq ?_
    refine wc_sub (L' := [(4, _)]) (.cons rfl .nil) ?_
    refine wc_ret ?_
    refine fin1 (.inr rfl) rfl rfl ?_
    exact ⟨_, rfl, by unfold ctlW dueI dueX; rw [hi3]; dsimp only; rfl, hS4.pick [1, 2] rfl⟩

set_option maxRecDepth 100000 in
theorem due_sp {w : World} {p : Nat} {W : WS} {F : Th} (hS : Sat w [worldT p W, F]) (hG : Ent F WireG) (hB : TB W) (now : Int) :
    Calls Tryz.prog 23 #[.iface 24 (ptrV p 0), intV now] w (Ret fun v w' => v = .tuple #[.agg #[intV (dueD W now).a, intV (dueD W now).k, strV (dueD W now).t], .bool (dueI W now).isSome] ∧ Sat w' [worldT p (dueW W now), F]) := by
  refine calls_enter Tryz.func23 rfl Tryz.ntmps23 rfl ?_
  refine wc_seq ?_
  refine wc_region ?_
  refine wl_alloc hS zr_49 rfl rfl ?_
  intro b1 w1 hS1
  refine wl_assign rfl rfl ?_
  refine wl_nil ?_
  refine qs_seq ?_
  refine wc_seq ?_
  refine wc_region ?_
  refine wl_move rfl rfl ?_
  have hC2 := hS1.split [1] [false, true, false] rfl; dsimp only [selF, pickA, nthA, List.cons_append, List.nil_append] at hC2
  refine wl_call cal_59 rfl (next_sp hC2 (hG.starL 1 rfl) (hB _) kCtl (hB _) true) rfl ?_
  rintro e w2 ⟨_, rfl, rfl, hS2⟩; refine ⟨_, rfl, ?_⟩
  replace hS2 := hS2.join rfl; dsimp only [List.dropLast, List.cons_append, List.nil_append] at hS2; clear hC2
  clear hS1
  refine wl_move rfl rfl ?_
  refine wl_extract rfl rfl rfl ?_
  refine wl_extract rfl rfl rfl ?_
  refine wl_extract rfl rfl rfl ?_
  refine wl_alloc hS2 zr_49 rfl rfl ?_
  intro b3 w3 hS3
  clear hS2
  first | (refine wl_storeA hS3 rfl rfl sz_49 rfl (by first | rfl | (simp [allOne, Value.oneCell']; done) | assumption | exact hone) (i := 0) rfl (by first | decide | exact Nat.le_of_ble_eq_true rfl | (simp; done) | omega) ?_) | (refine wl_storeA hS3 rfl rfl sz_49 rfl (by first | rfl | (simp [allOne, Value.oneCell']; done) | assumption | exact hone) (i := 2) rfl (by first | decide | exact Nat.le_of_ble_eq_true rfl | (simp; done) | omega) ?_)
  intro w4 hS5; dsimp only [List.set] at hS5
  clear hS3
  refine wl_assign rfl rfl ?_
  refine wl_assign rfl rfl ?_
  refine wl_nil ?_
  refine qs_seq ?_
  refine wc_sub (L' := [(8, _), (7, _), (6, _), (5, _), (4, _), (0, _), (1, _)]) (.cons rfl (.cons rfl (.cons rfl (.cons rfl (.cons rfl (.cons rfl (.cons rfl .nil))))))) ?_
  refine wc_seq ?_
  refine wc_seq ?_
  refine wc_region ?_
  refine wl_move rfl rfl ?_
  refine wl_not rfl rfl ?_
  refine wl_move rfl rfl ?_
  refine wl_split 17 rfl (fun h6 => ?_) (fun h6 => ?_)
  · skip
    have hi := optNo (q := nextW W kCtl true) (by simpa using h6)
    have hi3 : nextF (itemsW W) (posW W kCtl) true = none := hi
    refine wl_unwanted rfl rfl h6 rfl ?_
    refine wl_unwanted rfl rfl h6 rfl ?_
    refine wl_unwanted rfl rfl h6 rfl ?_
    refine wl_unwanted rfl rfl h6 rfl ?_
    refine wl_pickT rfl h6 rfl rfl ?_
    refine wl_nil ?_
    refine qs_seq ?_
    refine wc_sub (L' := [(22, _), (7, _), (6, _), (5, _), (4, _), (0, _)]) (.cons rfl (.cons rfl (.cons rfl (.cons rfl (.cons rfl (.cons rfl .nil)))))) ?_
    refine wc_condT rfl ?_
    refine wc_seq ?_
    refine wc_region ?_
    refine wl_buildS rfl pl_49_ asz_49 zr_49 rfl rfl ?_
    first | (refine wl_storeA hS5 rfl rfl sz_49 rfl (by first | rfl | (simp [allOne, Value.oneCell']; done) | assumption | exact hone) (i := 0) rfl (by first | decide | exact Nat.le_of_ble_eq_true rfl | (simp; done) | omega) ?_) | (refine wl_storeA hS5 rfl rfl sz_49 rfl (by first | rfl | (simp [allOne, Value.oneCell']; done) | assumption | exact hone) (i := 2) rfl (by first | decide | exact Nat.le_of_ble_eq_true rfl | (simp; done) | omega) ?_)
    intro w7 hS8; dsimp only [List.set] at hS8
    clear hS5
    refine wl_assign rfl rfl ?_
    refine wl_nil ?_
    refine qs_seq ?_
    refine wc_ret ?_
    refine qs_then_ret ?_
    refine finR2 (.inr rfl) rfl (resCA rfl ag_49 sz_49 (by first | exact hS8.blk 0 rfl | exact hS8.blk 2 rfl) (by first | decide | exact Nat.le_of_ble_eq_true rfl | (simp; done) | omega) rfl) (resT rfl) ?_
    have hd : dueI W now = none := by unfold dueI dueX; rw [hi3]
    exact ⟨_, rfl, by unfold dueD; rw [hd]; rfl, by unfold dueW; rw [hd]; exact hS8.pick [1, 3] rfl⟩
  · skip
    obtain ⟨i, hi⟩ := optYes (q := nextW W kCtl true) (by simpa using h6)
    rw [hi] at hS5 h6 ⊢
    dsimp only [nxI, nxN] at hS5 ⊢
    obtain ⟨hi1, hi2⟩ := next_ok hi
    have hik := item_ok W hi2
    have hi3 : nextF (itemsW W) (posW W kCtl) true = some i := hi
    refine wl_guard rfl rfl h6 ?_
    refine wl_fieldAddr rfl fo_49_0 rfl ?_
    refine wl_guard rfl rfl h6 ?_
    refine wl_load rfl ag_3 (by first | assumption | exact hS5.cell 0 rfl rfl | exact hS5.cell 2 rfl rfl) rfl ?_
    refine wl_guard rfl rfl h6 ?_
    refine wl_move rfl rfl ?_
    refine wl_guard rfl rfl h6 ?_
    refine wl_gtr rfl rfl rfl ?_
    refine wl_pickF rfl h6 rfl rfl ?_
    refine wl_nil ?_
    refine qs_seq ?_
    refine wc_sub (L' := [(22, _), (7, _), (6, _), (5, _), (4, _), (0, _)]) (.cons rfl (.cons rfl (.cons rfl (.cons rfl (.cons rfl (.cons rfl .nil)))))) ?_
    refine wc_condD rfl (fun h9 => ?_) (fun h9 => ?_)
    · skip
      refine wc_seq ?_
      refine wc_region ?_
      refine wl_buildS rfl pl_49_ asz_49 zr_49 rfl rfl ?_
      first | (refine wl_storeA hS5 rfl rfl sz_49 rfl (by first | rfl | (simp [allOne, Value.oneCell']; done) | assumption | exact hone) (i := 0) rfl (by first | decide | exact Nat.le_of_ble_eq_true rfl | (simp; done) | omega) ?_) | (refine wl_storeA hS5 rfl rfl sz_49 rfl (by first | rfl | (simp [allOne, Value.oneCell']; done) | assumption | exact hone) (i := 2) rfl (by first | decide | exact Nat.le_of_ble_eq_true rfl | (simp; done) | omega) ?_)
      intro w10 hS11; dsimp only [List.set] at hS11
      clear hS5
      refine wl_assign rfl rfl ?_
      refine wl_nil ?_
      refine qs_seq ?_
      refine wc_ret ?_
      refine qs_then_ret ?_
      refine finR2 (.inr rfl) rfl (resCA rfl ag_49 sz_49 (by first | exact hS11.blk 0 rfl | exact hS11.blk 2 rfl) (by first | decide | exact Nat.le_of_ble_eq_true rfl | (simp; done) | omega) rfl) (resT rfl) ?_
      have hd : dueI W now = none := by unfold dueI dueX; rw [hi3]; dsimp only; rw [if_pos (by assumption)]
      exact ⟨_, rfl, by unfold dueD; rw [hd]; rfl, by unfold dueW; rw [hd]; exact hS11.pick [1, 3] rfl⟩
    · skip
      refine wc_skip ?_
      refine qs_seq ?_
      refine wc_seq ?_
      have hS12 := hS5.drew
      refine wc_draw [0, 1, 2, 4, 5, 6, 3, 7] [3, 7] mix (by kernel_rfl) ?_
      refine vc_p rfl rfl rfl (fun _ => (ev_move rfl)) ?_
      refine vc_p rfl rfl rfl (fun _ => (ev_move rfl)) ?_
      refine vc_p rfl rfl rfl (fun _ => (ev_add rfl rfl (by omega) (by omega))) ?_
      refine vc_p rfl rfl rfl (fun _ => (ev_makeMeth rfl)) ?_
      refine vc_p rfl rfl rfl (fun _ => (ev_nilCheckMeth rfl (mnil_Put p))) ?_
      refine vc_p rfl rfl rfl (fun _ => (ev_move rfl)) ?_
      refine vc_s rfl rfl rfl rfl rfl rfl ?_
      have hC13 := hS12.split [] [false, false, false, false] rfl; dsimp only [selF, pickA, nthA, List.cons_append, List.nil_append] at hC13
      refine wl_call cal_60 rfl (wInt_sp hC13 (hG.starL 3 rfl) ((i : Int) + 1) (by unfold inI; omega)) rfl ?_
      rintro e w13 ⟨_, rfl, rfl, hS13⟩; refine ⟨_, rfl, ?_⟩
      replace hS13 := hS13.join rfl; dsimp only [List.dropLast, List.cons_append, List.nil_append] at hS13; clear hC13
      clear hS12
      refine vc_e .nil ?_
      refine vc_s rfl rfl rfl rfl rfl rfl ?_
      have hC14 := hS13.split [1] [false, true, false, false] rfl; dsimp only [selF, pickA, nthA, List.cons_append, List.nil_append] at hC14
      refine wl_invoke (vs := [strV kCtl, strV (encN ((i : Int) + 1))]) rfl (imeth_Put p) cal_30 rfl (put_sp hC14 kCtl (encN ((i : Int) + 1)) (by decide) (by have := encN1_len hi1; omega)) rfl ?_
      rintro e w14 ⟨_, rfl, rfl, hS14⟩; refine ⟨_, rfl, ?_⟩
      replace hS14 := hS14.join rfl; dsimp only [List.dropLast, List.cons_append, List.nil_append] at hS14; clear hC14
      clear hS13
      refine vc_e .nil ?_
      refine VC.nil ?_
      refine qs_seq ?_
      refine wc_sub (L' := [(6, _), (5, _), (4, _)]) (.cons rfl (.cons rfl (.cons rfl .nil))) ?_
      refine wc_seq ?_
      refine wc_region ?_
      refine wl_loadA rfl ag_49 sz_49 (by first | exact hS14.blk 1 rfl | exact hS14.blk 2 rfl) (by first | decide | exact Nat.le_of_ble_eq_true rfl | (simp; done) | omega) rfl rfl ?_
      first | (refine wl_storeA hS14 rfl rfl sz_49 rfl (by first | rfl | (simp [allOne, Value.oneCell']; done) | assumption | exact hone) (i := 1) rfl (by first | decide | exact Nat.le_of_ble_eq_true rfl | (simp; done) | omega) ?_) | (refine wl_storeA hS14 rfl rfl sz_49 rfl (by first | rfl | (simp [allOne, Value.oneCell']; done) | assumption | exact hone) (i := 2) rfl (by first | decide | exact Nat.le_of_ble_eq_true rfl | (simp; done) | omega) ?_)
      intro w15 hS16; dsimp only [List.set] at hS16
      clear hS14
      refine wl_assign rfl rfl ?_
      refine wl_nil ?_
      refine qs_seq ?_
      refine wc_ret ?_
      refine finR2 (.inr rfl) rfl (resCA rfl ag_49 sz_49 (by first | exact hS16.blk 1 rfl | exact hS16.blk 2 rfl) (by first | decide | exact Nat.le_of_ble_eq_true rfl | (simp; done) | omega) rfl) (resT rfl) ?_
      have hd : dueI W now = some i := by unfold dueI dueX; rw [hi3]; dsimp only; rw [if_neg (by assumption)]
      exact ⟨_, rfl, by unfold dueD; rw [hd]; rfl, by unfold dueW; rw [hd]; exact hS16.pick [0, 3] rfl⟩

set_option maxRecDepth 100000 in
theorem nextAt_sp {w : World} {p : Nat} {W : WS} {F : Th} (hS : Sat w [worldT p W, F]) (hG : Ent F WireG) (hB : TB W) (now : Int) :
    Calls Tryz.prog 24 #[.iface 24 (ptrV p 0), intV now] w (Ret fun v w' => v = .tuple #[intV ((nextAtF (itemsW W) now).getD 0), .bool (nextAtF (itemsW W) now).isSome] ∧ Sat w' [worldT p W, F]) := by
  refine calls_enter Tryz.func24 rfl Tryz.ntmps24 rfl ?_
  have hil := items_len W
  refine wc_seq ?_
  refine wc_region ?_
  refine wl_assign rfl rfl ?_
  refine wl_assign rfl rfl ?_
  refine wl_nil ?_
  refine qs_seq ?_
  refine wc_seq ?_
  refine wc_seq ?_
  refine wc_region ?_
  refine wl_move rfl rfl ?_
  have hC1 := hS.split [0] [true, false] rfl; dsimp only [selF, pickA, nthA, List.cons_append, List.nil_append] at hC1
  refine wl_call cal_12 rfl (items_sp hC1 (hG.starL 0 rfl) (hB _)) rfl ?_
  rintro e w1 ⟨_, rfl, hS1⟩; refine ⟨_, rfl, ?_⟩
  replace hS1 := hS1.join rfl; dsimp only [List.dropLast, List.cons_append, List.nil_append] at hS1; clear hC1
  refine wl_lenO 0 hS1 Tryz.underlying34 rfl rfl rfl ?_
  refine wl_move rfl rfl ?_
  refine wl_nil ?_
  refine qs_seq ?_
  refine wc_block ?_
  refine wc_loop (fun K0 E0 W0 => ∃ (i : Nat) (lv : Value), K0 = 101 - i ∧ E0 = [(1, intV now), (9, lv), (10, intV ((itemsW W).length : Int)), (11, intV (i : Int))] ∧ Sat W0 [rowT itC lv (itemsW W), worldT p W, F] ∧ (i ≤ (itemsW W).length) ∧ (∀ j x, j < i → (itemsW W)[j]? = some x → ¬ now < x.a)) (L0 := [(1, _), (9, _), (10, _), (11, _)]) (101 - 0) (.cons rfl (.cons rfl (.cons rfl (.cons rfl .nil)))) ⟨0, _, rfl, rfl, hS1.pick [0, 1, 2] rfl, by omega, fun j x hj => absurd hj (by omega)⟩ ?_
  rintro _ _ w2 ⟨i, lv, rfl, rfl, hS2, hi, hno⟩
  refine wc_seq ?_
  refine wc_region ?_
  refine wl_lss rfl rfl rfl ?_
  refine wl_nil ?_
  refine qs_seq ?_
  refine wc_seq ?_
  refine wc_condD rfl (fun h3 => ?_) (fun h3 => ?_)
  · skip
    obtain ⟨x, hx⟩ : ∃ x, (itemsW W)[i]? = some x := ⟨_, List.getElem?_eq_getElem (by omega)⟩
    refine wc_skip ?_
    refine qs_seq ?_
    refine wc_seq ?_
    refine wc_block ?_
    refine wc_seq ?_
    refine wc_region ?_
    refine wl_rowIdx itC 0 i hS2 rfl rfl rfl (by first | rfl | omega) hx es_34 rfl ?_
    intro bx4 capx4 hvx4
    refine wl_rowLoadA 0 i hS2 rfl hvx4 rfl hx ag_49 sz_49 rfl rfl ?_
    refine wl_alloc hS2 zr_49 rfl rfl ?_
    intro b5 w5 hS5
    clear hS2
    first | (refine wl_storeA hS5 rfl rfl sz_49 rfl (by first | rfl | (simp [allOne, Value.oneCell']; done) | assumption | exact hone) (i := 0) rfl (by first | decide | exact Nat.le_of_ble_eq_true rfl | (simp; done) | omega) ?_)
    intro w6 hS7; dsimp only [List.set] at hS7
    clear hS5
    refine wl_nil ?_
    refine qs_seq ?_
    refine wc_seq ?_
    refine wc_region ?_
    refine wl_fieldAddr rfl fo_49_0 rfl ?_
    refine wl_load rfl ag_3 (by first | assumption | exact hS7.cell 0 rfl rfl) rfl ?_
    refine wl_move rfl rfl ?_
    refine wl_gtr rfl rfl rfl ?_
    refine wl_nil ?_
    refine qs_seq ?_
    refine wc_sub (L' := [(18, _), (7, _), (1, _), (9, _), (10, _), (11, _)]) (.cons rfl (.cons rfl (.cons rfl (.cons rfl (.cons rfl (.cons rfl .nil)))))) ?_
    refine wc_condD rfl (fun h8 => ?_) (fun h8 => ?_)
    · skip
      refine wc_seq ?_
      refine wc_region ?_
      refine wl_fieldAddr rfl fo_49_0 rfl ?_
      refine wl_load rfl ag_3 (by first | assumption | exact hS7.cell 0 rfl rfl) rfl ?_
      refine wl_assign rfl rfl ?_
      refine wl_assign rfl rfl ?_
      refine wl_nil ?_
      refine qs_seq ?_
      refine wc_ret ?_
      refine qs_block_ret ?_
      refine qs_then_ret ?_
      refine qs_then_ret ?_
      refine qs_block_ret ?_
      refine qs_then_ret ?_
      refine fin2 (.inr rfl) rfl rfl rfl ?_
      exact ⟨_, rfl, by rw [(nextAtF_step hno).1 x hx (by omega)]; rfl, hS7.pick [2, 3] rfl⟩
    · skip
      refine wc_skip ?_
      refine qs_block_normal ?_
      refine qs_seq ?_
      refine wc_region ?_
      refine wl_add rfl rfl (by omega) (by omega) rfl ?_
      refine wl_move rfl rfl ?_
      refine wl_nil ?_
      exact qs_round (L1 := [(1, _), (9, _), (10, _), (11, intV ((i + 1 : Nat) : Int))]) (.cons rfl (.cons rfl (.cons rfl (.cons rfl .nil)))) (k1 := 101 - (i + 1)) (by omega) ⟨i + 1, _, rfl, rfl, hS7.pick [1, 2, 3] rfl, by omega, fun j y hj hy => by by_cases e : j = i; (subst e; rw [hx] at hy; cases hy; omega); exact hno j y (by omega) hy⟩
  · skip
    refine wc_exit ?_
    refine qs_then_exit ?_
    refine qs_then_exit ?_
    refine qs_block_exit ?_
    refine qs_seq ?_
    refine wc_seq ?_
    refine wc_region ?_
    refine wl_assign rfl rfl ?_
    refine wl_assign rfl rfl ?_
    refine wl_nil ?_
    refine qs_seq ?_
    refine wc_ret ?_
    refine fin2 (.inr rfl) rfl rfl rfl ?_
    exact ⟨_, rfl, by rw [(nextAtF_step hno).2 (by omega)]; rfl, hS2.pick [1, 2] rfl⟩

theorem setFg_sp {w : World} {p : Nat} {W : WS} {F : Th} (hS : Sat w [worldT p W, F]) (hG : Ent F WireG) (g : Int) (hg : inI g) :
    Calls Tryz.prog 28 #[.iface 24 (ptrV p 0), intV g] w (Ret fun v w' => v = .tuple #[] ∧ Sat w' [worldT p (setFgW W g), F]) := by
  refine calls_enter Tryz.func28 rfl Tryz.ntmps28 rfl ?_
  refine wc_seq ?_
  refine wc_region ?_
  refine wl_assign rfl rfl ?_
  refine wl_nil ?_
  refine qs_seq ?_
  refine wc_seq ?_
  refine wc_seq ?_
  refine wc_region ?_
  refine wl_move rfl rfl ?_
  refine wl_neq rfl rfl rfl ?_
  refine wl_nil ?_
  refine qs_seq ?_
  refine wc_condD rfl (fun h1 => ?_) (fun h1 => ?_)
  · skip
    refine wc_region ?_
    refine wl_move rfl rfl ?_
    have hC2 := hS.split [] [false, false] rfl; dsimp only [selF, pickA, nthA, List.cons_append, List.nil_append] at hC2
    refine wl_call cal_60 rfl (wInt_sp hC2 (hG.starL 1 rfl) g hg) rfl ?_
    rintro e w2 ⟨_, rfl, rfl, hS2⟩; refine ⟨_, rfl, ?_⟩
    replace hS2 := hS2.join rfl; dsimp only [List.dropLast, List.cons_append, List.nil_append] at hS2; clear hC2
    refine wl_assign rfl rfl ?_
    refine wl_nil ?_
    refine qs_seq ?_
    refine wc_region ?_
    refine wl_move rfl rfl ?_
    refine wl_move rfl rfl ?_
    have hC3 := hS2.split [0] [true, false] rfl; dsimp only [selF, pickA, nthA, List.cons_append, List.nil_append] at hC3
    refine wl_invoke (vs := [strV kFg, strV (encN g)]) rfl (imeth_Put p) cal_30 rfl (put_sp hC3 kFg (encN g) (by decide) (by have := encN_len hg; omega)) rfl ?_
    rintro e w3 ⟨_, rfl, rfl, hS3⟩; refine ⟨_, rfl, ?_⟩
    replace hS3 := hS3.join rfl; dsimp only [List.dropLast, List.cons_append, List.nil_append] at hS3; clear hC3
    clear hS2
    refine wl_nil ?_
    refine fin0 (.inl rfl) rfl ?_
    exact ⟨_, rfl, rfl, by unfold setFgW; rw [if_neg (by assumption)]; exact hS3.pick [0, 1] rfl⟩
  · skip
    refine wc_skip ?_
    refine qs_seq ?_
    refine wc_region ?_
    refine wl_move rfl rfl ?_
    refine wl_move rfl rfl ?_
    have hC4 := hS.split [0] [true, false] rfl; dsimp only [selF, pickA, nthA, List.cons_append, List.nil_append] at hC4
    refine wl_invoke (vs := [strV kFg, strV []]) rfl (imeth_Put p) cal_30 rfl (put_sp hC4 kFg [] (by decide) (by simp)) rfl ?_
    rintro e w4 ⟨_, rfl, rfl, hS4⟩; refine ⟨_, rfl, ?_⟩
    replace hS4 := hS4.join rfl; dsimp only [List.dropLast, List.cons_append, List.nil_append] at hS4; clear hC4
    refine wl_nil ?_
    refine fin0 (.inl rfl) rfl ?_
    exact ⟨_, rfl, rfl, by unfold setFgW; rw [if_pos (Decidable.not_not.1 (by assumption))]; exact hS4.pick [0, 1] rfl⟩

def kOut : Bs := [111, 117, 116]
theorem say_sp {w : World} {p : Nat} {W : WS} {F : Th} (hS : Sat w [worldT p W, F]) (s : Bs) (hl : (W.logs kOut).length + s.length ≤ 281474976710656) :
    Calls Tryz.prog 29 #[.iface 24 (ptrV p 0), strV s] w (Ret fun v w' => v = .tuple #[] ∧ Sat w' [worldT p (logS W kOut s), F]) := by
  refine calls_enter Tryz.func29 rfl Tryz.ntmps29 rfl ?_
  refine wc_region ?_
  refine wl_move rfl rfl ?_
  refine wl_move rfl rfl ?_
  have hC1 := hS.split [0] [true, false] rfl; dsimp only [selF, pickA, nthA, List.cons_append, List.nil_append] at hC1
  refine wl_invoke (vs := [strV kOut, strV s]) rfl (imeth_Log p) cal_156 rfl (log_sp hC1 kOut s (by decide) hl) rfl ?_
  rintro e w1 ⟨_, rfl, rfl, hS1⟩; refine ⟨_, rfl, ?_⟩
  replace hS1 := hS1.join rfl; dsimp only [List.dropLast, List.cons_append, List.nil_append] at hS1; clear hC1
  refine wl_nil ?_
  refine fin0 (.inl rfl) rfl ?_
  exact ⟨_, rfl, rfl, hS1.pick [0, 1] rfl⟩

end Go.Proofs.YtdkfppcafpjomaaGreatDoor
