/- laws of world: WorldReads -/
import Derived.Test.YtieelilkkpcmdaaWg
namespace Go.Proofs.Ytieelilkkpcmdaa
open Go.RowKit M
set_option linter.unusedVariables false
theorem pageOf_setO {O : Bs → Int → Option Bs} {n m : Bs} {q j : Int} {s : Bs} : pageOf (setO O n q s m j) = if m = n ∧ j = q then s else pageOf (O m j) := by
  unfold setO
  split
  · rename_i h
    split
    · rename_i hz; rw [hz]; rfl
    · rfl
  · rfl
theorem setByteS_ok {W : WS} (hI : PagesOk W.objs) (n : Bs) (i : Int) (c : UInt8) : PagesOk (setByteS W n i c).objs := by
  unfold setByteS
  split
  · exact hI.set (by simp [pageB, hI.len]) (by omega)
  · exact hI
theorem byteW_set {W : WS} (hI : PagesOk W.objs) (n : Bs) (i : Int) (c : UInt8) (m : Bs) (j : Int) : byteW (setByteS W n i c) m j = if (m = n ∧ j = i) ∧ 0 ≤ i ∧ i < 16384 then c else byteW W m j := by
  unfold setByteS
  by_cases hi : 0 ≤ i ∧ i < 16384
  · rw [if_pos hi]
    unfold byteW
    by_cases hj : 0 ≤ j ∧ j < 16384
    · rw [if_pos hj, if_pos hj]
      show (pageOf (setO W.objs n (i / 64) _ m (j / 64))).getD (j % 64).toNat 0 = _
      rw [pageOf_setO]
      by_cases h1 : m = n ∧ j / 64 = i / 64
      · rw [if_pos h1]
        by_cases h2 : j = i
        · subst h2
          rw [if_pos ⟨⟨h1.1, rfl⟩, hi⟩]
          have hl := hI.len n (j / 64)
          have h3 : (j % 64).toNat < (pageB W n (j / 64)).length := by simp only [pageB, hl]; omega
          simp [List.getD, h3]
        · rw [if_neg (by rintro ⟨⟨_, h⟩, _⟩; exact h2 h)]
          have h3 : (i % 64).toNat ≠ (j % 64).toNat := by omega
          obtain ⟨rfl, h4⟩ := h1
          simp [List.getD, List.getElem?_set_ne h3, pageB, h4]
      · rw [if_neg h1, if_neg (by rintro ⟨⟨h, h'⟩, _⟩; exact h1 ⟨h, by rw [h']⟩)]
    · rw [if_neg hj, if_neg hj, if_neg (by rintro ⟨⟨_, h⟩, _⟩; omega)]
  · rw [if_neg hi, if_neg (by rintro ⟨_, h⟩; exact hi h)]
theorem byteW_write (n m : Bs) (j : Int) : ∀ (s : Bs) (W : WS) (a : Int), PagesOk W.objs → byteW (writeS W n a s) m j = if m = n ∧ a ≤ j ∧ j < a + s.length ∧ 0 ≤ j ∧ j < 16384 then s.getD (j - a).toNat 0 else byteW W m j
  | [], W, a, _ => by simp only [writeS, List.length_nil]; rw [if_neg (by rintro ⟨_, h⟩; omega)]
  | c :: s, W, a, hI => by
    simp only [writeS, List.length_cons]
    rw [byteW_write n m j s _ _ (setByteS_ok hI n a c), byteW_set hI]
    by_cases h1 : m = n ∧ a + 1 ≤ j ∧ j < a + 1 + s.length ∧ 0 ≤ j ∧ j < 16384
    · rw [if_pos h1, if_pos ⟨h1.1, by omega, by omega, h1.2.2.2⟩]
      rw [show (j - a).toNat = (j - (a + 1)).toNat + 1 by omega]; simp [List.getD]
    · rw [if_neg h1]
      by_cases h2 : (m = n ∧ j = a) ∧ 0 ≤ a ∧ a < 16384
      · rw [if_pos h2, if_pos ⟨h2.1.1, by omega, by omega, by omega, by omega⟩]
        rw [show (j - a).toNat = 0 by omega]; rfl
      · rw [if_neg h2, if_neg (by rintro ⟨g1, g2, g3, g4, g5⟩; by_cases g6 : j = a; exact h2 ⟨⟨g1, g6⟩, by omega, by omega⟩; exact h1 ⟨g1, by omega, by omega, g4, g5⟩)]
theorem readB_same {W W' : WS} {n : Bs} {a : Int} {k : Nat} (h : ∀ j, a ≤ j → j < a + k → byteW W' n j = byteW W n j) : readB W' n a k = readB W n a k := by
  unfold readB
  apply List.map_congr_left
  intro j hj
  simp at hj
  exact h _ (by omega) (by omega)
theorem readB_get (W : WS) (n : Bs) (a : Int) {k i : Nat} (h : i < k) : (readB W n a k)[i]? = some (byteW W n (a + (i : Int))) := by simp [readB, h]
theorem worldT_ok {w : World} {p : Nat} {W : WS} {As : List Th} (h : Sat w (worldT p W :: As)) : PagesOk W.objs := by obtain ⟨_, hI, _⟩ := worldT_open h; exact hI
set_option maxRecDepth 100000 in
set_option maxHeartbeats 400000 in
theorem reads_law {w : World} {F : Th} (hS : Sat w [F]) {lv : Value} {l : List OpD} (nm : Bs) (at_ : Int) (s : Bs) (hL : Ent F (RdL opC lv l)) :
    Calls Try.prog 3 #[lv, strV nm, intV at_, strV s] w (Ret fun v w' => v = .bool true ∧ Sat w' [F]) := by
  obtain ⟨ao, cap, rfl, hmax⟩ := (hL.sat hS 0 rfl).shape
  refine calls_enter Try.func3 rfl Try.ntmps3 rfl ?_
  refine wc_seq ?_
  refine wc_region ?_
  refine wl_assign rfl rfl ?_
  refine wl_nil ?_
  refine qs_seq ?_
  refine wc_seq ?_
  refine wc_region ?_
  have hC1 := hS.split [] [false] rfl; dsimp only [selF, pickA, nthA, List.cons_append, List.nil_append] at hC1
  refine wl_call cal_4 rfl (small_sp hC1) rfl ?_
  rintro e w1 ⟨_, rfl, rfl, hS1⟩; refine ⟨_, rfl, ?_⟩
  replace hS1 := hS1.join rfl; dsimp only [List.dropLast, List.cons_append, List.nil_append] at hS1; clear hC1
  refine wl_assign rfl rfl ?_
  refine wl_nil ?_
  refine qs_seq ?_
  refine wc_seq ?_
  refine wc_region ?_
  refine wl_move rfl rfl ?_
  have hC2 := hS1.split [] [false] rfl; dsimp only [selF, pickA, nthA, List.cons_append, List.nil_append] at hC2
  refine wl_call cal_5 rfl (played_sp hC2 (hL.starL 0 rfl)) rfl ?_
  rintro e w2 ⟨_, rfl, p, rfl, hS2⟩; refine ⟨_, rfl, ?_⟩
  replace hS2 := hS2.join rfl; dsimp only [List.dropLast, List.cons_append, List.nil_append] at hS2; clear hC2
  clear hS1
  refine wl_assign rfl rfl ?_
  refine wl_nil ?_
  refine qs_seq ?_
  refine wc_seq ?_
  refine wc_seq ?_
  refine wc_region ?_
  refine wl_move rfl rfl ?_
  have hC3 := hS2.split [] [false, false] rfl; dsimp only [selF, pickA, nthA, List.cons_append, List.nil_append] at hC3
  refine wl_call cal_6 rfl (few_sp hC3 (hL.starL 1 rfl) 40) rfl ?_
  rintro e w3 ⟨_, rfl, rfl, hS3⟩; refine ⟨_, rfl, ?_⟩
  replace hS3 := hS3.join rfl; dsimp only [List.dropLast, List.cons_append, List.nil_append] at hS3; clear hC3
  clear hS2
  refine wl_not rfl rfl ?_
  refine wl_move rfl rfl ?_
  refine wl_split 22 rfl (fun h4 => ?_) (fun h4 => ?_)
  · skip
    refine wl_unwanted rfl rfl h4 rfl ?_
    refine wl_unwanted rfl rfl h4 rfl ?_
    refine wl_unwanted rfl rfl h4 rfl ?_
    refine wl_pickT rfl h4 rfl rfl ?_
    refine wl_move rfl rfl ?_
    refine wl_unwanted rfl rfl rfl rfl ?_
    refine wl_unwanted rfl rfl rfl rfl ?_
    refine wl_pickT rfl rfl rfl rfl ?_
    refine wl_move rfl rfl ?_
    refine wl_unwanted rfl rfl rfl rfl ?_
    refine wl_unwanted rfl rfl rfl rfl ?_
    refine wl_pickT rfl rfl rfl rfl ?_
    refine wl_move rfl rfl ?_
    refine wl_unwanted rfl rfl rfl rfl ?_
    refine wl_unwanted rfl rfl rfl rfl ?_
    refine wl_unwanted rfl rfl rfl rfl ?_
    refine wl_pickT rfl rfl rfl rfl ?_
    refine wl_move rfl rfl ?_
    refine wl_unwanted rfl rfl rfl rfl ?_
    refine wl_unwanted rfl rfl rfl rfl ?_
    refine wl_pickT rfl rfl rfl rfl ?_
    refine wl_nil ?_
    refine qs_seq ?_
    refine wc_sub (L' := [(43, _), (10, _), (9, _), (8, _), (1, _), (2, _), (3, _)]) (.cons rfl (.cons rfl (.cons rfl (.cons rfl (.cons rfl (.cons rfl (.cons rfl .nil))))))) ?_
    refine wc_condT rfl ?_
    refine wc_seq ?_
    refine wc_region ?_
    refine wl_move rfl rfl ?_
    refine wl_move rfl rfl ?_
    refine wl_guard rfl rfl rfl ?_
    refine wl_move rfl rfl ?_
    refine wl_guard rfl rfl rfl ?_
    refine wl_neqNil Try.underlying24 rfl rfl rfl ?_
    refine wl_pickT rfl rfl rfl rfl ?_
    refine wl_assign rfl rfl ?_
    refine wl_nil ?_
    refine qs_seq ?_
    refine wc_sub (L' := [(8, _), (10, _), (9, _), (1, _), (2, _), (3, _)]) (.cons rfl (.cons rfl (.cons rfl (.cons rfl (.cons rfl (.cons rfl .nil)))))) ?_
    refine wc_ret ?_
    refine qs_then_ret ?_
    refine fin1 (.inr rfl) rfl rfl ?_
    exact ⟨_, rfl, by first | rfl | (congr 1; apply decide_eq_true; rfl) | (congr 1), hS3.pick [1] rfl⟩
  · skip
    have hfew : fewB l 40 = true := by simpa using h4
    refine wl_guard rfl rfl h4 ?_
    refine wl_move rfl rfl ?_
    refine wl_guard rfl rfl h4 ?_
    refine wl_lenS Try.underlying9 rfl rfl ?_
    refine wl_guard rfl rfl h4 ?_
    refine wl_gtr rfl rfl rfl ?_
    refine wl_pickF rfl h4 rfl rfl ?_
    refine wl_move rfl rfl ?_
    refine wl_splitD 27 rfl (fun h5 => ?_) (fun h5 => ?_)
    · skip
      refine wl_unwanted rfl rfl (decide_eq_true h5) rfl ?_
      refine wl_unwanted rfl rfl (decide_eq_true h5) rfl ?_
      refine wl_pickT rfl (decide_eq_true h5) rfl rfl ?_
      refine wl_move rfl rfl ?_
      refine wl_unwanted rfl rfl rfl rfl ?_
      refine wl_unwanted rfl rfl rfl rfl ?_
      refine wl_pickT rfl rfl rfl rfl ?_
      refine wl_move rfl rfl ?_
      refine wl_unwanted rfl rfl rfl rfl ?_
      refine wl_unwanted rfl rfl rfl rfl ?_
      refine wl_unwanted rfl rfl rfl rfl ?_
      refine wl_pickT rfl rfl rfl rfl ?_
      refine wl_move rfl rfl ?_
      refine wl_unwanted rfl rfl rfl rfl ?_
      refine wl_unwanted rfl rfl rfl rfl ?_
      refine wl_pickT rfl rfl rfl rfl ?_
      refine wl_nil ?_
      refine qs_seq ?_
      refine wc_sub (L' := [(43, _), (10, _), (9, _), (8, _), (1, _), (2, _), (3, _)]) (.cons rfl (.cons rfl (.cons rfl (.cons rfl (.cons rfl (.cons rfl (.cons rfl .nil))))))) ?_
      refine wc_condT rfl ?_
      refine wc_seq ?_
      refine wc_region ?_
      refine wl_move rfl rfl ?_
      refine wl_move rfl rfl ?_
      refine wl_guard rfl rfl rfl ?_
      refine wl_move rfl rfl ?_
      refine wl_guard rfl rfl rfl ?_
      refine wl_neqNil Try.underlying24 rfl rfl rfl ?_
      refine wl_pickT rfl rfl rfl rfl ?_
      refine wl_assign rfl rfl ?_
      refine wl_nil ?_
      refine qs_seq ?_
      refine wc_sub (L' := [(8, _), (10, _), (9, _), (1, _), (2, _), (3, _)]) (.cons rfl (.cons rfl (.cons rfl (.cons rfl (.cons rfl (.cons rfl .nil)))))) ?_
      refine wc_ret ?_
      refine qs_then_ret ?_
      refine fin1 (.inr rfl) rfl rfl ?_
      exact ⟨_, rfl, by first | rfl | (congr 1; apply decide_eq_true; rfl) | (congr 1), hS3.pick [1] rfl⟩
    · skip
      refine wl_guard rfl rfl (decide_eq_false h5) ?_
      refine wl_move rfl rfl ?_
      refine wl_guard rfl rfl (decide_eq_false h5) ?_
      refine wl_lss rfl rfl rfl ?_
      refine wl_pickF rfl (decide_eq_false h5) rfl rfl ?_
      refine wl_move rfl rfl ?_
      refine wl_splitD 31 rfl (fun h6 => ?_) (fun h6 => ?_)
      · skip
        refine wl_unwanted rfl rfl (decide_eq_true h6) rfl ?_
        refine wl_unwanted rfl rfl (decide_eq_true h6) rfl ?_
        refine wl_pickT rfl (decide_eq_true h6) rfl rfl ?_
        refine wl_move rfl rfl ?_
        refine wl_unwanted rfl rfl rfl rfl ?_
        refine wl_unwanted rfl rfl rfl rfl ?_
        refine wl_unwanted rfl rfl rfl rfl ?_
        refine wl_pickT rfl rfl rfl rfl ?_
        refine wl_move rfl rfl ?_
        refine wl_unwanted rfl rfl rfl rfl ?_
        refine wl_unwanted rfl rfl rfl rfl ?_
        refine wl_pickT rfl rfl rfl rfl ?_
        refine wl_nil ?_
        refine qs_seq ?_
        refine wc_sub (L' := [(43, _), (10, _), (9, _), (8, _), (1, _), (2, _), (3, _)]) (.cons rfl (.cons rfl (.cons rfl (.cons rfl (.cons rfl (.cons rfl (.cons rfl .nil))))))) ?_
        refine wc_condT rfl ?_
        refine wc_seq ?_
        refine wc_region ?_
        refine wl_move rfl rfl ?_
        refine wl_move rfl rfl ?_
        refine wl_guard rfl rfl rfl ?_
        refine wl_move rfl rfl ?_
        refine wl_guard rfl rfl rfl ?_
        refine wl_neqNil Try.underlying24 rfl rfl rfl ?_
        refine wl_pickT rfl rfl rfl rfl ?_
        refine wl_assign rfl rfl ?_
        refine wl_nil ?_
        refine qs_seq ?_
        refine wc_sub (L' := [(8, _), (10, _), (9, _), (1, _), (2, _), (3, _)]) (.cons rfl (.cons rfl (.cons rfl (.cons rfl (.cons rfl (.cons rfl .nil)))))) ?_
        refine wc_ret ?_
        refine qs_then_ret ?_
        refine fin1 (.inr rfl) rfl rfl ?_
        exact ⟨_, rfl, by first | rfl | (congr 1; apply decide_eq_true; rfl) | (congr 1), hS3.pick [1] rfl⟩
      · skip
        refine wl_guard rfl rfl (decide_eq_false h6) ?_
        refine wl_move rfl rfl ?_
        refine wl_guard rfl rfl (decide_eq_false h6) ?_
        refine wl_gtr rfl rfl rfl ?_
        refine wl_pickF rfl (decide_eq_false h6) rfl rfl ?_
        refine wl_move rfl rfl ?_
        refine wl_splitD 35 rfl (fun h7 => ?_) (fun h7 => ?_)
        · skip
          refine wl_unwanted rfl rfl (decide_eq_true h7) rfl ?_
          refine wl_unwanted rfl rfl (decide_eq_true h7) rfl ?_
          refine wl_unwanted rfl rfl (decide_eq_true h7) rfl ?_
          refine wl_pickT rfl (decide_eq_true h7) rfl rfl ?_
          refine wl_move rfl rfl ?_
          refine wl_unwanted rfl rfl rfl rfl ?_
          refine wl_unwanted rfl rfl rfl rfl ?_
          refine wl_pickT rfl rfl rfl rfl ?_
          refine wl_nil ?_
          refine qs_seq ?_
          refine wc_sub (L' := [(43, _), (10, _), (9, _), (8, _), (1, _), (2, _), (3, _)]) (.cons rfl (.cons rfl (.cons rfl (.cons rfl (.cons rfl (.cons rfl (.cons rfl .nil))))))) ?_
          refine wc_condT rfl ?_
          refine wc_seq ?_
          refine wc_region ?_
          refine wl_move rfl rfl ?_
          refine wl_move rfl rfl ?_
          refine wl_guard rfl rfl rfl ?_
          refine wl_move rfl rfl ?_
          refine wl_guard rfl rfl rfl ?_
          refine wl_neqNil Try.underlying24 rfl rfl rfl ?_
          refine wl_pickT rfl rfl rfl rfl ?_
          refine wl_assign rfl rfl ?_
          refine wl_nil ?_
          refine qs_seq ?_
          refine wc_sub (L' := [(8, _), (10, _), (9, _), (1, _), (2, _), (3, _)]) (.cons rfl (.cons rfl (.cons rfl (.cons rfl (.cons rfl (.cons rfl .nil)))))) ?_
          refine wc_ret ?_
          refine qs_then_ret ?_
          refine fin1 (.inr rfl) rfl rfl ?_
          exact ⟨_, rfl, by first | rfl | (congr 1; apply decide_eq_true; rfl) | (congr 1), hS3.pick [1] rfl⟩
        · skip
          refine wl_guard rfl rfl (decide_eq_false h7) ?_
          refine wl_move rfl rfl ?_
          refine wl_guard rfl rfl (decide_eq_false h7) ?_
          refine wl_lenS Try.underlying9 rfl rfl ?_
          refine wl_guard rfl rfl (decide_eq_false h7) ?_
          refine wl_gtr rfl rfl rfl ?_
          refine wl_pickF rfl (decide_eq_false h7) rfl rfl ?_
          refine wl_move rfl rfl ?_
          refine wl_splitD 40 rfl (fun h8 => ?_) (fun h8 => ?_)
          · skip
            refine wl_unwanted rfl rfl (decide_eq_true h8) rfl ?_
            refine wl_unwanted rfl rfl (decide_eq_true h8) rfl ?_
            refine wl_pickT rfl (decide_eq_true h8) rfl rfl ?_
            refine wl_nil ?_
            refine qs_seq ?_
            refine wc_sub (L' := [(43, _), (10, _), (9, _), (8, _), (1, _), (2, _), (3, _)]) (.cons rfl (.cons rfl (.cons rfl (.cons rfl (.cons rfl (.cons rfl (.cons rfl .nil))))))) ?_
            refine wc_condT rfl ?_
            refine wc_seq ?_
            refine wc_region ?_
            refine wl_move rfl rfl ?_
            refine wl_move rfl rfl ?_
            refine wl_guard rfl rfl rfl ?_
            refine wl_move rfl rfl ?_
            refine wl_guard rfl rfl rfl ?_
            refine wl_neqNil Try.underlying24 rfl rfl rfl ?_
            refine wl_pickT rfl rfl rfl rfl ?_
            refine wl_assign rfl rfl ?_
            refine wl_nil ?_
            refine qs_seq ?_
            refine wc_sub (L' := [(8, _), (10, _), (9, _), (1, _), (2, _), (3, _)]) (.cons rfl (.cons rfl (.cons rfl (.cons rfl (.cons rfl (.cons rfl .nil)))))) ?_
            refine wc_ret ?_
            refine qs_then_ret ?_
            refine fin1 (.inr rfl) rfl rfl ?_
            exact ⟨_, rfl, by first | rfl | (congr 1; apply decide_eq_true; rfl) | (congr 1), hS3.pick [1] rfl⟩
          · skip
            refine wl_guard rfl rfl (decide_eq_false h8) ?_
            refine wl_move rfl rfl ?_
            refine wl_guard rfl rfl (decide_eq_false h8) ?_
            refine wl_eqlNil Try.underlying24 rfl rfl rfl ?_
            refine wl_pickF rfl (decide_eq_false h8) rfl rfl ?_
            refine wl_nil ?_
            refine qs_seq ?_
            refine wc_sub (L' := [(43, _), (10, _), (9, _), (8, _), (1, _), (2, _), (3, _)]) (.cons rfl (.cons rfl (.cons rfl (.cons rfl (.cons rfl (.cons rfl (.cons rfl .nil))))))) ?_
            refine wc_condF rfl ?_
            refine wc_skip ?_
            refine qs_seq ?_
            refine wc_seq ?_
            refine wc_region ?_
            have hok := worldT_ok hS3
            refine wl_move rfl rfl ?_
            refine wl_makeIface nif_24 rfl rfl ?_
            refine wl_move rfl rfl ?_
            refine wl_move rfl rfl ?_
            refine wl_sub' rfl rfl (by omega) (by omega) rfl ?_
            have hC9 := hS3.split [0] [true, false] rfl; dsimp only [selF, pickA, nthA, List.cons_append, List.nil_append] at hC9
            refine wl_call cal_7 rfl (read_sp hC9 nm (at_ - 100) 100 (by omega) (by omega)) rfl ?_
            rintro e w9 ⟨_, rfl, rfl, hS9⟩; refine ⟨_, rfl, ?_⟩
            replace hS9 := hS9.join rfl; dsimp only [List.dropLast, List.cons_append, List.nil_append] at hS9; clear hC9
            clear hS3
            refine wl_assign rfl rfl ?_
            refine wl_nil ?_
            refine qs_seq ?_
            refine wc_sub (L' := [(11, _), (10, _), (9, _), (8, _), (1, _), (2, _), (3, _)]) (.cons rfl (.cons rfl (.cons rfl (.cons rfl (.cons rfl (.cons rfl (.cons rfl .nil))))))) ?_
            refine wc_seq ?_
            refine wc_region ?_
            refine wl_move rfl rfl ?_
            refine wl_makeIface nif_24 rfl rfl ?_
            refine wl_move rfl rfl ?_
            refine wl_move rfl rfl ?_
            refine wl_move rfl rfl ?_
            refine wl_lenS Try.underlying9 rfl rfl ?_
            refine wl_add rfl rfl (by omega) (by omega) rfl ?_
            have hC10 := hS9.split [0] [true, false] rfl; dsimp only [selF, pickA, nthA, List.cons_append, List.nil_append] at hC10
            refine wl_call cal_7 rfl (read_sp hC10 nm (at_ + (s.length : Int)) 100 (by omega) (by omega)) rfl ?_
            rintro e w10 ⟨_, rfl, rfl, hS10⟩; refine ⟨_, rfl, ?_⟩
            replace hS10 := hS10.join rfl; dsimp only [List.dropLast, List.cons_append, List.nil_append] at hS10; clear hC10
            clear hS9
            refine wl_assign rfl rfl ?_
            refine wl_nil ?_
            refine qs_seq ?_
            refine wc_sub (L' := [(12, _), (11, _), (10, _), (9, _), (8, _), (1, _), (2, _), (3, _)]) (.cons rfl (.cons rfl (.cons rfl (.cons rfl (.cons rfl (.cons rfl (.cons rfl (.cons rfl .nil)))))))) ?_
            refine wc_seq ?_
            refine wc_region ?_
            refine wl_move rfl rfl ?_
            refine wl_makeIface nif_24 rfl rfl ?_
            refine wl_move rfl rfl ?_
            refine wl_move rfl rfl ?_
            refine wl_move rfl rfl ?_
            have hC11 := hS10.split [0] [true, false] rfl; dsimp only [selF, pickA, nthA, List.cons_append, List.nil_append] at hC11
            refine wl_call cal_8 rfl (write_sp hC11 nm at_ s (by omega) (by omega) (by omega)) rfl ?_
            rintro e w11 ⟨_, rfl, rfl, hS11⟩; refine ⟨_, rfl, ?_⟩
            replace hS11 := hS11.join rfl; dsimp only [List.dropLast, List.cons_append, List.nil_append] at hS11; clear hC11
            clear hS10
            refine wl_nil ?_
            refine qs_seq ?_
            refine wc_sub (L' := [(12, _), (11, _), (10, _), (9, _), (8, _), (1, _), (2, _), (3, _)]) (.cons rfl (.cons rfl (.cons rfl (.cons rfl (.cons rfl (.cons rfl (.cons rfl (.cons rfl .nil)))))))) ?_
            refine wc_seq ?_
            refine wc_region ?_
            refine wl_move rfl rfl ?_
            refine wl_makeIface nif_24 rfl rfl ?_
            refine wl_move rfl rfl ?_
            refine wl_move rfl rfl ?_
            refine wl_move rfl rfl ?_
            refine wl_lenS Try.underlying9 rfl rfl ?_
            have hC12 := hS11.split [0] [true, false] rfl; dsimp only [selF, pickA, nthA, List.cons_append, List.nil_append] at hC12
            refine wl_call cal_7 rfl (read_sp hC12 nm at_ (s.length : Int) (by omega) (by omega)) rfl ?_
            rintro e w12 ⟨_, rfl, rfl, hS12⟩; refine ⟨_, rfl, ?_⟩
            replace hS12 := hS12.join rfl; dsimp only [List.dropLast, List.cons_append, List.nil_append] at hS12; clear hC12
            clear hS11
            rw [show (max (s.length : Int) 0).toNat = s.length by omega]
            refine wl_assign rfl rfl ?_
            refine wl_nil ?_
            refine qs_seq ?_
            refine wc_sub (L' := [(13, _), (12, _), (11, _), (10, _), (9, _), (8, _), (1, _), (2, _), (3, _)]) (.cons rfl (.cons rfl (.cons rfl (.cons rfl (.cons rfl (.cons rfl (.cons rfl (.cons rfl (.cons rfl .nil))))))))) ?_
            refine wc_seq ?_
            refine wc_seq ?_
            refine wc_region ?_
            refine wl_move rfl rfl ?_
            refine wl_lenS Try.underlying9 rfl rfl ?_
            refine wl_move rfl rfl ?_
            refine wl_lenS Try.underlying9 rfl rfl ?_
            refine wl_neq rfl rfl rfl ?_
            refine wl_move rfl rfl ?_
            refine wl_splitD 81 rfl (fun h13 => ?_) (fun h13 => ?_)
            · skip
              exact absurd h13 (by rw [readB_len]; simp)
            · skip
              refine wl_guard rfl rfl (decide_eq_false h13) ?_
              refine wl_move rfl rfl ?_
              refine wl_guard rfl rfl (decide_eq_false h13) ?_
              refine wl_makeIface nif_24 rfl rfl ?_
              refine wl_guard rfl rfl (decide_eq_false h13) ?_
              refine wl_move rfl rfl ?_
              refine wl_guard rfl rfl (decide_eq_false h13) ?_
              refine wl_move rfl rfl ?_
              refine wl_guard rfl rfl (decide_eq_false h13) ?_
              refine wl_sub' rfl rfl (by omega) (by omega) rfl ?_
              refine wl_guard rfl rfl (decide_eq_false h13) ?_
              have hC14 := hS12.split [0] [true, false] rfl; dsimp only [selF, pickA, nthA, List.cons_append, List.nil_append] at hC14
              refine wl_call cal_7 rfl (read_sp hC14 nm (at_ - 100) 100 (by omega) (by omega)) rfl ?_
              rintro e w14 ⟨_, rfl, rfl, hS14⟩; refine ⟨_, rfl, ?_⟩
              replace hS14 := hS14.join rfl; dsimp only [List.dropLast, List.cons_append, List.nil_append] at hS14; clear hC14
              clear hS12
              refine wl_guard rfl rfl (decide_eq_false h13) ?_
              refine wl_move rfl rfl ?_
              refine wl_guard rfl rfl (decide_eq_false h13) ?_
              refine wl_neqS rfl rfl rfl ?_
              refine wl_pickF rfl (decide_eq_false h13) rfl rfl ?_
              refine wl_move rfl rfl ?_
              refine wl_splitD 91 rfl (fun h15 => ?_) (fun h15 => ?_)
              · skip
                exact absurd h15 (by simp; exact readB_same fun j g1 g2 => by rw [byteW_write nm nm j s _ at_ hok, if_neg (by rintro ⟨_, g⟩; omega)])
              · skip
                refine wl_guard rfl rfl (decide_eq_false h15) ?_
                refine wl_move rfl rfl ?_
                refine wl_guard rfl rfl (decide_eq_false h15) ?_
                refine wl_makeIface nif_24 rfl rfl ?_
                refine wl_guard rfl rfl (decide_eq_false h15) ?_
                refine wl_move rfl rfl ?_
                refine wl_guard rfl rfl (decide_eq_false h15) ?_
                refine wl_move rfl rfl ?_
                refine wl_guard rfl rfl (decide_eq_false h15) ?_
                refine wl_move rfl rfl ?_
                refine wl_guard rfl rfl (decide_eq_false h15) ?_
                refine wl_lenS Try.underlying9 rfl rfl ?_
                refine wl_guard rfl rfl (decide_eq_false h15) ?_
                refine wl_add rfl rfl (by omega) (by omega) rfl ?_
                refine wl_guard rfl rfl (decide_eq_false h15) ?_
                have hC16 := hS14.split [0] [true, false] rfl; dsimp only [selF, pickA, nthA, List.cons_append, List.nil_append] at hC16
                refine wl_call cal_7 rfl (read_sp hC16 nm (at_ + (s.length : Int)) 100 (by omega) (by omega)) rfl ?_
                rintro e w16 ⟨_, rfl, rfl, hS16⟩; refine ⟨_, rfl, ?_⟩
                replace hS16 := hS16.join rfl; dsimp only [List.dropLast, List.cons_append, List.nil_append] at hS16; clear hC16
                clear hS14
                refine wl_guard rfl rfl (decide_eq_false h15) ?_
                refine wl_move rfl rfl ?_
                refine wl_guard rfl rfl (decide_eq_false h15) ?_
                refine wl_neqS rfl rfl rfl ?_
                refine wl_pickF rfl (decide_eq_false h15) rfl rfl ?_
                refine wl_nil ?_
                refine qs_seq ?_
                refine wc_sub (L' := [(102, _), (13, _), (10, _), (9, _), (8, _), (1, _), (2, _), (3, _)]) (.cons rfl (.cons rfl (.cons rfl (.cons rfl (.cons rfl (.cons rfl (.cons rfl (.cons rfl .nil)))))))) ?_
                refine wc_condD rfl (fun h17 => ?_) (fun h17 => ?_)
                · skip
                  exact absurd h17 (by simp; exact readB_same fun j g1 g2 => by rw [byteW_write nm nm j s _ at_ hok, if_neg (by rintro ⟨_, g⟩; omega)])
                · skip
                  refine wc_skip ?_
                  refine qs_seq ?_
                  refine wc_seq ?_
                  refine wc_seq ?_
                  refine wc_region ?_
                  refine wl_assign rfl rfl ?_
                  refine wl_nil ?_
                  refine qs_seq ?_
                  refine wc_block ?_
                  refine wc_loop (fun K0 E0 W0 => ∃ (i : Nat), K0 = s.length - i ∧ E0 = [(2, intV at_), (3, strV s), (9, .bool true), (10, ptrV p 0), (13, strV (readB (writeS (playedW l) nm at_ s) nm at_ s.length)), (14, intV (i : Int)), (1, strV nm)] ∧ Sat W0 [worldT p (writeS (playedW l) nm at_ s), F] ∧ (i ≤ s.length)) (L0 := [(2, _), (3, _), (9, _), (10, _), (13, _), (14, _), (1, _)]) (s.length - 0) (.cons rfl (.cons rfl (.cons rfl (.cons rfl (.cons rfl (.cons rfl (.cons rfl .nil))))))) ⟨0, rfl, rfl, hS16, by omega⟩ ?_
                  rintro _ _ w18 ⟨i, rfl, rfl, hS18, hi⟩
                  refine wc_seq ?_
                  refine wc_seq ?_
                  refine wc_region ?_
                  refine wl_move rfl rfl ?_
                  refine wl_move rfl rfl ?_
                  refine wl_lenS Try.underlying9 rfl rfl ?_
                  refine wl_lss rfl rfl rfl ?_
                  refine wl_nil ?_
                  refine qs_seq ?_
                  refine wc_sub (L' := [(106, _), (2, _), (3, _), (9, _), (10, _), (13, _), (14, _), (1, _)]) (.cons rfl (.cons rfl (.cons rfl (.cons rfl (.cons rfl (.cons rfl (.cons rfl (.cons rfl .nil)))))))) ?_
                  refine wc_condD rfl (fun h19 => ?_) (fun h19 => ?_)
                  · skip
                    obtain ⟨cs, hcs⟩ : ∃ c, s[i]? = some c := ⟨_, List.getElem?_eq_getElem (by omega)⟩
                    have hcg := readB_get (writeS (playedW l) nm at_ s) nm at_ (k := s.length) (i := i) (by omega)
                    have hbw := byteW_write nm nm (at_ + (i : Int)) s (playedW l) at_ hok
                    have hin : 0 ≤ at_ + (i : Int) → at_ + (i : Int) < 16384 → byteW (writeS (playedW l) nm at_ s) nm (at_ + (i : Int)) = cs := by intro g1 g2; rw [hbw, if_pos ⟨rfl, by omega, by omega, g1, g2⟩, show (at_ + (i : Int) - at_).toNat = i by omega]; simp [List.getD, hcs]
                    have hout : ¬ (0 ≤ at_ + (i : Int) ∧ at_ + (i : Int) < 16384) → byteW (writeS (playedW l) nm at_ s) nm (at_ + (i : Int)) = 0 := by intro g; unfold byteW; rw [if_neg g]
                    clear hbw
                    refine wc_skip ?_
                    refine qs_seq ?_
                    refine wc_seq ?_
                    refine wc_block ?_
                    refine wc_seq ?_
                    refine wc_region ?_
                    refine wl_move rfl rfl ?_
                    refine wl_move rfl rfl ?_
                    refine wl_add rfl rfl (by omega) (by omega) rfl ?_
                    refine wl_geq rfl rfl rfl ?_
                    refine wl_move rfl rfl ?_
                    refine wl_splitD 113 rfl (fun h20 => ?_) (fun h20 => ?_)
                    · skip
                      refine wl_guard rfl rfl (decide_eq_true h20) ?_
                      refine wl_move rfl rfl ?_
                      refine wl_guard rfl rfl (decide_eq_true h20) ?_
                      refine wl_move rfl rfl ?_
                      refine wl_guard rfl rfl (decide_eq_true h20) ?_
                      refine wl_add rfl rfl (by omega) (by omega) rfl ?_
                      refine wl_guard rfl rfl (decide_eq_true h20) ?_
                      refine wl_lss rfl rfl rfl ?_
                      refine wl_pickT rfl (decide_eq_true h20) rfl rfl ?_
                      refine wl_assign rfl rfl ?_
                      refine wl_nil ?_
                      refine qs_seq ?_
                      refine wc_sub (L' := [(15, _), (2, _), (3, _), (9, _), (10, _), (13, _), (14, _), (1, _)]) (.cons rfl (.cons rfl (.cons rfl (.cons rfl (.cons rfl (.cons rfl (.cons rfl (.cons rfl .nil)))))))) ?_
                      refine wc_seq ?_
                      have hS21 := hS18.drew
                      refine wc_draw [0, 1, 2, 3, 4, 5, 6, 7, 8, 9, 10, 11, 12, 13, 14, 15, 16, 17, 18, 19] [] mix (by kernel_rfl) ?_
                      refine vc_p rfl rfl rfl (fun _ => (ev_move rfl)) ?_
                      refine vc_p rfl rfl rfl (fun _ => (ev_move rfl)) ?_
                      refine vc_splitD 120 rfl (fun h22 => ?_) (fun h22 => ?_)
                      · skip
                        refine vc_p rfl rfl (guard_yes rfl rfl (decide_eq_true h22)) (fun _ => (Ev.gd (ev_move rfl))) ?_
                        refine vc_p rfl rfl (guard_yes rfl rfl (decide_eq_true h22)) (fun _ => (Ev.gd (ev_move rfl))) ?_
                        refine vc_q rfl rfl (guard_yes rfl rfl (decide_eq_true h22)) (Ev.gd (ev_indexS _ Try.underlying9 rfl rfl (by first | rfl | omega) (by first | assumption | rfl))) ?_
                        refine vc_p rfl rfl (guard_yes rfl rfl (decide_eq_true h22)) (fun _ => (Ev.gd (ev_move rfl))) ?_
                        refine vc_p rfl rfl (guard_yes rfl rfl (decide_eq_true h22)) (fun _ => (Ev.gd (ev_move rfl))) ?_
                        refine vc_q rfl rfl (guard_yes rfl rfl (decide_eq_true h22)) (Ev.gd (ev_indexS _ Try.underlying9 rfl rfl (by first | rfl | omega) (by first | assumption | rfl))) ?_
                        refine vc_p rfl rfl (guard_yes rfl rfl (decide_eq_true h22)) (fun _ => (Ev.gd (ev_neq rfl rfl))) ?_
                        refine vc_p rfl rfl rfl (fun _ => (ev_pickT rfl (decide_eq_true h22) rfl)) ?_
                        refine vc_p rfl rfl rfl (fun _ => (ev_move rfl)) ?_
                        refine vc_splitD 129 rfl (fun h23 => ?_) (fun h23 => ?_)
                        · skip
                          first | (have hc1 := hin (by omega) (by omega); rw [hc1] at h23; exact absurd rfl h23) | (have hc1 := hout (by omega); rw [hc1] at h23; exact absurd rfl h23) | simp_all
                        · skip
                          refine vc_p rfl rfl (guard_yes rfl rfl (decide_eq_false h23)) (fun _ => (Ev.gd (ev_move rfl))) ?_
                          refine vc_p rfl rfl (guard_yes rfl rfl (decide_eq_false h23)) (fun _ => (Ev.gd (ev_not rfl))) ?_
                          refine vc_p rfl rfl (guard_yes rfl rfl (decide_eq_false h23)) (fun _ => (Ev.gd (ev_move rfl))) ?_
                          refine vc_split 132 rfl (fun h24 => ?_) (fun h24 => ?_)
                          · skip
                            refine vc_p rfl rfl (guard_yes rfl rfl h24) (fun _ => (Ev.gd (ev_move rfl))) ?_
                            refine vc_p rfl rfl (guard_yes rfl rfl h24) (fun _ => (Ev.gd (ev_move rfl))) ?_
                            refine vc_q rfl rfl (guard_yes rfl rfl h24) (Ev.gd (ev_indexS _ Try.underlying9 rfl rfl (by first | rfl | omega) (by first | assumption | rfl))) ?_
                            refine vc_p rfl rfl (guard_yes rfl rfl h24) (fun _ => (Ev.gd (ev_neq rfl rfl))) ?_
                            refine vc_p rfl rfl (guard_yes rfl rfl (decide_eq_false h23)) (fun _ => (Ev.gd (ev_pickT rfl h24 rfl))) ?_
                            refine vc_p rfl rfl rfl (fun _ => (ev_pickF rfl (decide_eq_false h23) rfl)) ?_
                            refine VC.nil ?_
                            refine qs_seq ?_
                            refine wc_sub (L' := [(138, _), (2, _), (3, _), (9, _), (10, _), (13, _), (14, _), (1, _)]) (.cons rfl (.cons rfl (.cons rfl (.cons rfl (.cons rfl (.cons rfl (.cons rfl (.cons rfl .nil)))))))) ?_
                            refine wc_condD rfl (fun h25 => ?_) (fun h25 => ?_)
                            · skip
                              first | (have hc1 := hin (by omega) (by omega); rw [hc1] at h25; exact absurd rfl h25) | (have hc1 := hout (by omega); rw [hc1] at h25; exact absurd rfl h25) | simp_all
                            · skip
                              refine wc_skip ?_
                              refine qs_block_normal ?_
                              refine qs_seq ?_
                              refine wc_region ?_
                              refine wl_move rfl rfl ?_
                              refine wl_add rfl rfl (by omega) (by omega) rfl ?_
                              refine wl_assign rfl rfl ?_
                              refine wl_nil ?_
                              exact qs_round (L1 := [(2, _), (3, _), (9, .bool true), (10, _), (13, _), (14, intV ((i + 1 : Nat) : Int)), (1, _)]) (.cons rfl (.cons rfl (.cons rfl (.cons rfl (.cons rfl (.cons rfl (.cons rfl .nil))))))) (k1 := s.length - (i + 1)) (by omega) ⟨i + 1, rfl, rfl, hS21, by omega⟩
                          · skip
                            refine vc_not rfl rfl (guard_no rfl rfl h24) ?_
                            refine vc_not rfl rfl (guard_no rfl rfl h24) ?_
                            refine vc_not rfl rfl (guard_no rfl rfl h24) ?_
                            refine vc_not rfl rfl (guard_no rfl rfl h24) ?_
                            refine vc_p rfl rfl (guard_yes rfl rfl (decide_eq_false h23)) (fun _ => (Ev.gd (ev_pickF rfl h24 rfl))) ?_
                            refine vc_p rfl rfl rfl (fun _ => (ev_pickF rfl (decide_eq_false h23) rfl)) ?_
                            refine VC.nil ?_
                            refine qs_seq ?_
                            refine wc_sub (L' := [(138, _), (2, _), (3, _), (9, _), (10, _), (13, _), (14, _), (1, _)]) (.cons rfl (.cons rfl (.cons rfl (.cons rfl (.cons rfl (.cons rfl (.cons rfl (.cons rfl .nil)))))))) ?_
                            refine wc_condF rfl ?_
                            refine wc_skip ?_
                            refine qs_block_normal ?_
                            refine qs_seq ?_
                            refine wc_region ?_
                            refine wl_move rfl rfl ?_
                            refine wl_add rfl rfl (by omega) (by omega) rfl ?_
                            refine wl_assign rfl rfl ?_
                            refine wl_nil ?_
                            exact qs_round (L1 := [(2, _), (3, _), (9, .bool true), (10, _), (13, _), (14, intV ((i + 1 : Nat) : Int)), (1, _)]) (.cons rfl (.cons rfl (.cons rfl (.cons rfl (.cons rfl (.cons rfl (.cons rfl .nil))))))) (k1 := s.length - (i + 1)) (by omega) ⟨i + 1, rfl, rfl, hS21, by omega⟩
                      · skip
                        refine vc_not rfl rfl (guard_no rfl rfl (decide_eq_false h22)) ?_
                        refine vc_not rfl rfl (guard_no rfl rfl (decide_eq_false h22)) ?_
                        refine vc_not rfl rfl (guard_no rfl rfl (decide_eq_false h22)) ?_
                        refine vc_not rfl rfl (guard_no rfl rfl (decide_eq_false h22)) ?_
                        refine vc_not rfl rfl (guard_no rfl rfl (decide_eq_false h22)) ?_
                        refine vc_not rfl rfl (guard_no rfl rfl (decide_eq_false h22)) ?_
                        refine vc_not rfl rfl (guard_no rfl rfl (decide_eq_false h22)) ?_
                        refine vc_p rfl rfl rfl (fun _ => (ev_pickF rfl (decide_eq_false h22) rfl)) ?_
                        refine vc_p rfl rfl rfl (fun _ => (ev_move rfl)) ?_
                        refine vc_p rfl rfl (guard_yes rfl rfl rfl) (fun _ => (Ev.gd (ev_move rfl))) ?_
                        refine vc_p rfl rfl (guard_yes rfl rfl rfl) (fun _ => (Ev.gd (ev_not rfl))) ?_
                        refine vc_p rfl rfl (guard_yes rfl rfl rfl) (fun _ => (Ev.gd (ev_move rfl))) ?_
                        refine vc_split 132 rfl (fun h26 => ?_) (fun h26 => ?_)
                        · skip
                          refine vc_p rfl rfl (guard_yes rfl rfl h26) (fun _ => (Ev.gd (ev_move rfl))) ?_
                          refine vc_p rfl rfl (guard_yes rfl rfl h26) (fun _ => (Ev.gd (ev_move rfl))) ?_
                          refine vc_q rfl rfl (guard_yes rfl rfl h26) (Ev.gd (ev_indexS _ Try.underlying9 rfl rfl (by first | rfl | omega) (by first | assumption | rfl))) ?_
                          refine vc_p rfl rfl (guard_yes rfl rfl h26) (fun _ => (Ev.gd (ev_neq rfl rfl))) ?_
                          refine vc_p rfl rfl (guard_yes rfl rfl rfl) (fun _ => (Ev.gd (ev_pickT rfl h26 rfl))) ?_
                          refine vc_p rfl rfl rfl (fun _ => (ev_pickF rfl rfl rfl)) ?_
                          refine VC.nil ?_
                          refine qs_seq ?_
                          refine wc_sub (L' := [(138, _), (2, _), (3, _), (9, _), (10, _), (13, _), (14, _), (1, _)]) (.cons rfl (.cons rfl (.cons rfl (.cons rfl (.cons rfl (.cons rfl (.cons rfl (.cons rfl .nil)))))))) ?_
                          refine wc_condD rfl (fun h27 => ?_) (fun h27 => ?_)
                          · skip
                            first | (have hc1 := hin (by omega) (by omega); rw [hc1] at h27; exact absurd rfl h27) | (have hc1 := hout (by omega); rw [hc1] at h27; exact absurd rfl h27) | simp_all
                          · skip
                            refine wc_skip ?_
                            refine qs_block_normal ?_
                            refine qs_seq ?_
                            refine wc_region ?_
                            refine wl_move rfl rfl ?_
                            refine wl_add rfl rfl (by omega) (by omega) rfl ?_
                            refine wl_assign rfl rfl ?_
                            refine wl_nil ?_
                            exact qs_round (L1 := [(2, _), (3, _), (9, .bool true), (10, _), (13, _), (14, intV ((i + 1 : Nat) : Int)), (1, _)]) (.cons rfl (.cons rfl (.cons rfl (.cons rfl (.cons rfl (.cons rfl (.cons rfl .nil))))))) (k1 := s.length - (i + 1)) (by omega) ⟨i + 1, rfl, rfl, hS21, by omega⟩
                        · skip
                          refine vc_not rfl rfl (guard_no rfl rfl h26) ?_
                          refine vc_not rfl rfl (guard_no rfl rfl h26) ?_
                          refine vc_not rfl rfl (guard_no rfl rfl h26) ?_
                          refine vc_not rfl rfl (guard_no rfl rfl h26) ?_
                          refine vc_p rfl rfl (guard_yes rfl rfl rfl) (fun _ => (Ev.gd (ev_pickF rfl h26 rfl))) ?_
                          refine vc_p rfl rfl rfl (fun _ => (ev_pickF rfl rfl rfl)) ?_
                          refine VC.nil ?_
                          refine qs_seq ?_
                          refine wc_sub (L' := [(138, _), (2, _), (3, _), (9, _), (10, _), (13, _), (14, _), (1, _)]) (.cons rfl (.cons rfl (.cons rfl (.cons rfl (.cons rfl (.cons rfl (.cons rfl (.cons rfl .nil)))))))) ?_
                          refine wc_condF rfl ?_
                          refine wc_skip ?_
                          refine qs_block_normal ?_
                          refine qs_seq ?_
                          refine wc_region ?_
                          refine wl_move rfl rfl ?_
                          refine wl_add rfl rfl (by omega) (by omega) rfl ?_
                          refine wl_assign rfl rfl ?_
                          refine wl_nil ?_
                          exact qs_round (L1 := [(2, _), (3, _), (9, .bool true), (10, _), (13, _), (14, intV ((i + 1 : Nat) : Int)), (1, _)]) (.cons rfl (.cons rfl (.cons rfl (.cons rfl (.cons rfl (.cons rfl (.cons rfl .nil))))))) (k1 := s.length - (i + 1)) (by omega) ⟨i + 1, rfl, rfl, hS21, by omega⟩
                    · skip
                      refine wl_unwanted rfl rfl (decide_eq_false h20) rfl ?_
                      refine wl_unwanted rfl rfl (decide_eq_false h20) rfl ?_
                      refine wl_unwanted rfl rfl (decide_eq_false h20) rfl ?_
                      refine wl_unwanted rfl rfl (decide_eq_false h20) rfl ?_
                      refine wl_pickF rfl (decide_eq_false h20) rfl rfl ?_
                      refine wl_assign rfl rfl ?_
                      refine wl_nil ?_
                      refine qs_seq ?_
                      refine wc_sub (L' := [(15, _), (2, _), (3, _), (9, _), (10, _), (13, _), (14, _), (1, _)]) (.cons rfl (.cons rfl (.cons rfl (.cons rfl (.cons rfl (.cons rfl (.cons rfl (.cons rfl .nil)))))))) ?_
                      refine wc_seq ?_
                      have hS28 := hS18.drew
                      refine wc_draw [0, 1, 2, 3, 4, 5, 6, 7, 8, 9, 10, 11, 12, 13, 14, 15, 16, 17, 18, 19] [] mix (by kernel_rfl) ?_
                      refine vc_p rfl rfl rfl (fun _ => (ev_move rfl)) ?_
                      refine vc_p rfl rfl rfl (fun _ => (ev_move rfl)) ?_
                      refine vc_not rfl rfl (guard_no rfl rfl rfl) ?_
                      refine vc_not rfl rfl (guard_no rfl rfl rfl) ?_
                      refine vc_not rfl rfl (guard_no rfl rfl rfl) ?_
                      refine vc_not rfl rfl (guard_no rfl rfl rfl) ?_
                      refine vc_not rfl rfl (guard_no rfl rfl rfl) ?_
                      refine vc_not rfl rfl (guard_no rfl rfl rfl) ?_
                      refine vc_not rfl rfl (guard_no rfl rfl rfl) ?_
                      refine vc_p rfl rfl rfl (fun _ => (ev_pickF rfl rfl rfl)) ?_
                      refine vc_p rfl rfl rfl (fun _ => (ev_move rfl)) ?_
                      refine vc_p rfl rfl (guard_yes rfl rfl rfl) (fun _ => (Ev.gd (ev_move rfl))) ?_
                      refine vc_p rfl rfl (guard_yes rfl rfl rfl) (fun _ => (Ev.gd (ev_not rfl))) ?_
                      refine vc_p rfl rfl (guard_yes rfl rfl rfl) (fun _ => (Ev.gd (ev_move rfl))) ?_
                      refine vc_p rfl rfl (guard_yes rfl rfl rfl) (fun _ => (Ev.gd (ev_move rfl))) ?_
                      refine vc_p rfl rfl (guard_yes rfl rfl rfl) (fun _ => (Ev.gd (ev_move rfl))) ?_
                      refine vc_q rfl rfl (guard_yes rfl rfl rfl) (Ev.gd (ev_indexS _ Try.underlying9 rfl rfl (by first | rfl | omega) (by first | assumption | rfl))) ?_
                      refine vc_p rfl rfl (guard_yes rfl rfl rfl) (fun _ => (Ev.gd (ev_neq rfl rfl))) ?_
                      refine vc_p rfl rfl (guard_yes rfl rfl rfl) (fun _ => (Ev.gd (ev_pickT rfl rfl rfl))) ?_
                      refine vc_p rfl rfl rfl (fun _ => (ev_pickF rfl rfl rfl)) ?_
                      refine VC.nil ?_
                      refine qs_seq ?_
                      refine wc_sub (L' := [(138, _), (2, _), (3, _), (9, _), (10, _), (13, _), (14, _), (1, _)]) (.cons rfl (.cons rfl (.cons rfl (.cons rfl (.cons rfl (.cons rfl (.cons rfl (.cons rfl .nil)))))))) ?_
                      refine wc_condD rfl (fun h29 => ?_) (fun h29 => ?_)
                      · skip
                        first | (have hc1 := hin (by omega) (by omega); rw [hc1] at h29; exact absurd rfl h29) | (have hc1 := hout (by omega); rw [hc1] at h29; exact absurd rfl h29) | simp_all
                      · skip
                        refine wc_skip ?_
                        refine qs_block_normal ?_
                        refine qs_seq ?_
                        refine wc_region ?_
                        refine wl_move rfl rfl ?_
                        refine wl_add rfl rfl (by omega) (by omega) rfl ?_
                        refine wl_assign rfl rfl ?_
                        refine wl_nil ?_
                        exact qs_round (L1 := [(2, _), (3, _), (9, .bool true), (10, _), (13, _), (14, intV ((i + 1 : Nat) : Int)), (1, _)]) (.cons rfl (.cons rfl (.cons rfl (.cons rfl (.cons rfl (.cons rfl (.cons rfl .nil))))))) (k1 := s.length - (i + 1)) (by omega) ⟨i + 1, rfl, rfl, hS28, by omega⟩
                  · skip
                    refine wc_exit ?_
                    refine qs_then_exit ?_
                    refine qs_then_exit ?_
                    refine qs_block_exit ?_
                    refine qs_seq ?_
                    refine wc_seq ?_
                    refine wc_region ?_
                    refine wl_move rfl rfl ?_
                    refine wl_move rfl rfl ?_
                    refine wl_guard rfl rfl rfl ?_
                    refine wl_move rfl rfl ?_
                    refine wl_guard rfl rfl rfl ?_
                    refine wl_makeIface nif_24 rfl rfl ?_
                    refine wl_guard rfl rfl rfl ?_
                    refine wl_move rfl rfl ?_
                    refine wl_guard rfl rfl rfl ?_
                    refine wl_move rfl rfl ?_
                    refine wl_guard rfl rfl rfl ?_
                    have hC30 := hS18.split [0] [true, false] rfl; dsimp only [selF, pickA, nthA, List.cons_append, List.nil_append] at hC30
                    refine wl_call cal_7 rfl (read_sp hC30 nm at_ (-1) (by omega) (by omega)) rfl ?_
                    rintro e w30 ⟨_, rfl, rfl, hS30⟩; refine ⟨_, rfl, ?_⟩
                    replace hS30 := hS30.join rfl; dsimp only [List.dropLast, List.cons_append, List.nil_append] at hS30; clear hC30
                    clear hS18
                    refine wl_guard rfl rfl rfl ?_
                    refine wl_eqlS rfl rfl rfl ?_
                    refine wl_pickT rfl rfl rfl rfl ?_
                    refine wl_assign rfl rfl ?_
                    refine wl_nil ?_
                    refine qs_seq ?_
                    refine wc_sub (L' := [(8, _)]) (.cons rfl .nil) ?_
                    refine wc_ret ?_
                    refine fin1 (.inr rfl) rfl rfl ?_
                    exact ⟨_, rfl, by first | rfl | (congr 1; apply decide_eq_true; rfl) | (congr 1), hS30.pick [1] rfl⟩

end Go.Proofs.Ytieelilkkpcmdaa
