/- laws of disk: DiskReads -/
import Derived.Test.YtleaahajkncnpaaDm
namespace Go.Proofs.Ytleaahajkncnpaa
open Go.RowKit M
set_option linter.unusedVariables false
theorem write_un {D : DS} {f a : Int} {s : Bytes} (h : D.armed = 0) : WriteE D f a s = writeE D f a s ∧ WriteD D f a s = writeD D f a s := by
  have hb : endsB D = false := by simp [endsB, h]
  have he : endsD D = D := by simp [endsD, h]
  exact ⟨by rw [WriteE, hb, he]; rfl, by simp only [WriteD, hb, he]; rfl⟩
theorem write_no {D : DS} {f a : Int} {s : Bytes} (h : D.armed = 0) (hn : D.down = true ∨ f < 0 ∨ 15 < f) : WriteE D f a s ≠ 0 := by
  have hm : mayE D f ≠ 0 := by
    unfold mayE; split
    · decide
    · rename_i hd
      rw [if_pos (by rcases hn with h1 | h1; exact absurd h1 hd; omega)]; decide
  rw [(write_un h).1, writeE, if_pos hm]; exact hm
theorem may_up {D : DS} {f : Int} (hd : D.down = false) (h0 : 0 ≤ f) (h1 : f ≤ 15) : mayE D f = 0 := by
  simp [mayE, hd]; omega
theorem write_up {D : DS} {f a : Int} {s : Bytes} (h : D.armed = 0) (hd : D.down = false) (h0 : 0 ≤ f) (h1 : f ≤ 15) (h2 : 0 ≤ a) (h3 : a ≤ 3000) (h4 : (s.length : Int) ≤ 300) :
    WriteE D f a s = 0 ∧ (WriteD D f a s).armed = 0 ∧ (WriteD D f a s).down = false ∧ ((WriteD D f a s).F f).1 = putB (D.F f).1 a.toNat s := by
  have e : writeE D f a s = 0 := by
    rw [writeE, if_neg (by simp [may_up hd h0 h1]), if_neg (by omega), if_neg (by omega)]
  refine ⟨(write_un h).1.trans e, ?_⟩
  rw [(write_un h).2, writeD, if_pos e, addD]
  split
  · rename_i hs; subst hs; exact ⟨h, hd, (putB_nil _ _).symm⟩
  · exact ⟨h, hd, by simp [setF]⟩
theorem read_up {D : DS} {f a n : Int} (hd : D.down = false) (h0 : 0 ≤ f) (h1 : f ≤ 15) (h2 : 0 ≤ a) (h3 : 0 ≤ n) : ReadE D f a n = 0 ∧ ReadS D f a n = ((D.F f).1.drop a.toNat).take n.toNat := by
  have e : ReadE D f a n = 0 := by rw [ReadE, if_neg (by simp [may_up hd h0 h1]), if_neg (by omega)]
  exact ⟨e, by rw [ReadS, if_pos e]⟩
theorem putB_read (B s : Bytes) (a : Nat) : ((putB B a s).drop a).take s.length = s := by
  unfold putB; split
  · rename_i h; subst h; simp
  · have hl : ((B ++ List.replicate (a - B.length) 0).take a).length = a := by simp; omega
    rw [List.append_assoc, List.drop_append_of_le_length (by omega), List.drop_of_length_le (by omega)]
    simp
theorem part_eq (B : Bytes) {a n : Int} (ha : 0 ≤ a) (hn : 0 ≤ n) {P Q : Nat} (hP : min a (B.length : Int) = (P : Int)) (hQ : min a (B.length : Int) + min n ((B.length : Int) - min a (B.length : Int)) = (Q : Int)) : (B.drop a.toNat).take n.toNat = (B.take Q).drop P := by
  rw [List.drop_take]
  by_cases h : a ≤ B.length
  · have : P = a.toNat := by omega
    subst this
    by_cases h2 : n.toNat ≤ Q - a.toNat
    · rw [show Q - a.toNat = n.toNat by omega]
    · rw [List.take_of_length_le (by simp; omega), List.take_of_length_le (by simp; omega)]
  · rw [List.drop_of_length_le (by omega), List.drop_of_length_le (by omega)]; simp
theorem trunc_up {D : DS} {f n : Int} (h : D.armed = 0) (hd : D.down = false) (h0 : 0 ≤ f) (h1 : f ≤ 15) (h2 : 0 ≤ n) (h3 : n ≤ ((D.F f).1.length : Int)) : TruncE D f n = 0 ∧ Held f ((D.F f).1.take n.toNat) (TruncD D f n) := by
  have hl : lateD D = D := by
    rw [lateD_no (by simp [endsB, h])]; simp [endsD, h]
  have e : TruncE D f n = 0 := by rw [TruncE, hl, if_neg (by simp [may_up hd h0 h1]), if_neg (by omega)]
  refine ⟨e, ?_⟩
  rw [TruncD, if_pos e, hl]
  exact ⟨by simp [settleD, setF], fun p hp => by have := (List.mem_filter.1 hp).2; simpa using this⟩
theorem cut_read {D : DS} {f : Int} {s : Bytes} (h : Held f s D) (h0 : 0 ≤ f) (h1 : f ≤ 15) (hl : ((startD (crashD D [])).F f).1.length ≤ 16777216) : ReadE (startD (crashD D [])) f 0 16777216 = 0 ∧ ReadS (startD (crashD D [])) f 0 16777216 = s := by
  have hH : Held f s (startD (crashD D [])) := h.crash []
  obtain ⟨r5, r6⟩ := read_all (may_start (D := crashD D []) ⟨h0, by omega⟩) hl
  exact ⟨r5, by rw [r6, hH.1]⟩
set_option maxRecDepth 100000 in
set_option maxHeartbeats 400000 in
theorem reads_law {w : World} {F : Th} (hS : Sat w [F]) {lv : Value} {l : List ActD} (f at_ : Int) (s : Bytes) (size : Int) (hL : Ent F (ActsRd lv l)) :
    Calls Try.prog 6 #[lv, intV f, intV at_, strV s, intV size] w (Ret fun v w' => v = .bool true ∧ Sat w' [F]) := by
  obtain ⟨ao, cap, rfl, hmax⟩ := (hL.sat hS 0 rfl).shape
  refine calls_enter Try.func6 rfl Try.ntmps6 rfl ?_
  refine wc_seq ?_
  refine wc_region ?_
  refine wl_assign rfl rfl ?_
  refine wl_nil ?_
  refine qs_seq ?_
  refine wc_seq ?_
  refine wc_region ?_
  have hC1 := hS.split [] [false] rfl; dsimp only [selF, pickA, nthA, List.cons_append, List.nil_append] at hC1
  refine wl_call cal_7 rfl (small_sp hC1) rfl ?_
  rintro e w1 ⟨_, rfl, rfl, hS1⟩; refine ⟨_, rfl, ?_⟩
  replace hS1 := hS1.join rfl; dsimp only [List.dropLast, List.cons_append, List.nil_append] at hS1; clear hC1
  refine wl_assign rfl rfl ?_
  refine wl_nil ?_
  refine qs_seq ?_
  refine wc_seq ?_
  refine wc_seq ?_
  refine wc_region ?_
  refine wl_move rfl rfl ?_
  have hC2 := hS1.split [] [false] rfl; dsimp only [selF, pickA, nthA, List.cons_append, List.nil_append] at hC2
  refine wl_call cal_8 rfl (few_sp hC2 (hL.starL 0 rfl)) rfl ?_
  rintro e w2 ⟨_, rfl, rfl, hS2⟩; refine ⟨_, rfl, ?_⟩
  replace hS2 := hS2.join rfl; dsimp only [List.dropLast, List.cons_append, List.nil_append] at hS2; clear hC2
  clear hS1
  refine wl_not rfl rfl ?_
  refine wl_move rfl rfl ?_
  refine wl_split 28 rfl (fun h3 => ?_) (fun h3 => ?_)
  · skip
    refine wl_unwanted rfl rfl h3 rfl ?_
    refine wl_unwanted rfl rfl h3 rfl ?_
    refine wl_unwanted rfl rfl h3 rfl ?_
    refine wl_pickT rfl h3 rfl rfl ?_
    refine wl_move rfl rfl ?_
    refine wl_unwanted rfl rfl rfl rfl ?_
    refine wl_unwanted rfl rfl rfl rfl ?_
    refine wl_pickT rfl rfl rfl rfl ?_
    refine wl_move rfl rfl ?_
    refine wl_unwanted rfl rfl rfl rfl ?_
    refine wl_unwanted rfl rfl rfl rfl ?_
    refine wl_pickT rfl rfl rfl rfl ?_
    refine wl_move rfl rfl ?_
    refine wl_unwanted rfl rfl rfl rfl ?_
    refine wl_unwanted rfl rfl rfl rfl ?_
    refine wl_pickT rfl rfl rfl rfl ?_
    refine wl_nil ?_
    refine qs_seq ?_
    refine wc_sub (L' := [(44, _), (11, _), (10, _), (0, _), (1, _), (2, _), (3, _), (4, _)]) (.cons rfl (.cons rfl (.cons rfl (.cons rfl (.cons rfl (.cons rfl (.cons rfl (.cons rfl .nil)))))))) ?_
    refine wc_condT rfl ?_
    refine wc_seq ?_
    refine wc_region ?_
    refine wl_move rfl rfl ?_
    refine wl_assign rfl rfl ?_
    refine wl_nil ?_
    refine qs_seq ?_
    refine wc_ret ?_
    refine qs_then_ret ?_
    refine fin1 (.inr rfl) rfl rfl ?_
    exact ⟨_, rfl, rfl, hS2⟩
  · skip
    have hf1 : fewB l = true := by simpa using h3
    refine wl_guard rfl rfl h3 ?_
    refine wl_move rfl rfl ?_
    refine wl_guard rfl rfl h3 ?_
    refine wl_lenS Try.underlying9 rfl rfl ?_
    refine wl_guard rfl rfl h3 ?_
    refine wl_gtr rfl rfl rfl ?_
    refine wl_pickF rfl h3 rfl rfl ?_
    refine wl_move rfl rfl ?_
    refine wl_splitD 33 rfl (fun h4 => ?_) (fun h4 => ?_)
    · skip
      refine wl_unwanted rfl rfl (decide_eq_true h4) rfl ?_
      refine wl_unwanted rfl rfl (decide_eq_true h4) rfl ?_
      refine wl_pickT rfl (decide_eq_true h4) rfl rfl ?_
      refine wl_move rfl rfl ?_
      refine wl_unwanted rfl rfl rfl rfl ?_
      refine wl_unwanted rfl rfl rfl rfl ?_
      refine wl_pickT rfl rfl rfl rfl ?_
      refine wl_move rfl rfl ?_
      refine wl_unwanted rfl rfl rfl rfl ?_
      refine wl_unwanted rfl rfl rfl rfl ?_
      refine wl_pickT rfl rfl rfl rfl ?_
      refine wl_nil ?_
      refine qs_seq ?_
      refine wc_sub (L' := [(44, _), (11, _), (10, _), (0, _), (1, _), (2, _), (3, _), (4, _)]) (.cons rfl (.cons rfl (.cons rfl (.cons rfl (.cons rfl (.cons rfl (.cons rfl (.cons rfl .nil)))))))) ?_
      refine wc_condT rfl ?_
      refine wc_seq ?_
      refine wc_region ?_
      refine wl_move rfl rfl ?_
      refine wl_assign rfl rfl ?_
      refine wl_nil ?_
      refine qs_seq ?_
      refine wc_ret ?_
      refine qs_then_ret ?_
      refine fin1 (.inr rfl) rfl rfl ?_
      exact ⟨_, rfl, rfl, hS2⟩
    · skip
      refine wl_guard rfl rfl (decide_eq_false h4) ?_
      refine wl_move rfl rfl ?_
      refine wl_guard rfl rfl (decide_eq_false h4) ?_
      refine wl_lss rfl rfl rfl ?_
      refine wl_pickF rfl (decide_eq_false h4) rfl rfl ?_
      refine wl_move rfl rfl ?_
      refine wl_splitD 37 rfl (fun h5 => ?_) (fun h5 => ?_)
      · skip
        refine wl_unwanted rfl rfl (decide_eq_true h5) rfl ?_
        refine wl_unwanted rfl rfl (decide_eq_true h5) rfl ?_
        refine wl_pickT rfl (decide_eq_true h5) rfl rfl ?_
        refine wl_move rfl rfl ?_
        refine wl_unwanted rfl rfl rfl rfl ?_
        refine wl_unwanted rfl rfl rfl rfl ?_
        refine wl_pickT rfl rfl rfl rfl ?_
        refine wl_nil ?_
        refine qs_seq ?_
        refine wc_sub (L' := [(44, _), (11, _), (10, _), (0, _), (1, _), (2, _), (3, _), (4, _)]) (.cons rfl (.cons rfl (.cons rfl (.cons rfl (.cons rfl (.cons rfl (.cons rfl (.cons rfl .nil)))))))) ?_
        refine wc_condT rfl ?_
        refine wc_seq ?_
        refine wc_region ?_
        refine wl_move rfl rfl ?_
        refine wl_assign rfl rfl ?_
        refine wl_nil ?_
        refine qs_seq ?_
        refine wc_ret ?_
        refine qs_then_ret ?_
        refine fin1 (.inr rfl) rfl rfl ?_
        exact ⟨_, rfl, rfl, hS2⟩
      · skip
        refine wl_guard rfl rfl (decide_eq_false h5) ?_
        refine wl_move rfl rfl ?_
        refine wl_guard rfl rfl (decide_eq_false h5) ?_
        refine wl_gtr rfl rfl rfl ?_
        refine wl_pickF rfl (decide_eq_false h5) rfl rfl ?_
        refine wl_move rfl rfl ?_
        refine wl_splitD 41 rfl (fun h6 => ?_) (fun h6 => ?_)
        · skip
          refine wl_unwanted rfl rfl (decide_eq_true h6) rfl ?_
          refine wl_unwanted rfl rfl (decide_eq_true h6) rfl ?_
          refine wl_pickT rfl (decide_eq_true h6) rfl rfl ?_
          refine wl_nil ?_
          refine qs_seq ?_
          refine wc_sub (L' := [(44, _), (11, _), (10, _), (0, _), (1, _), (2, _), (3, _), (4, _)]) (.cons rfl (.cons rfl (.cons rfl (.cons rfl (.cons rfl (.cons rfl (.cons rfl (.cons rfl .nil)))))))) ?_
          refine wc_condT rfl ?_
          refine wc_seq ?_
          refine wc_region ?_
          refine wl_move rfl rfl ?_
          refine wl_assign rfl rfl ?_
          refine wl_nil ?_
          refine qs_seq ?_
          refine wc_ret ?_
          refine qs_then_ret ?_
          refine fin1 (.inr rfl) rfl rfl ?_
          exact ⟨_, rfl, rfl, hS2⟩
        · skip
          refine wl_guard rfl rfl (decide_eq_false h6) ?_
          refine wl_move rfl rfl ?_
          refine wl_guard rfl rfl (decide_eq_false h6) ?_
          refine wl_lss rfl rfl rfl ?_
          refine wl_pickF rfl (decide_eq_false h6) rfl rfl ?_
          refine wl_nil ?_
          refine qs_seq ?_
          refine wc_sub (L' := [(44, _), (11, _), (10, _), (0, _), (1, _), (2, _), (3, _), (4, _)]) (.cons rfl (.cons rfl (.cons rfl (.cons rfl (.cons rfl (.cons rfl (.cons rfl (.cons rfl .nil)))))))) ?_
          refine wc_condD rfl (fun h7 => ?_) (fun h7 => ?_)
          · skip
            refine wc_seq ?_
            refine wc_region ?_
            refine wl_move rfl rfl ?_
            refine wl_assign rfl rfl ?_
            refine wl_nil ?_
            refine qs_seq ?_
            refine wc_ret ?_
            refine qs_then_ret ?_
            refine fin1 (.inr rfl) rfl rfl ?_
            exact ⟨_, rfl, rfl, hS2⟩
          · skip
            refine wc_skip ?_
            refine qs_seq ?_
            refine wc_seq ?_
            refine wc_region ?_
            refine wl_move rfl rfl ?_
            have hC8 := hS2.split [] [false] rfl; dsimp only [selF, pickA, nthA, List.cons_append, List.nil_append] at hC8
            refine wl_call cal_21 rfl (played_sp hC8 (hL.starL 0 rfl) hf1) rfl ?_
            rintro e w8 ⟨_, rfl, p, rfl, hS8⟩; refine ⟨_, rfl, ?_⟩
            replace hS8 := hS8.join rfl; dsimp only [List.dropLast, List.cons_append, List.nil_append] at hS8; clear hC8
            clear hS2
            refine wl_assign rfl rfl ?_
            refine wl_nil ?_
            refine qs_seq ?_
            refine wc_sub (L' := [(12, _), (11, _), (10, _), (1, _), (2, _), (3, _), (4, _)]) (.cons rfl (.cons rfl (.cons rfl (.cons rfl (.cons rfl (.cons rfl (.cons rfl .nil))))))) ?_
            refine wc_seq ?_
            refine wc_seq ?_
            refine wc_region ?_
            refine wl_move rfl rfl ?_
            refine wl_eqlNil Try.underlying25 rfl rfl rfl ?_
            refine wl_nil ?_
            refine qs_seq ?_
            refine wc_condF rfl ?_
            refine wc_skip ?_
            refine qs_seq ?_
            refine wc_seq ?_
            refine wc_region ?_
            refine wl_move rfl rfl ?_
            have hC9 := hS8.split [0] [true, false] rfl; dsimp only [selF, pickA, nthA, List.cons_append, List.nil_append] at hC9
            refine wl_call cal_24 rfl (armT hC9 0 (by omega) (ks := []) (fun _ => RdI_nil _) (by simp)) rfl ?_
            rintro e w9 ⟨_, rfl, rfl, hS9⟩; refine ⟨_, rfl, ?_⟩
            replace hS9 := hS9.join rfl; dsimp only [List.dropLast, List.cons_append, List.nil_append] at hS9; clear hC9
            clear hS8
            refine wl_nil ?_
            have ha1 : (armD (plays newD l) 0 []).armed = 0 := rfl
            generalize armD (plays newD l) 0 [] = D1 at hS9 ha1
            refine qs_seq ?_
            refine wc_sub (L' := [(12, _), (11, _), (10, _), (1, _), (2, _), (3, _), (4, _)]) (.cons rfl (.cons rfl (.cons rfl (.cons rfl (.cons rfl (.cons rfl (.cons rfl .nil))))))) ?_
            refine wc_seq ?_
            refine wc_seq ?_
            refine wc_region ?_
            refine wl_move rfl rfl ?_
            have hC10 := hS9.split [0] [true, false] rfl; dsimp only [selF, pickA, nthA, List.cons_append, List.nil_append] at hC10
            refine wl_call cal_13 rfl (downT hC10) rfl ?_
            rintro e w10 ⟨_, rfl, rfl, hS10⟩; refine ⟨_, rfl, ?_⟩
            replace hS10 := hS10.join rfl; dsimp only [List.dropLast, List.cons_append, List.nil_append] at hS10; clear hC10
            clear hS9
            refine wl_move rfl rfl ?_
            refine wl_split 54 rfl (fun h11 => ?_) (fun h11 => ?_)
            · skip
              refine wl_unwanted rfl rfl h11 rfl ?_
              refine wl_unwanted rfl rfl h11 rfl ?_
              refine wl_pickT rfl h11 rfl rfl ?_
              refine wl_move rfl rfl ?_
              refine wl_unwanted rfl rfl rfl rfl ?_
              refine wl_unwanted rfl rfl rfl rfl ?_
              refine wl_pickT rfl rfl rfl rfl ?_
              refine wl_nil ?_
              refine qs_seq ?_
              refine wc_sub (L' := [(61, _), (12, _), (11, _), (10, _), (1, _), (2, _), (3, _), (4, _)]) (.cons rfl (.cons rfl (.cons rfl (.cons rfl (.cons rfl (.cons rfl (.cons rfl (.cons rfl .nil)))))))) ?_
              refine wc_condT rfl ?_
              refine wc_seq ?_
              refine wc_region ?_
              refine wl_move rfl rfl ?_
              refine wl_move rfl rfl ?_
              refine wl_guard rfl rfl rfl ?_
              refine wl_move rfl rfl ?_
              refine wl_guard rfl rfl rfl ?_
              refine wl_move rfl rfl ?_
              refine wl_guard rfl rfl rfl ?_
              refine wl_move rfl rfl ?_
              refine wl_guard rfl rfl rfl ?_
              refine wl_move rfl rfl ?_
              refine wl_guard rfl rfl rfl ?_
              have hC12 := hS10.split [0] [true, false] rfl; dsimp only [selF, pickA, nthA, List.cons_append, List.nil_append] at hC12
              refine wl_call cal_26 rfl (writeT hC12 f at_ s) rfl ?_
              rintro e w12 ⟨_, rfl, rfl, hS12⟩; refine ⟨_, rfl, ?_⟩
              replace hS12 := hS12.join rfl; dsimp only [List.dropLast, List.cons_append, List.nil_append] at hS12; clear hC12
              clear hS10
              refine wl_guard rfl rfl rfl ?_
              refine wl_neq rfl rfl rfl ?_
              refine wl_pickT rfl rfl rfl rfl ?_
              refine wl_assign rfl rfl ?_
              refine wl_nil ?_
              refine qs_seq ?_
              refine wc_sub (L' := [(10, _), (12, _), (11, _), (1, _), (2, _), (3, _), (4, _)]) (.cons rfl (.cons rfl (.cons rfl (.cons rfl (.cons rfl (.cons rfl (.cons rfl .nil))))))) ?_
              refine wc_ret ?_
              refine qs_then_ret ?_
              refine fin1 (.inr rfl) rfl rfl ?_
              exact ⟨_, rfl, congrArg Value.bool (decide_eq_true (write_no ha1 (by first | exact .inl (by assumption) | exact .inr (by omega)))), hS12.tail⟩
            · skip
              have hd1 := h11
              refine wl_guard rfl rfl h11 ?_
              refine wl_move rfl rfl ?_
              refine wl_guard rfl rfl h11 ?_
              refine wl_lss rfl rfl rfl ?_
              refine wl_pickF rfl h11 rfl rfl ?_
              refine wl_move rfl rfl ?_
              refine wl_splitD 58 rfl (fun h13 => ?_) (fun h13 => ?_)
              · skip
                refine wl_unwanted rfl rfl (decide_eq_true h13) rfl ?_
                refine wl_unwanted rfl rfl (decide_eq_true h13) rfl ?_
                refine wl_pickT rfl (decide_eq_true h13) rfl rfl ?_
                refine wl_nil ?_
                refine qs_seq ?_
                refine wc_sub (L' := [(61, _), (12, _), (11, _), (10, _), (1, _), (2, _), (3, _), (4, _)]) (.cons rfl (.cons rfl (.cons rfl (.cons rfl (.cons rfl (.cons rfl (.cons rfl (.cons rfl .nil)))))))) ?_
                refine wc_condT rfl ?_
                refine wc_seq ?_
                refine wc_region ?_
                refine wl_move rfl rfl ?_
                refine wl_move rfl rfl ?_
                refine wl_guard rfl rfl rfl ?_
                refine wl_move rfl rfl ?_
                refine wl_guard rfl rfl rfl ?_
                refine wl_move rfl rfl ?_
                refine wl_guard rfl rfl rfl ?_
                refine wl_move rfl rfl ?_
                refine wl_guard rfl rfl rfl ?_
                refine wl_move rfl rfl ?_
                refine wl_guard rfl rfl rfl ?_
                have hC14 := hS10.split [0] [true, false] rfl; dsimp only [selF, pickA, nthA, List.cons_append, List.nil_append] at hC14
                refine wl_call cal_26 rfl (writeT hC14 f at_ s) rfl ?_
                rintro e w14 ⟨_, rfl, rfl, hS14⟩; refine ⟨_, rfl, ?_⟩
                replace hS14 := hS14.join rfl; dsimp only [List.dropLast, List.cons_append, List.nil_append] at hS14; clear hC14
                clear hS10
                refine wl_guard rfl rfl rfl ?_
                refine wl_neq rfl rfl rfl ?_
                refine wl_pickT rfl rfl rfl rfl ?_
                refine wl_assign rfl rfl ?_
                refine wl_nil ?_
                refine qs_seq ?_
                refine wc_sub (L' := [(10, _), (12, _), (11, _), (1, _), (2, _), (3, _), (4, _)]) (.cons rfl (.cons rfl (.cons rfl (.cons rfl (.cons rfl (.cons rfl (.cons rfl .nil))))))) ?_
                refine wc_ret ?_
                refine qs_then_ret ?_
                refine fin1 (.inr rfl) rfl rfl ?_
                exact ⟨_, rfl, congrArg Value.bool (decide_eq_true (write_no ha1 (by first | exact .inl (by assumption) | exact .inr (by omega)))), hS14.tail⟩
              · skip
                refine wl_guard rfl rfl (decide_eq_false h13) ?_
                refine wl_move rfl rfl ?_
                refine wl_guard rfl rfl (decide_eq_false h13) ?_
                refine wl_gtr rfl rfl rfl ?_
                refine wl_pickF rfl (decide_eq_false h13) rfl rfl ?_
                refine wl_nil ?_
                refine qs_seq ?_
                refine wc_sub (L' := [(61, _), (12, _), (11, _), (10, _), (1, _), (2, _), (3, _), (4, _)]) (.cons rfl (.cons rfl (.cons rfl (.cons rfl (.cons rfl (.cons rfl (.cons rfl (.cons rfl .nil)))))))) ?_
                refine wc_condD rfl (fun h15 => ?_) (fun h15 => ?_)
                · skip
                  refine wc_seq ?_
                  refine wc_region ?_
                  refine wl_move rfl rfl ?_
                  refine wl_move rfl rfl ?_
                  refine wl_guard rfl rfl rfl ?_
                  refine wl_move rfl rfl ?_
                  refine wl_guard rfl rfl rfl ?_
                  refine wl_move rfl rfl ?_
                  refine wl_guard rfl rfl rfl ?_
                  refine wl_move rfl rfl ?_
                  refine wl_guard rfl rfl rfl ?_
                  refine wl_move rfl rfl ?_
                  refine wl_guard rfl rfl rfl ?_
                  have hC16 := hS10.split [0] [true, false] rfl; dsimp only [selF, pickA, nthA, List.cons_append, List.nil_append] at hC16
                  refine wl_call cal_26 rfl (writeT hC16 f at_ s) rfl ?_
                  rintro e w16 ⟨_, rfl, rfl, hS16⟩; refine ⟨_, rfl, ?_⟩
                  replace hS16 := hS16.join rfl; dsimp only [List.dropLast, List.cons_append, List.nil_append] at hS16; clear hC16
                  clear hS10
                  refine wl_guard rfl rfl rfl ?_
                  refine wl_neq rfl rfl rfl ?_
                  refine wl_pickT rfl rfl rfl rfl ?_
                  refine wl_assign rfl rfl ?_
                  refine wl_nil ?_
                  refine qs_seq ?_
                  refine wc_sub (L' := [(10, _), (12, _), (11, _), (1, _), (2, _), (3, _), (4, _)]) (.cons rfl (.cons rfl (.cons rfl (.cons rfl (.cons rfl (.cons rfl (.cons rfl .nil))))))) ?_
                  refine wc_ret ?_
                  refine qs_then_ret ?_
                  refine fin1 (.inr rfl) rfl rfl ?_
                  exact ⟨_, rfl, congrArg Value.bool (decide_eq_true (write_no ha1 (by first | exact .inl (by assumption) | exact .inr (by omega)))), hS16.tail⟩
                · skip
                  obtain ⟨hE, ha2, hd2, hF2⟩ := write_up (s := s) ha1 hd1 (by omega : 0 ≤ f) (by omega) (by omega : (0:Int) ≤ at_) (by omega) (by omega)
                  refine wc_skip ?_
                  refine qs_seq ?_
                  refine wc_seq ?_
                  refine wc_region ?_
                  refine wl_move rfl rfl ?_
                  refine wl_move rfl rfl ?_
                  refine wl_move rfl rfl ?_
                  refine wl_move rfl rfl ?_
                  have hC17 := hS10.split [0] [true, false] rfl; dsimp only [selF, pickA, nthA, List.cons_append, List.nil_append] at hC17
                  refine wl_call cal_26 rfl (writeT hC17 f at_ s) rfl ?_
                  rintro e w17 ⟨_, rfl, hv17, hS17⟩; refine ⟨_, rfl, ?_⟩
                  replace hS17 := hS17.join rfl; dsimp only [List.dropLast, List.cons_append, List.nil_append] at hS17; clear hC17
                  clear hS10
                  replace hv17 := hv17.trans (congrArg intV hE); subst hv17
                  refine wl_assign rfl rfl ?_
                  refine wl_nil ?_
                  generalize WriteD D1 f at_ s = D2 at hS17 ha2 hd2 hF2
                  refine qs_seq ?_
                  refine wc_sub (L' := [(13, _), (12, _), (11, _), (10, _), (1, _), (2, _), (3, _), (4, _)]) (.cons rfl (.cons rfl (.cons rfl (.cons rfl (.cons rfl (.cons rfl (.cons rfl (.cons rfl .nil)))))))) ?_
                  refine wc_seq ?_
                  have r1 := read_up (f := f) (a := at_) (n := (s.length : Int)) hd2 (by omega) (by omega) (by omega) (by omega)
                  have r2 := read_up (f := f) (a := 0) (n := ((D2.F f).1.length : Int)) hd2 (by omega) (by omega) (by omega) (by omega)
                  have r3 := read_up (f := f) (a := at_) (n := size) hd2 (by omega) (by omega) (by omega) (by omega)
                  have r1s : ReadS D2 f at_ (s.length : Int) = s := by rw [r1.2, hF2]; exact putB_read _ _ _
                  have r2s : ReadS D2 f 0 ((D2.F f).1.length : Int) = (D2.F f).1 := by rw [r2.2]; simp
                  obtain ⟨B, hB⟩ : ∃ x, x = (D2.F f).1 := ⟨_, rfl⟩
                  have hI2 := (dT_inv hS17 0 rfl).now f
                  refine wc_region ?_
                  refine wl_move rfl rfl ?_
                  refine wl_move rfl rfl ?_
                  refine wl_move rfl rfl ?_
                  refine wl_move rfl rfl ?_
                  refine wl_lenS Try.underlying9 rfl rfl ?_
                  have hC18 := hS17.split [0] [true, false] rfl; dsimp only [selF, pickA, nthA, List.cons_append, List.nil_append] at hC18
                  refine wl_call cal_19 rfl (readT hC18 f at_ (s.length : Int)) rfl ?_
                  rintro e w18 ⟨_, rfl, hv18, hS18⟩; refine ⟨_, rfl, ?_⟩
                  replace hS18 := hS18.join rfl; dsimp only [List.dropLast, List.cons_append, List.nil_append] at hS18; clear hC18
                  clear hS17
                  replace hv18 := rd_eq hv18 r1s r1.1; subst hv18
                  refine wl_move rfl rfl ?_
                  refine wl_extract rfl rfl rfl ?_
                  refine wl_extract rfl rfl rfl ?_
                  refine wl_assign rfl rfl ?_
                  refine wl_assign rfl rfl ?_
                  refine wl_nil ?_
                  refine qs_seq ?_
                  refine wc_sub (L' := [(15, _), (14, _), (13, _), (12, _), (11, _), (10, _), (1, _), (2, _), (3, _), (4, _)]) (.cons rfl (.cons rfl (.cons rfl (.cons rfl (.cons rfl (.cons rfl (.cons rfl (.cons rfl (.cons rfl (.cons rfl .nil)))))))))) ?_
                  refine wc_seq ?_
                  refine wc_region ?_
                  refine wl_move rfl rfl ?_
                  refine wl_move rfl rfl ?_
                  refine wl_move rfl rfl ?_
                  refine wl_move rfl rfl ?_
                  have hC19 := hS18.split [0] [true, false] rfl; dsimp only [selF, pickA, nthA, List.cons_append, List.nil_append] at hC19
                  refine wl_call cal_15 rfl (sizeT hC19 f) rfl ?_
                  rintro e w19 ⟨_, rfl, rfl, hS19⟩; refine ⟨_, rfl, ?_⟩
                  replace hS19 := hS19.join rfl; dsimp only [List.dropLast, List.cons_append, List.nil_append] at hS19; clear hC19
                  clear hS18
                  have hC20 := hS19.split [0] [true, false] rfl; dsimp only [selF, pickA, nthA, List.cons_append, List.nil_append] at hC20
                  refine wl_call cal_19 rfl (readT hC20 f 0 ((D2.F f).1.length : Int)) rfl ?_
                  rintro e w20 ⟨_, rfl, hv20, hS20⟩; refine ⟨_, rfl, ?_⟩
                  replace hS20 := hS20.join rfl; dsimp only [List.dropLast, List.cons_append, List.nil_append] at hS20; clear hC20
                  clear hS19
                  replace hv20 := rd_eq hv20 (r2s.trans hB.symm) r2.1; subst hv20
                  refine wl_move rfl rfl ?_
                  refine wl_extract rfl rfl rfl ?_
                  refine wl_extract rfl rfl rfl ?_
                  refine wl_assign rfl rfl ?_
                  refine wl_assign rfl rfl ?_
                  refine wl_nil ?_
                  refine qs_seq ?_
                  refine wc_sub (L' := [(17, _), (16, _), (15, _), (14, _), (13, _), (12, _), (11, _), (10, _), (1, _), (2, _), (3, _), (4, _)]) (.cons rfl (.cons rfl (.cons rfl (.cons rfl (.cons rfl (.cons rfl (.cons rfl (.cons rfl (.cons rfl (.cons rfl (.cons rfl (.cons rfl .nil)))))))))))) ?_
                  refine wc_seq ?_
                  refine wc_region ?_
                  refine wl_move rfl rfl ?_
                  refine wl_move rfl rfl ?_
                  refine wl_move rfl rfl ?_
                  refine wl_move rfl rfl ?_
                  have hC21 := hS20.split [0] [true, false] rfl; dsimp only [selF, pickA, nthA, List.cons_append, List.nil_append] at hC21
                  refine wl_call cal_19 rfl (readT hC21 f at_ size) rfl ?_
                  rintro e w21 ⟨_, rfl, hv21, hS21⟩; refine ⟨_, rfl, ?_⟩
                  replace hS21 := hS21.join rfl; dsimp only [List.dropLast, List.cons_append, List.nil_append] at hS21; clear hC21
                  clear hS20
                  replace hv21 := rd_eq hv21 (r3.2.trans (by rw [← hB])) r3.1; subst hv21
                  refine wl_move rfl rfl ?_
                  refine wl_extract rfl rfl rfl ?_
                  refine wl_extract rfl rfl rfl ?_
                  refine wl_assign rfl rfl ?_
                  refine wl_assign rfl rfl ?_
                  refine wl_nil ?_
                  refine qs_seq ?_
                  refine wc_sub (L' := [(19, _), (18, _), (17, _), (16, _), (15, _), (14, _), (13, _), (12, _), (11, _), (10, _), (1, _), (2, _), (3, _), (4, _)]) (.cons rfl (.cons rfl (.cons rfl (.cons rfl (.cons rfl (.cons rfl (.cons rfl (.cons rfl (.cons rfl (.cons rfl (.cons rfl (.cons rfl (.cons rfl (.cons rfl .nil)))))))))))))) ?_
                  refine wc_seq ?_
                  refine wc_seq ?_
                  refine wc_region ?_
                  refine wl_move rfl rfl ?_
                  refine wl_neq rfl rfl rfl ?_
                  refine wl_move rfl rfl ?_
                  refine wl_splitD 104 rfl (fun h22 => ?_) (fun h22 => ?_)
                  · skip
                    exact absurd rfl h22
                  · skip
                    refine wl_guard rfl rfl (decide_eq_false h22) ?_
                    refine wl_move rfl rfl ?_
                    refine wl_guard rfl rfl (decide_eq_false h22) ?_
                    refine wl_neq rfl rfl rfl ?_
                    refine wl_pickF rfl (decide_eq_false h22) rfl rfl ?_
                    refine wl_move rfl rfl ?_
                    refine wl_splitD 108 rfl (fun h23 => ?_) (fun h23 => ?_)
                    · skip
                      exact absurd rfl h23
                    · skip
                      refine wl_guard rfl rfl (decide_eq_false h23) ?_
                      refine wl_move rfl rfl ?_
                      refine wl_guard rfl rfl (decide_eq_false h23) ?_
                      refine wl_neq rfl rfl rfl ?_
                      refine wl_pickF rfl (decide_eq_false h23) rfl rfl ?_
                      refine wl_move rfl rfl ?_
                      refine wl_splitD 112 rfl (fun h24 => ?_) (fun h24 => ?_)
                      · skip
                        exact absurd rfl h24
                      · skip
                        refine wl_guard rfl rfl (decide_eq_false h24) ?_
                        refine wl_move rfl rfl ?_
                        refine wl_guard rfl rfl (decide_eq_false h24) ?_
                        refine wl_neq rfl rfl rfl ?_
                        refine wl_pickF rfl (decide_eq_false h24) rfl rfl ?_
                        refine wl_move rfl rfl ?_
                        refine wl_splitD 116 rfl (fun h25 => ?_) (fun h25 => ?_)
                        · skip
                          exact absurd rfl h25
                        · skip
                          refine wl_guard rfl rfl (decide_eq_false h25) ?_
                          refine wl_move rfl rfl ?_
                          refine wl_guard rfl rfl (decide_eq_false h25) ?_
                          refine wl_move rfl rfl ?_
                          refine wl_guard rfl rfl (decide_eq_false h25) ?_
                          refine wl_neqS rfl rfl rfl ?_
                          refine wl_pickF rfl (decide_eq_false h25) rfl rfl ?_
                          refine wl_move rfl rfl ?_
                          refine wl_splitD 121 rfl (fun h26 => ?_) (fun h26 => ?_)
                          · skip
                            exact absurd rfl h26
                          · skip
                            refine wl_guard rfl rfl (decide_eq_false h26) ?_
                            refine wl_move rfl rfl ?_
                            refine wl_guard rfl rfl (decide_eq_false h26) ?_
                            refine wl_lenS Try.underlying9 rfl rfl ?_
                            refine wl_guard rfl rfl (decide_eq_false h26) ?_
                            refine wl_move rfl rfl ?_
                            refine wl_guard rfl rfl (decide_eq_false h26) ?_
                            refine wl_move rfl rfl ?_
                            refine wl_guard rfl rfl (decide_eq_false h26) ?_
                            have hC27 := hS21.split [0] [true, false] rfl; dsimp only [selF, pickA, nthA, List.cons_append, List.nil_append] at hC27
                            refine wl_call cal_15 rfl (sizeT hC27 f) rfl ?_
                            rintro e w27 ⟨_, rfl, hv27, hS27⟩; refine ⟨_, rfl, ?_⟩
                            replace hS27 := hS27.join rfl; dsimp only [List.dropLast, List.cons_append, List.nil_append] at hS27; clear hC27
                            clear hS21
                            rw [← hB] at hv27; subst hv27
                            refine wl_guard rfl rfl (decide_eq_false h26) ?_
                            refine wl_neq rfl rfl rfl ?_
                            refine wl_pickF rfl (decide_eq_false h26) rfl rfl ?_
                            refine wl_nil ?_
                            refine qs_seq ?_
                            refine wc_sub (L' := [(128, _), (18, _), (16, _), (12, _), (11, _), (10, _), (1, _), (2, _), (4, _)]) (.cons rfl (.cons rfl (.cons rfl (.cons rfl (.cons rfl (.cons rfl (.cons rfl (.cons rfl (.cons rfl .nil))))))))) ?_
                            refine wc_condD rfl (fun h28 => ?_) (fun h28 => ?_)
                            · skip
                              exact absurd rfl h28
                            · skip
                              refine wc_skip ?_
                              refine qs_seq ?_
                              refine wc_seq ?_
                              rw [← hB] at hI2
                              obtain ⟨t1, t2⟩ := trunc_up (n := min at_ (B.length : Int)) ha2 hd2 (by omega : 0 ≤ f) (by omega) (by omega) (by rw [← hB]; omega)
                              refine wc_region ?_
                              refine wl_move rfl rfl ?_
                              refine wl_move rfl rfl ?_
                              refine wl_lenS Try.underlying9 rfl rfl ?_
                              refine wl_minI rfl rfl rfl ?_
                              refine wl_assign rfl rfl ?_
                              refine wl_nil ?_
                              refine qs_seq ?_
                              refine wc_sub (L' := [(20, _), (18, _), (16, _), (12, _), (11, _), (10, _), (1, _), (4, _)]) (.cons rfl (.cons rfl (.cons rfl (.cons rfl (.cons rfl (.cons rfl (.cons rfl (.cons rfl .nil)))))))) ?_
                              refine wc_seq ?_
                              refine wc_seq ?_
                              refine wc_region ?_
                              refine wl_move rfl rfl ?_
                              refine wl_move rfl rfl ?_
                              refine wl_move rfl rfl ?_
                              refine wl_move rfl rfl ?_
                              refine wl_move rfl rfl ?_
                              refine wl_move rfl rfl ?_
                              refine wl_lenS Try.underlying9 rfl rfl ?_
                              refine wl_move rfl rfl ?_
                              refine wl_sub' rfl rfl (by omega) (by omega) rfl ?_
                              refine wl_minI rfl rfl rfl ?_
                              refine wl_add rfl rfl (by omega) (by omega) rfl ?_
                              refine wl_sliceS (min at_ (B.length : Int)).toNat (min at_ (B.length : Int) + min size ((B.length : Int) - min at_ (B.length : Int))).toNat Try.underlying9 rfl (bndS (min at_ (B.length : Int)).toNat _ rfl (by omega)) (bndS (min at_ (B.length : Int) + min size ((B.length : Int) - min at_ (B.length : Int))).toNat _ rfl (by omega)) (by omega) (by omega) rfl ?_
                              refine wl_neqS rfl rfl rfl ?_
                              refine wl_nil ?_
                              refine qs_seq ?_
                              refine wc_sub (L' := [(145, _), (20, _), (16, _), (12, _), (11, _), (10, _), (1, _)]) (.cons rfl (.cons rfl (.cons rfl (.cons rfl (.cons rfl (.cons rfl (.cons rfl .nil))))))) ?_
                              refine wc_condD rfl (fun h29 => ?_) (fun h29 => ?_)
                              · skip
                                exact absurd (part_eq B (by omega) (by omega) (by omega) (by omega)) h29
                              · skip
                                refine wc_skip ?_
                                refine qs_seq ?_
                                refine wc_seq ?_
                                refine wc_region ?_
                                refine wl_move rfl rfl ?_
                                refine wl_move rfl rfl ?_
                                refine wl_move rfl rfl ?_
                                have hC30 := hS27.split [0] [true, false] rfl; dsimp only [selF, pickA, nthA, List.cons_append, List.nil_append] at hC30
                                refine wl_call cal_27 rfl (truncT hC30 f (min at_ (B.length : Int))) rfl ?_
                                rintro e w30 ⟨_, rfl, hv30, hS30⟩; refine ⟨_, rfl, ?_⟩
                                replace hS30 := hS30.join rfl; dsimp only [List.dropLast, List.cons_append, List.nil_append] at hS30; clear hC30
                                clear hS27
                                replace hv30 := hv30.trans (congrArg intV t1); subst hv30
                                refine wl_assign rfl rfl ?_
                                refine wl_nil ?_
                                refine qs_seq ?_
                                refine wc_sub (L' := [(21, _), (20, _), (16, _), (12, _), (11, _), (10, _), (1, _)]) (.cons rfl (.cons rfl (.cons rfl (.cons rfl (.cons rfl (.cons rfl (.cons rfl .nil))))))) ?_
                                refine wc_seq ?_
                                refine wc_region ?_
                                refine wl_move rfl rfl ?_
                                have hC31 := hS30.split [0] [true, false] rfl; dsimp only [selF, pickA, nthA, List.cons_append, List.nil_append] at hC31
                                refine wl_call cal_22 rfl (crashT hC31 (ks := []) (fun _ => RdI_nil _)) rfl ?_
                                rintro e w31 ⟨_, rfl, rfl, hS31⟩; refine ⟨_, rfl, ?_⟩
                                replace hS31 := hS31.join rfl; dsimp only [List.dropLast, List.cons_append, List.nil_append] at hS31; clear hC31
                                clear hS30
                                refine wl_nil ?_
                                refine qs_seq ?_
                                refine wc_seq ?_
                                refine wc_region ?_
                                refine wl_move rfl rfl ?_
                                have hC32 := hS31.split [0] [true, false] rfl; dsimp only [selF, pickA, nthA, List.cons_append, List.nil_append] at hC32
                                refine wl_call cal_23 rfl (startT hC32) rfl ?_
                                rintro e w32 ⟨_, rfl, rfl, hS32⟩; refine ⟨_, rfl, ?_⟩
                                replace hS32 := hS32.join rfl; dsimp only [List.dropLast, List.cons_append, List.nil_append] at hS32; clear hC32
                                clear hS31
                                refine wl_nil ?_
                                obtain ⟨q1, q2⟩ := cut_read t2 (by omega) (by omega) ((dT_inv hS32 0 rfl).now f)
                                rw [← hB] at q2
                                refine qs_seq ?_
                                refine wc_sub (L' := [(21, _), (20, _), (16, _), (12, _), (11, _), (10, _), (1, _)]) (.cons rfl (.cons rfl (.cons rfl (.cons rfl (.cons rfl (.cons rfl (.cons rfl .nil))))))) ?_
                                refine wc_seq ?_
                                refine wc_region ?_
                                refine wl_move rfl rfl ?_
                                refine wl_move rfl rfl ?_
                                have hC33 := hS32.split [0] [true, false] rfl; dsimp only [selF, pickA, nthA, List.cons_append, List.nil_append] at hC33
                                refine wl_call cal_19 rfl (readT hC33 f 0 16777216) rfl ?_
                                rintro e w33 ⟨_, rfl, hv33, hS33⟩; refine ⟨_, rfl, ?_⟩
                                replace hS33 := hS33.join rfl; dsimp only [List.dropLast, List.cons_append, List.nil_append] at hS33; clear hC33
                                clear hS32
                                replace hv33 := rd_eq hv33 q2 q1; subst hv33
                                refine wl_move rfl rfl ?_
                                refine wl_extract rfl rfl rfl ?_
                                refine wl_extract rfl rfl rfl ?_
                                refine wl_assign rfl rfl ?_
                                refine wl_assign rfl rfl ?_
                                refine wl_nil ?_
                                refine qs_seq ?_
                                refine wc_sub (L' := [(23, _), (22, _), (21, _), (20, _), (16, _), (11, _), (10, _)]) (.cons rfl (.cons rfl (.cons rfl (.cons rfl (.cons rfl (.cons rfl (.cons rfl .nil))))))) ?_
                                refine wc_seq ?_
                                refine wc_region ?_
                                refine wl_move rfl rfl ?_
                                refine wl_move rfl rfl ?_
                                refine wl_guard rfl rfl rfl ?_
                                refine wl_move rfl rfl ?_
                                refine wl_guard rfl rfl rfl ?_
                                refine wl_eql rfl rfl rfl ?_
                                refine wl_pickT rfl rfl rfl rfl ?_
                                refine wl_move rfl rfl ?_
                                refine wl_splitD 165 rfl (fun h34 => ?_) (fun h34 => ?_)
                                · skip
                                  refine wl_guard rfl rfl (decide_eq_true h34) ?_
                                  refine wl_move rfl rfl ?_
                                  refine wl_guard rfl rfl (decide_eq_true h34) ?_
                                  refine wl_eql rfl rfl rfl ?_
                                  refine wl_pickT rfl (decide_eq_true h34) rfl rfl ?_
                                  refine wl_move rfl rfl ?_
                                  refine wl_splitD 169 rfl (fun h35 => ?_) (fun h35 => ?_)
                                  · skip
                                    refine wl_guard rfl rfl (decide_eq_true h35) ?_
                                    refine wl_move rfl rfl ?_
                                    refine wl_guard rfl rfl (decide_eq_true h35) ?_
                                    refine wl_move rfl rfl ?_
                                    refine wl_guard rfl rfl (decide_eq_true h35) ?_
                                    refine wl_move rfl rfl ?_
                                    refine wl_guard rfl rfl (decide_eq_true h35) ?_
                                    refine wl_sliceS _ (min at_ (B.length : Int)).toNat Try.underlying9 rfl (bndN _) (bndS (min at_ (B.length : Int)).toNat _ rfl (by omega)) (by omega) (by omega) rfl ?_
                                    refine wl_guard rfl rfl (decide_eq_true h35) ?_
                                    refine wl_eqlS rfl rfl rfl ?_
                                    refine wl_pickT rfl (decide_eq_true h35) rfl rfl ?_
                                    refine wl_assign rfl rfl ?_
                                    refine wl_nil ?_
                                    refine qs_seq ?_
                                    refine wc_sub (L' := [(10, _)]) (.cons rfl .nil) ?_
                                    refine wc_ret ?_
                                    refine fin1 (.inr rfl) rfl rfl ?_
                                    exact ⟨_, rfl, by simp, hS33.tail⟩
                                  · skip
                                    exact absurd rfl h35
                                · skip
                                  exact absurd rfl h34

theorem reads_row {W : World} {v0 : Value} {f a n : Int} {s : ByteArray} {l0 : List (Int × Int × Int × ByteArray × List Int × Unit)} (h0 : SliceRd actC.rd actC.size W v0 l0) (hs : s.size ≤ 9223372036854775807) :
    Calls Try.prog 6 #[v0, .int .i64 f, .int .i64 a, .string s, .int .i64 n] W fun e W' => e = .returned (.bool true) ∧ Below W.heap.size W W' := by
  obtain ⟨a0, h0⟩ := acts_of h0
  have es : Value.string s = strV s.data.toList := by simp [strV]
  rw [es]
  exact (reads_law (Sat.start W) f a s.data.toList n (Ent.frame h0)).mono fun e W' ⟨v, h4, h5, h6⟩ => ⟨by rw [h4, h5], below_of h6⟩
end Go.Proofs.Ytleaahajkncnpaa
