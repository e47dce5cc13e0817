/- the reference of layer 3: Read, Write, settle -/
import Derived.Test.YtleaahajkncnpaaDoorRg
import Derived.Test.YtleaahajkncnpaaDoorDt
namespace Go.Proofs.YtleaahajkncnpaaDoor
open Go.RowKit M
set_option linter.unusedVariables false
theorem readR_ok {D : DS} {f a n : Int} {X : Bytes} (hm : mayE D f = 0) (h1 : 0 ≤ a) (h2 : 0 ≤ n) (h : (((D.F f).1.length : Int) ≤ a ∧ X = []) ∨ ∃ A B : Nat, a = A ∧ a + min n ((D.F f).1.length - a) = B ∧ X = ((D.F f).1.take B).drop A) : Value.tuple #[strV X, intV 0] = .tuple #[strV (ReadS D f a n), intV (ReadE D f a n)] := by
  have e : ReadE D f a n = 0 := by rw [ReadE, if_neg (by omega), if_neg (by omega)]
  rw [e, ReadS, if_pos e]
  have : X = ((D.F f).1.drop a.toNat).take n.toNat := by
    rcases h with ⟨h3, h4⟩ | ⟨A, B, h3, h4, h5⟩
    · rw [h4, List.drop_eq_nil_of_le (by omega)]; simp
    · subst h3
      rw [h5, List.drop_take, Int.toNat_natCast]
      by_cases hc : n ≤ (D.F f).1.length - A
      · rw [show B - A = n.toNat by omega]
      · by_cases hd : (D.F f).1.length ≤ A
        · rw [List.drop_eq_nil_of_le (by omega)]; simp
        · rw [List.take_of_length_le (by simp; omega), List.take_of_length_le (by simp; omega)]
  rw [this]
theorem readR_sp {w : World} {p : Nat} {kp : Value} {D : DS} {F : Th} (hS : Sat w [refT p kp D, F]) (f at_ size : Int) :
    Calls Tryd.prog 32 #[ptrV p 0, intV f, intV at_, intV size] w (Ret fun v w' => v = .tuple #[strV (ReadS D f at_ size), intV (ReadE D f at_ size)] ∧ Sat w' [refT p kp D, F]) := by
  refine calls_enter Tryd.func32 rfl Tryd.ntmps32 rfl ?_
  obtain ⟨_, hI0, _⟩ := refT_open hS
  have hnow := hI0.inv.now f; clear hI0
  refine wc_seq ?_
  refine wc_region ?_
  refine wl_assign rfl rfl ?_
  refine wl_assign rfl rfl ?_
  refine wl_nil ?_
  refine qs_seq ?_
  refine wc_seq ?_
  refine wc_region ?_
  refine wl_move rfl rfl ?_
  refine wl_move rfl rfl ?_
  have hC1 := hS.split [0] [true, false] rfl; dsimp only [selF, pickA, nthA, List.cons_append, List.nil_append] at hC1
  refine wl_call cal_37 rfl (mayR_sp hC1 f) rfl ?_
  rintro e w1 ⟨_, rfl, rfl, hS1⟩; refine ⟨_, rfl, ?_⟩
  replace hS1 := hS1.join rfl; dsimp only [List.dropLast, List.cons_append, List.nil_append] at hS1; clear hC1
  refine wl_assign rfl rfl ?_
  refine wl_nil ?_
  refine qs_seq ?_
  refine wc_seq ?_
  refine wc_seq ?_
  refine wc_region ?_
  refine wl_move rfl rfl ?_
  refine wl_neq rfl rfl rfl ?_
  refine wl_nil ?_
  refine qs_seq ?_
  refine wc_sub (L' := [(16, _), (10, _), (9, _), (8, _), (0, _), (1, _), (2, _), (3, _)]) (.cons rfl (.cons rfl (.cons rfl (.cons rfl (.cons rfl (.cons rfl (.cons rfl (.cons rfl .nil)))))))) ?_
  refine wc_condD rfl (fun h2 => ?_) (fun h2 => ?_)
  · skip
    have hm : mayE D f ≠ 0 := h2
    refine wc_seq ?_
    refine wc_region ?_
    refine wl_move rfl rfl ?_
    refine wl_assign rfl rfl ?_
    refine wl_assign rfl rfl ?_
    refine wl_nil ?_
    refine qs_seq ?_
    refine wc_ret ?_
    refine qs_then_ret ?_
    refine fin2 (.inr rfl) rfl rfl rfl ?_
    exact ⟨_, rfl, by have hE : ReadE D f at_ size = mayE D f := (by rw [ReadE, if_pos hm]); rw [ReadS, hE, if_neg hm], hS1⟩
  · skip
    have hm : mayE D f = 0 := Decidable.not_not.1 h2
    refine wc_skip ?_
    refine qs_seq ?_
    refine wc_seq ?_
    refine wc_seq ?_
    refine wc_region ?_
    refine wl_move rfl rfl ?_
    refine wl_lss rfl rfl rfl ?_
    refine wl_move rfl rfl ?_
    refine wl_splitD 20 rfl (fun h3 => ?_) (fun h3 => ?_)
    · skip
      refine wl_unwanted rfl rfl (decide_eq_true h3) rfl ?_
      refine wl_unwanted rfl rfl (decide_eq_true h3) rfl ?_
      refine wl_pickT rfl (decide_eq_true h3) rfl rfl ?_
      refine wl_nil ?_
      refine qs_seq ?_
      refine wc_sub (L' := [(23, _), (9, _), (8, _), (0, _), (1, _), (2, _), (3, _)]) (.cons rfl (.cons rfl (.cons rfl (.cons rfl (.cons rfl (.cons rfl (.cons rfl .nil))))))) ?_
      refine wc_condT rfl ?_
      refine wc_seq ?_
      refine wc_region ?_
      refine wl_assign rfl rfl ?_
      refine wl_assign rfl rfl ?_
      refine wl_nil ?_
      refine qs_seq ?_
      refine wc_ret ?_
      refine qs_then_ret ?_
      refine fin2 (.inr rfl) rfl rfl rfl ?_
      exact ⟨_, rfl, by have hE : ReadE D f at_ size = 1 := (by rw [ReadE, if_neg (by omega), if_pos (by omega)]); rw [ReadS, hE, if_neg (by decide)], hS1⟩
    · skip
      refine wl_guard rfl rfl (decide_eq_false h3) ?_
      refine wl_move rfl rfl ?_
      refine wl_guard rfl rfl (decide_eq_false h3) ?_
      refine wl_lss rfl rfl rfl ?_
      refine wl_pickF rfl (decide_eq_false h3) rfl rfl ?_
      refine wl_nil ?_
      refine qs_seq ?_
      refine wc_sub (L' := [(23, _), (9, _), (8, _), (0, _), (1, _), (2, _), (3, _)]) (.cons rfl (.cons rfl (.cons rfl (.cons rfl (.cons rfl (.cons rfl (.cons rfl .nil))))))) ?_
      refine wc_condD rfl (fun h4 => ?_) (fun h4 => ?_)
      · skip
        refine wc_seq ?_
        refine wc_region ?_
        refine wl_assign rfl rfl ?_
        refine wl_assign rfl rfl ?_
        refine wl_nil ?_
        refine qs_seq ?_
        refine wc_ret ?_
        refine qs_then_ret ?_
        refine fin2 (.inr rfl) rfl rfl rfl ?_
        exact ⟨_, rfl, by have hE : ReadE D f at_ size = 1 := (by rw [ReadE, if_neg (by omega), if_pos (by omega)]); rw [ReadS, hE, if_neg (by decide)], hS1⟩
      · skip
        refine wc_skip ?_
        refine qs_seq ?_
        refine wc_seq ?_
        refine wc_region ?_
        refine wl_move rfl rfl ?_
        refine wl_move rfl rfl ?_
        have hC5 := hS1.split [0] [true, false] rfl; dsimp only [selF, pickA, nthA, List.cons_append, List.nil_append] at hC5
        refine wl_call cal_48 rfl (getR_sp hC5 f) rfl ?_
        rintro e w5 ⟨_, rfl, rfl, hS5⟩; refine ⟨_, rfl, ?_⟩
        replace hS5 := hS5.join rfl; dsimp only [List.dropLast, List.cons_append, List.nil_append] at hS5; clear hC5
        clear hS1
        refine wl_field fv_86_1 rfl rfl rfl ?_
        refine wl_assign rfl rfl ?_
        refine wl_nil ?_
        refine qs_seq ?_
        refine wc_sub (L' := [(11, _), (9, _), (8, _), (2, _), (3, _)]) (.cons rfl (.cons rfl (.cons rfl (.cons rfl (.cons rfl .nil))))) ?_
        refine wc_seq ?_
        refine wc_seq ?_
        refine wc_region ?_
        refine wl_move rfl rfl ?_
        refine wl_move rfl rfl ?_
        refine wl_lenS Tryd.underlying9 rfl rfl ?_
        refine wl_geq rfl rfl rfl ?_
        refine wl_nil ?_
        refine qs_seq ?_
        refine wc_condD rfl (fun h6 => ?_) (fun h6 => ?_)
        · skip
          refine wc_seq ?_
          refine wc_region ?_
          refine wl_assign rfl rfl ?_
          refine wl_assign rfl rfl ?_
          refine wl_nil ?_
          refine qs_seq ?_
          refine wc_ret ?_
          refine qs_then_ret ?_
          refine fin2 (.inr rfl) rfl rfl rfl ?_
          exact ⟨_, rfl, readR_ok hm (by omega) (by omega) (.inl ⟨by omega, rfl⟩), hS5⟩
        · skip
          refine wc_skip ?_
          refine qs_seq ?_
          refine wc_seq ?_
          obtain ⟨A, hA⟩ : ∃ A : Nat, at_ = A := ⟨at_.toNat, by omega⟩
          obtain ⟨B, hB⟩ : ∃ B : Nat, at_ + min size ((D.F f).1.length - at_) = B := ⟨(at_ + min size ((D.F f).1.length - at_)).toNat, by omega⟩
          refine wc_region ?_
          refine wl_move rfl rfl ?_
          refine wl_move rfl rfl ?_
          refine wl_move rfl rfl ?_
          refine wl_move rfl rfl ?_
          refine wl_move rfl rfl ?_
          refine wl_lenS Tryd.underlying9 rfl rfl ?_
          refine wl_move rfl rfl ?_
          refine wl_sub' rfl rfl (by omega) (by omega) rfl ?_
          refine wl_minI rfl rfl rfl ?_
          refine wl_add rfl rfl (by omega) (by omega) rfl ?_
          refine wl_sliceS A B Tryd.underlying9 rfl (bndS A _ rfl hA) (bndS B _ rfl hB) (by omega) (by omega) rfl ?_
          refine wl_assign rfl rfl ?_
          refine wl_assign rfl rfl ?_
          refine wl_nil ?_
          refine qs_seq ?_
          refine wc_sub (L' := [(9, _), (8, _)]) (.cons rfl (.cons rfl .nil)) ?_
          refine wc_ret ?_
          refine fin2 (.inr rfl) rfl rfl rfl ?_
          exact ⟨_, rfl, readR_ok hm (by omega) (by omega) (.inr ⟨A, B, hA, hB, rfl⟩), hS5⟩

theorem comes_may {D : DS} {f a : Int} {s : Bytes} (h : mayE (comesD D f a s) f = 0) : endsB D = false ∧ comesD D f a s = endsD D ∧ mayE (endsD D) f = 0 := by
  cases hb : endsB D with
  | false => have e : comesD D f a s = endsD D := by rw [comesD, hb]; rfl
             rw [e] at h; exact ⟨rfl, e, h⟩
  | true =>
    have e : (comesD D f a s).down = true := by rw [comesD, hb]; exact crash_isDown _ _
    rw [mayE, if_pos e] at h; cases h
theorem ends_up {D : DS} (h : endsB D = true) : D.down = false := by simp [endsB] at h; exact h.1
theorem writeR_may {w : World} {p : Nat} {kp : Value} {D : DS} {F : Th} {f a : Int} {s : Bytes} (hm : mayE (comesD D f a s) f ≠ 0) (h : Sat w [refT p kp (comesD D f a s), F]) : intV (mayE (comesD D f a s) f) = intV (WriteE D f a s) ∧ Sat w [refT p kp (WriteD D f a s), F] := by
  cases hb : endsB D with
  | true =>
    have e : comesD D f a s = crashD (writeD (endsD D) f a s) D.keep := by rw [comesD, hb]; rfl
    have e2 : mayE (comesD D f a s) f = 9 := by rw [mayE, if_pos]; rw [e]; exact crash_isDown _ _
    refine ⟨by rw [e2, WriteE, hb]; rfl, ?_⟩
    simp only [WriteD, hb]; rw [e] at h; exact h
  | false =>
    have e : comesD D f a s = endsD D := by rw [comesD, hb]; rfl
    rw [e] at hm h ⊢
    have e2 : writeE (endsD D) f a s = mayE (endsD D) f := by rw [writeE, if_pos hm]
    refine ⟨by rw [WriteE, hb]; simp only [Bool.false_eq_true, if_false]; rw [e2], ?_⟩
    simp only [WriteD, hb]
    rw [writeD, e2, if_neg hm]; exact h
theorem writeR_bad {w : World} {p : Nat} {kp : Value} {D : DS} {F : Th} {f a : Int} {s : Bytes} (hm : mayE (comesD D f a s) f = 0) (ha : a < 0) (h : Sat w [refT p kp (comesD D f a s), F]) : intV 1 = intV (WriteE D f a s) ∧ Sat w [refT p kp (WriteD D f a s), F] := by
  obtain ⟨hb, e, hm2⟩ := comes_may hm
  rw [e] at h
  have e2 : writeE (endsD D) f a s = 1 := by rw [writeE, if_neg (by omega), if_pos ha]
  refine ⟨by rw [WriteE, hb]; simp only [Bool.false_eq_true, if_false]; rw [e2], ?_⟩
  simp only [WriteD, hb]; rw [writeD, e2, if_neg (by decide)]; exact h
theorem writeR_full {w : World} {p : Nat} {kp : Value} {D : DS} {F : Th} {f a : Int} {s : Bytes} (hm : mayE (comesD D f a s) f = 0) (ha : 0 ≤ a) (hf : fitB a s = false) (h : Sat w [refT p kp (comesD D f a s), F]) : intV 6 = intV (WriteE D f a s) ∧ Sat w [refT p kp (WriteD D f a s), F] := by
  obtain ⟨hb, e, hm2⟩ := comes_may hm
  rw [e] at h
  have e2 : writeE (endsD D) f a s = 6 := by
    simp only [fitB, decide_eq_false_iff_not] at hf
    rw [writeE, if_neg (by omega), if_neg (by omega), if_pos (by omega)]
  refine ⟨by rw [WriteE, hb]; simp only [Bool.false_eq_true, if_false]; rw [e2], ?_⟩
  simp only [WriteD, hb]; rw [writeD, e2, if_neg (by decide)]; exact h
theorem writeR_ok {w : World} {p : Nat} {kp : Value} {D : DS} {F : Th} {f a : Int} {s : Bytes} (hm : mayE (comesD D f a s) f = 0) (hf : fitB a s = true) (h : Sat w [refT p kp (addD (comesD D f a s) f a s), F]) : intV 0 = intV (WriteE D f a s) ∧ Sat w [refT p kp (WriteD D f a s), F] := by
  obtain ⟨hb, e, hm2⟩ := comes_may hm
  rw [e] at h
  have hd : (endsD D).down = false := by
    cases hq : (endsD D).down with
    | false => rfl
    | true => rw [mayE, hq] at hm2; cases hm2
  have hf16 : 0 ≤ f ∧ f ≤ 15 := by have := may_ok hm2; omega
  have e2 : writeE (endsD D) f a s = 0 := (fit_write hd).1 ⟨hf16.1, hf16.2, hf⟩
  refine ⟨by rw [WriteE, hb]; simp only [Bool.false_eq_true, if_false]; rw [e2], ?_⟩
  simp only [WriteD, hb]; rw [writeD, e2, if_pos rfl]; exact h
set_option maxRecDepth 100000 in
theorem writeR_sp {w : World} {p : Nat} {kp : Value} {D : DS} {F : Th} (hS : Sat w [refT p kp D, F]) (hK : Ent F (RdL inC kp D.keep)) (f at_ : Int) (s : Bytes) (hs : s.length ≤ 1099511627776) :
    Calls Tryd.prog 12 #[ptrV p 0, intV f, intV at_, strV s] w (Ret fun v w' => v = intV (WriteE D f at_ s) ∧ Sat w' [refT p kp (WriteD D f at_ s), F]) := by
  refine calls_enter Tryd.func12 rfl Tryd.ntmps12 rfl ?_
  refine wc_seq ?_
  refine wc_region ?_
  refine wl_assign rfl rfl ?_
  refine wl_nil ?_
  refine qs_seq ?_
  refine wc_seq ?_
  refine wc_region ?_
  refine wl_move rfl rfl ?_
  refine wl_move rfl rfl ?_
  refine wl_move rfl rfl ?_
  refine wl_move rfl rfl ?_
  have hC1 := hS.split [0] [true, false] rfl; dsimp only [selF, pickA, nthA, List.cons_append, List.nil_append] at hC1
  refine wl_call cal_36 rfl (comesR_sp hC1 (hK.starL 0 rfl) f at_ s hs) rfl ?_
  rintro e w1 ⟨_, rfl, rfl, hS1⟩; refine ⟨_, rfl, ?_⟩
  replace hS1 := hS1.join rfl; dsimp only [List.dropLast, List.cons_append, List.nil_append] at hS1; clear hC1
  refine wl_nil ?_
  refine qs_seq ?_
  refine wc_seq ?_
  refine wc_region ?_
  refine wl_move rfl rfl ?_
  refine wl_move rfl rfl ?_
  have hC2 := hS1.split [0] [true, false] rfl; dsimp only [selF, pickA, nthA, List.cons_append, List.nil_append] at hC2
  refine wl_call cal_37 rfl (mayR_sp hC2 f) rfl ?_
  rintro e w2 ⟨_, rfl, rfl, hS2⟩; refine ⟨_, rfl, ?_⟩
  replace hS2 := hS2.join rfl; dsimp only [List.dropLast, List.cons_append, List.nil_append] at hS2; clear hC2
  clear hS1
  refine wl_assign rfl rfl ?_
  refine wl_nil ?_
  refine qs_seq ?_
  refine wc_sub (L' := [(9, _), (8, _), (0, _), (1, _), (2, _), (3, _)]) (.cons rfl (.cons rfl (.cons rfl (.cons rfl (.cons rfl (.cons rfl .nil)))))) ?_
  refine wc_seq ?_
  refine wc_seq ?_
  refine wc_region ?_
  refine wl_move rfl rfl ?_
  refine wl_neq rfl rfl rfl ?_
  refine wl_nil ?_
  refine qs_seq ?_
  refine wc_condD rfl (fun h3 => ?_) (fun h3 => ?_)
  · skip
    have hm : mayE (comesD D f at_ s) f ≠ 0 := h3
    refine wc_seq ?_
    refine wc_region ?_
    refine wl_move rfl rfl ?_
    refine wl_assign rfl rfl ?_
    refine wl_nil ?_
    refine qs_seq ?_
    refine wc_ret ?_
    refine qs_then_ret ?_
    refine fin1 (.inr rfl) rfl rfl ?_
    exact ⟨_, rfl, writeR_may hm hS2⟩
  · skip
    have hm : mayE (comesD D f at_ s) f = 0 := Decidable.not_not.1 h3
    refine wc_skip ?_
    refine qs_seq ?_
    refine wc_seq ?_
    refine wc_seq ?_
    refine wc_region ?_
    refine wl_move rfl rfl ?_
    refine wl_lss rfl rfl rfl ?_
    refine wl_nil ?_
    refine qs_seq ?_
    refine wc_condD rfl (fun h4 => ?_) (fun h4 => ?_)
    · skip
      refine wc_seq ?_
      refine wc_region ?_
      refine wl_assign rfl rfl ?_
      refine wl_nil ?_
      refine qs_seq ?_
      refine wc_ret ?_
      refine qs_then_ret ?_
      refine fin1 (.inr rfl) rfl rfl ?_
      exact ⟨_, rfl, writeR_bad hm (by omega) hS2⟩
    · skip
      refine wc_skip ?_
      refine qs_seq ?_
      refine wc_seq ?_
      refine wc_seq ?_
      refine wc_region ?_
      refine wl_move rfl rfl ?_
      refine wl_move rfl rfl ?_
      have hC5 := hS2.split [] [false, false] rfl; dsimp only [selF, pickA, nthA, List.cons_append, List.nil_append] at hC5
      refine wl_call cal_38 rfl (fitsR_sp hC5 at_ s hs) rfl ?_
      rintro e w5 ⟨_, rfl, rfl, hS5⟩; refine ⟨_, rfl, ?_⟩
      replace hS5 := hS5.join rfl; dsimp only [List.dropLast, List.cons_append, List.nil_append] at hS5; clear hC5
      clear hS2
      refine wl_not rfl rfl ?_
      refine wl_nil ?_
      refine qs_seq ?_
      refine wc_sub (L' := [(26, _), (8, _), (0, _), (1, _), (2, _), (3, _)]) (.cons rfl (.cons rfl (.cons rfl (.cons rfl (.cons rfl (.cons rfl .nil)))))) ?_
      refine wc_cond rfl (fun h6 => ?_) (fun h6 => ?_)
      · skip
        refine wc_seq ?_
        refine wc_region ?_
        refine wl_assign rfl rfl ?_
        refine wl_nil ?_
        refine qs_seq ?_
        refine wc_ret ?_
        refine qs_then_ret ?_
        refine fin1 (.inr rfl) rfl rfl ?_
        exact ⟨_, rfl, writeR_full hm (by omega) (by simp_all) hS5⟩
      · skip
        have hfb : fitB at_ s = true := by simpa using h6
        have hf16 := may_ok hm
        have hfb2 := hfb; simp only [fitB, decide_eq_true_eq] at hfb2
        refine wc_skip ?_
        refine qs_seq ?_
        refine wc_seq ?_
        refine wc_region ?_
        refine wl_move rfl rfl ?_
        refine wl_move rfl rfl ?_
        refine wl_move rfl rfl ?_
        refine wl_move rfl rfl ?_
        have hC7 := hS5.split [0] [true, false] rfl; dsimp only [selF, pickA, nthA, List.cons_append, List.nil_append] at hC7
        refine wl_call cal_39 rfl (addR_sp hC7 f at_ s (by omega) (by omega) (by omega)) rfl ?_
        rintro e w7 ⟨_, rfl, rfl, hS7⟩; refine ⟨_, rfl, ?_⟩
        replace hS7 := hS7.join rfl; dsimp only [List.dropLast, List.cons_append, List.nil_append] at hS7; clear hC7
        clear hS5
        refine wl_nil ?_
        refine qs_seq ?_
        refine wc_sub (L' := [(8, _)]) (.cons rfl .nil) ?_
        refine wc_seq ?_
        refine wc_region ?_
        refine wl_assign rfl rfl ?_
        refine wl_nil ?_
        refine qs_seq ?_
        refine wc_ret ?_
        refine fin1 (.inr rfl) rfl rfl ?_
        exact ⟨_, rfl, writeR_ok hm hfb hS7⟩

theorem flt_keep {Q : List (Int × Int)} {i : Nat} {x : Int × Int} {k : Int} (hx : Q[i]? = some x) (h : x.1 ≠ k) : (Q.take (i + 1)).filter (fun y => decide (y.1 ≠ k)) = (Q.take i).filter (fun y => decide (y.1 ≠ k)) ++ [x] := by
  rw [List.take_add_one, hx, List.filter_append]; simp [h]
theorem flt_skip {Q : List (Int × Int)} {i : Nat} {x : Int × Int} {k : Int} (hx : Q[i]? = some x) (h : x.1 = k) : (Q.take (i + 1)).filter (fun y => decide (y.1 ≠ k)) = (Q.take i).filter (fun y => decide (y.1 ≠ k)) := by
  rw [List.take_add_one, hx, List.filter_append]; simp [h]
theorem flt_le2 {α : Type} (p : α → Bool) (l : List α) (i m : Nat) (h : l.length ≤ m) : ((l.take i).filter p).length ≤ m := Nat.le_trans (List.length_filter_le _ _) (by simp; omega)
theorem settleR_end {w : World} {p i : Nat} {kp v fv qv : Value} {D : DS} {l : List (Int × Bytes × Bytes)} {F : Th} {f : Int} {s : Bytes} (hI : RInv l { D with F := setF D.F f (s, s) }) (hi : ¬ i < D.Q.length) (h : Sat w [rowT scC v ((D.Q.take i).filter (fun y => decide (y.1 ≠ f))), blkT p [fv, v, intV D.lost, .bool D.down, intV D.armed, kp], rowT rfC fv l, rowT scC qv D.Q, F]) : Sat w [refT p kp (settleD D f s), F] := by
  rw [List.take_of_length_le (by omega)] at h
  exact refT_shut ⟨fv, v, l⟩ ⟨{ hI.inv with nodup := hI.inv.nodup.filter _, secs := fun p hp => hI.inv.secs p (List.mem_filter.1 hp).1 }, hI.says, hI.num, hI.nodup⟩ (h.pick [1, 2, 0, 4] rfl)
set_option maxRecDepth 100000 in
theorem settleR_sp {w : World} {p : Nat} {kp : Value} {D : DS} {F : Th} (hS : Sat w [refT p kp D, F]) (f : Int) (hf : 0 ≤ f ∧ f < 16) (s : Bytes) (hs : s.length ≤ 16777216) :
    Calls Tryd.prog 53 #[ptrV p 0, intV f, strV s] w (Ret fun v w' => v = .tuple #[] ∧ Sat w' [refT p kp (settleD D f s), F]) := by
  refine calls_enter Tryd.func53 rfl Tryd.ntmps53 rfl ?_
  refine wc_seq ?_
  refine wc_region ?_
  refine wl_move rfl rfl ?_
  refine wl_move rfl rfl ?_
  refine wl_move rfl rfl ?_
  refine wl_move rfl rfl ?_
  refine wl_buildS rfl pl_86_0_1_2 asz_86 zr_86 rfl rfl ?_
  have hC1 := hS.split [0] [true, false] rfl; dsimp only [selF, pickA, nthA, List.cons_append, List.nil_append] at hC1
  refine wl_call cal_50 rfl (setR_sp hC1 f _ _ hf hs hs) rfl ?_
  rintro e w1 ⟨_, rfl, rfl, hS1⟩; refine ⟨_, rfl, ?_⟩
  replace hS1 := hS1.join rfl; dsimp only [List.dropLast, List.cons_append, List.nil_append] at hS1; clear hC1
  refine wl_nil ?_
  obtain ⟨⟨fv, qv, l⟩, hI, hS1⟩ := refT_open (hS1.pull 0 rfl); dsimp only [List.eraseIdx] at hI hS1
  refine qs_seq ?_
  refine wc_seq ?_
  refine wc_region ?_
  refine wl_assign rfl rfl ?_
  refine wl_nil ?_
  refine qs_seq ?_
  refine wc_seq ?_
  refine wc_seq ?_
  refine wc_region ?_
  refine wl_assign rfl rfl ?_
  refine wl_nil ?_
  refine qs_seq ?_
  refine wc_sub (L' := [(7, _), (6, _), (0, _), (1, _)]) (.cons rfl (.cons rfl (.cons rfl (.cons rfl .nil)))) ?_
  refine wc_block ?_
  refine wc_loop (fun K0 E0 W0 => ∃ (i : Nat) (v : Value), K0 = D.Q.length - i ∧ E0 = [(0, ptrV p 0), (1, intV f), (6, v), (7, intV (i : Int))] ∧ Sat W0 [rowT scC v ((D.Q.take i).filter (fun y => decide (y.1 ≠ f))), blkT p (cellsR ⟨fv, qv, l⟩ kp { D with F := setF D.F f (s, s) }), rowT rfC fv l, rowT scC qv D.Q, F] ∧ (i ≤ D.Q.length)) (L0 := [(0, _), (1, _), (6, _), (7, _)]) (D.Q.length) (.cons rfl (.cons rfl (.cons rfl (.cons rfl .nil)))) ⟨0, _, by omega, rfl, hS1.row_nil scC, by omega⟩ ?_
  rintro _ _ w2 ⟨i, v, rfl, rfl, hS2, hi⟩
  refine wc_seq ?_
  refine wc_seq ?_
  refine wc_region ?_
  refine wl_move rfl rfl ?_
  refine wl_move rfl rfl ?_
  refine wl_nilCheck rfl rfl ?_
  refine wl_fieldAddr rfl fo_65_1 rfl ?_
  refine wl_load rfl ag_63 (by first | assumption | exact hS2.cell 1 rfl rfl) rfl ?_
  first | refine wl_lenL Tryd.underlying63 rfl rfl ?_ | refine wl_lenO 0 hS2 Tryd.underlying63 rfl rfl rfl ?_ | refine wl_lenO 2 hS2 Tryd.underlying63 rfl rfl rfl ?_ | refine wl_lenO 3 hS2 Tryd.underlying63 rfl rfl rfl ?_
  refine wl_lss rfl rfl rfl ?_
  refine wl_nil ?_
  refine qs_seq ?_
  refine wc_sub (L' := [(20, _), (0, _), (1, _), (6, _), (7, _)]) (.cons rfl (.cons rfl (.cons rfl (.cons rfl (.cons rfl .nil))))) ?_
  refine wc_condD rfl (fun h3 => ?_) (fun h3 => ?_)
  · skip
    have hcnt := sec_count hI.inv.secs hI.inv.nodup; dsimp only at hcnt
    obtain ⟨x, hx⟩ : ∃ x, D.Q[i]? = some x := ⟨_, List.getElem?_eq_getElem (by omega)⟩
    refine wc_skip ?_
    refine qs_seq ?_
    refine wc_seq ?_
    refine wc_block ?_
    refine wc_seq ?_
    refine wc_region ?_
    refine wl_move rfl rfl ?_
    refine wl_nilCheck rfl rfl ?_
    refine wl_fieldAddr rfl fo_65_1 rfl ?_
    refine wl_load rfl ag_63 (by first | assumption | exact hS2.cell 1 rfl rfl) rfl ?_
    refine wl_move rfl rfl ?_
    refine wl_rowIdx scC 3 i hS2 rfl rfl rfl (by first | rfl | omega) hx es_63 rfl ?_
    intro bx4 capx4 hvx4
    refine wl_fieldAddr rfl fo_84_0 rfl ?_
    refine wl_rowLoad 3 i 0 hS2 rfl hvx4 rfl rfl hx ag_3 rfl rfl ?_
    refine wl_move rfl rfl ?_
    refine wl_neq rfl rfl rfl ?_
    refine wl_nil ?_
    refine qs_seq ?_
    refine wc_sub (L' := [(32, _), (0, _), (1, _), (6, _), (7, _)]) (.cons rfl (.cons rfl (.cons rfl (.cons rfl (.cons rfl .nil))))) ?_
    refine wc_condD rfl (fun h5 => ?_) (fun h5 => ?_)
    · skip
      have hne : x.1 ≠ f := h5
      refine wc_region ?_
      refine wl_move rfl rfl ?_
      refine wl_move rfl rfl ?_
      refine wl_nilCheck rfl rfl ?_
      refine wl_fieldAddr rfl fo_65_1 rfl ?_
      refine wl_load rfl ag_63 (by first | assumption | exact hS2.cell 1 rfl rfl) rfl ?_
      refine wl_move rfl rfl ?_
      refine wl_rowIdx scC 3 i hS2 rfl rfl rfl (by first | rfl | omega) hx es_63 rfl ?_
      intro bx6 capx6 hvx6
      refine wl_rowLoadA 3 i hS2 rfl hvx6 rfl hx ag_84 sz_84 rfl rfl ?_
      refine wl_rowBuild scC [x] hS2 rfl Tryd.underlying63 ifz_84 rfl rfl rfl rfl (by first | rfl | simp [RowC.cells, fillL, splice]) rfl ?_
      intro b7 w7 hS7
      clear hS2
      refine wl_rowApp scC 1 hS7 rfl rfl rfl (hS7.rd 0 rfl (by simp)) Tryd.underlying63 Tryd.underlying63 (by intro k hk; cases hk) ifo_84 rfl (by have := flt_le2 (fun y => decide (y.1 ≠ f)) D.Q i 4194320 hcnt; simp only [List.length_cons, List.length_nil]; omega) rfl (by have := flt_le2 (fun y => decide (y.1 ≠ f)) D.Q i 4194320 hcnt; simp only [List.length_cons, List.length_nil]; omega) ?_
      intro v8 w8 hS8; dsimp only [List.set] at hS8
      clear hS7
      have h1v8 : v8.oneCell' = true := hS8.own_one 1 rfl
      refine wl_assign rfl rfl ?_
      refine wl_nil ?_
      refine qs_block_normal ?_
      refine qs_seq ?_
      refine wc_sub (L' := [(6, _), (0, _), (1, _), (7, _)]) (.cons rfl (.cons rfl (.cons rfl (.cons rfl .nil)))) ?_
      refine wc_region ?_
      refine wl_move rfl rfl ?_
      refine wl_add rfl rfl (by omega) (by omega) rfl ?_
      refine wl_assign rfl rfl ?_
      refine wl_nil ?_
      exact qs_round (L1 := [(0, _), (1, _), (6, _), (7, intV ((i + 1 : Nat) : Int))]) (.cons rfl (.cons rfl (.cons rfl (.cons rfl .nil)))) (k1 := D.Q.length - (i + 1)) (by omega) ⟨i + 1, _, by omega, rfl, by rw [flt_keep hx hne]; exact hS8.tail, by omega⟩
    · skip
      have heq : x.1 = f := Decidable.not_not.1 h5
      refine wc_skip ?_
      refine qs_block_normal ?_
      refine qs_seq ?_
      refine wc_region ?_
      refine wl_move rfl rfl ?_
      refine wl_add rfl rfl (by omega) (by omega) rfl ?_
      refine wl_assign rfl rfl ?_
      refine wl_nil ?_
      exact qs_round (L1 := [(0, _), (1, _), (6, _), (7, intV ((i + 1 : Nat) : Int))]) (.cons rfl (.cons rfl (.cons rfl (.cons rfl .nil)))) (k1 := D.Q.length - (i + 1)) (by omega) ⟨i + 1, _, by omega, rfl, by rw [flt_skip hx heq]; exact hS2, by omega⟩
  · skip
    refine wc_exit ?_
    refine qs_then_exit ?_
    refine qs_then_exit ?_
    refine qs_block_exit ?_
    refine qs_seq ?_
    refine wc_region ?_
    refine wl_move rfl rfl ?_
    refine wl_move rfl rfl ?_
    refine wl_nilCheck rfl rfl ?_
    refine wl_fieldAddr rfl fo_65_1 rfl ?_
    first | (refine wl_store hS2 rfl rfl sz_63 (by first | rfl | assumption | exact hS2.own_one 0 rfl | exact hS2.own_one 2 rfl | exact hS2.own_one 3 rfl) (i := 1) rfl (by first | decide | exact Nat.le_of_ble_eq_true rfl | (simp; done) | omega) ?_)
    intro w9 hS10; dsimp only [List.set] at hS10
    clear hS2
    refine wl_nil ?_
    refine fin0 (.inl rfl) rfl ?_
    exact ⟨_, rfl, rfl, settleR_end hI (by omega) hS10⟩

end Go.Proofs.YtleaahajkncnpaaDoor
