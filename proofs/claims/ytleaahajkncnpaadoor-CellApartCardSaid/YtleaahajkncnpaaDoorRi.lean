/- the reference of layer 3: Sync, Truncate, Arm; the reference with its keep -/
import Derived.Test.YtleaahajkncnpaaDoorRh
namespace Go.Proofs.YtleaahajkncnpaaDoor
open Go.RowKit M
set_option linter.unusedVariables false
theorem comes_late {D : DS} : comesD D 0 0 [] = lateD D := by
  have e : writeD (endsD D) 0 0 [] = endsD D := by
    unfold writeD; split
    · rw [addD, if_pos rfl]
    · rfl
  rw [comesD, lateD, e]
set_option maxRecDepth 100000 in
theorem SyncR_sp {w : World} {p : Nat} {kp : Value} {D : DS} {F : Th} (hS : Sat w [refT p kp D, F]) (hK : Ent F (RdL inC kp D.keep)) (f : Int) :
    Calls Tryd.prog 45 #[ptrV p 0, intV f] w (Ret fun v w' => v = intV (SyncE D f) ∧ Sat w' [refT p kp (SyncD D f), F]) := by
  refine calls_enter Tryd.func45 rfl Tryd.ntmps45 rfl ?_
  refine wc_seq ?_
  refine wc_region ?_
  refine wl_assign rfl rfl ?_
  refine wl_nil ?_
  refine qs_seq ?_
  refine wc_seq ?_
  refine wc_region ?_
  refine wl_move rfl rfl ?_
  have hC1 := hS.split [0] [true, false] rfl; dsimp only [selF, pickA, nthA, List.cons_append, List.nil_append] at hC1
  refine wl_call cal_36 rfl (comesR_sp hC1 (hK.starL 0 rfl) 0 0 [] (by simp)) rfl ?_
  rintro e w1 ⟨_, rfl, rfl, hS1⟩; refine ⟨_, rfl, ?_⟩
  replace hS1 := hS1.join rfl; dsimp only [List.dropLast, List.cons_append, List.nil_append] at hS1; clear hC1
  rw [comes_late] at hS1
  refine wl_nil ?_
  refine qs_seq ?_
  refine wc_seq ?_
  refine wc_region ?_
  refine wl_move rfl rfl ?_
  refine wl_move rfl rfl ?_
  have hC2 := hS1.split [0] [true, false] rfl; dsimp only [selF, pickA, nthA, List.cons_append, List.nil_append] at hC2
  refine wl_call cal_37 rfl (mayR_sp hC2 f) rfl ?_
  rintro e w2 ⟨_, rfl, rfl, hS2⟩; refine ⟨_, rfl, ?_⟩
  replace hS2 := hS2.join rfl; dsimp only [List.dropLast, List.cons_append, List.nil_append] at hS2; clear hC2
  clear hS1
  refine wl_assign rfl rfl ?_
  refine wl_nil ?_
  refine qs_seq ?_
  refine wc_seq ?_
  refine wc_seq ?_
  refine wc_region ?_
  refine wl_move rfl rfl ?_
  refine wl_neq rfl rfl rfl ?_
  refine wl_nil ?_
  refine qs_seq ?_
  refine wc_sub (L' := [(12, _), (5, _), (4, _), (0, _), (1, _)]) (.cons rfl (.cons rfl (.cons rfl (.cons rfl (.cons rfl .nil))))) ?_
  refine wc_condD rfl (fun h3 => ?_) (fun h3 => ?_)
  · skip
    have hm : mayE (lateD D) f ≠ 0 := h3
    refine wc_seq ?_
    refine wc_region ?_
    refine wl_move rfl rfl ?_
    refine wl_assign rfl rfl ?_
    refine wl_nil ?_
    refine qs_seq ?_
    refine wc_ret ?_
    refine qs_then_ret ?_
    refine fin1 (.inr rfl) rfl rfl ?_
    exact ⟨_, rfl, by simp [SyncE, hm], by simp only [SyncD, if_pos hm]; exact hS2⟩
  · skip
    have hm : mayE (lateD D) f = 0 := Decidable.not_not.1 h3
    refine wc_skip ?_
    refine qs_seq ?_
    refine wc_seq ?_
    refine wc_seq ?_
    obtain ⟨⟨fv, qv, l⟩, hI, hS2⟩ := refT_open (hS2.pull 0 rfl); dsimp only [List.eraseIdx] at hI hS2
    have hll := hI.inv.lost
    refine wc_region ?_
    refine wl_move rfl rfl ?_
    refine wl_nilCheck rfl rfl ?_
    refine wl_fieldAddr rfl fo_65_2 rfl ?_
    refine wl_load rfl ag_3 (by first | assumption | exact hS2.cell 0 rfl rfl) rfl ?_
    refine wl_gtr rfl rfl rfl ?_
    refine wl_nil ?_
    refine qs_seq ?_
    refine wc_condD rfl (fun h4 => ?_) (fun h4 => ?_)
    · skip
      have hl : 0 < (lateD D).lost := h4
      refine wc_seq ?_
      refine wc_region ?_
      refine wl_move rfl rfl ?_
      refine wl_nilCheck rfl rfl ?_
      refine wl_fieldAddr rfl fo_65_2 rfl ?_
      refine wl_load rfl ag_3 (by first | assumption | exact hS2.cell 0 rfl rfl) rfl ?_
      refine wl_sub' rfl rfl (by omega) (by omega) rfl ?_
      refine wl_nilCheck rfl rfl ?_
      refine wl_fieldAddr rfl fo_65_2 rfl ?_
      first | (refine wl_store hS2 rfl rfl sz_3 (by first | rfl | assumption | exact hS2.own_one 1 rfl | exact hS2.own_one 2 rfl) (i := 0) rfl (by first | decide | exact Nat.le_of_ble_eq_true rfl | (simp; done) | omega) ?_)
      intro w5 hS6; dsimp only [List.set] at hS6
      clear hS2
      refine wl_nil ?_
      refine qs_seq ?_
      refine wc_sub (L' := [(4, _), (0, _), (1, _)]) (.cons rfl (.cons rfl (.cons rfl .nil))) ?_
      refine wc_seq ?_
      refine wc_region ?_
      refine wl_assign rfl rfl ?_
      refine wl_nil ?_
      refine qs_seq ?_
      refine wc_ret ?_
      refine qs_then_ret ?_
      refine fin1 (.inr rfl) rfl rfl ?_
      exact ⟨_, rfl, by rw [SyncE, if_neg (by simp [hm]), if_pos hl], by rw [SyncD, if_neg (by simp [hm]), if_pos hl]; exact refT_shut ⟨fv, qv, l⟩ (hI.upd rfl { hI.inv with lost := ⟨by simp; omega, by have := hI.inv.lost; simp; omega⟩ }) hS6⟩
    · skip
      have hl : ¬ 0 < (lateD D).lost := h4
      refine wc_skip ?_
      refine qs_seq ?_
      refine wc_seq ?_
      have hnow := hI.inv.now f
      have hS2' := refT_shut (D := lateD D) ⟨fv, qv, l⟩ (hI) hS2; replace hS2 := hS2'; clear hS2'
      refine wc_region ?_
      refine wl_move rfl rfl ?_
      refine wl_move rfl rfl ?_
      refine wl_move rfl rfl ?_
      refine wl_move rfl rfl ?_
      have hC7 := hS2.split [0] [true, false] rfl; dsimp only [selF, pickA, nthA, List.cons_append, List.nil_append] at hC7
      refine wl_call cal_48 rfl (getR_sp hC7 f) rfl ?_
      rintro e w7 ⟨_, rfl, rfl, hS7⟩; refine ⟨_, rfl, ?_⟩
      replace hS7 := hS7.join rfl; dsimp only [List.dropLast, List.cons_append, List.nil_append] at hS7; clear hC7
      clear hS2
      refine wl_field fv_86_1 rfl rfl rfl ?_
      have hC8 := hS7.split [0] [true, false] rfl; dsimp only [selF, pickA, nthA, List.cons_append, List.nil_append] at hC8
      refine wl_call cal_53 rfl (settleR_sp hC8 f (may_ok hm) _ hnow) rfl ?_
      rintro e w8 ⟨_, rfl, rfl, hS8⟩; refine ⟨_, rfl, ?_⟩
      replace hS8 := hS8.join rfl; dsimp only [List.dropLast, List.cons_append, List.nil_append] at hS8; clear hC8
      clear hS7
      refine wl_nil ?_
      refine qs_seq ?_
      refine wc_sub (L' := [(4, _)]) (.cons rfl .nil) ?_
      refine wc_seq ?_
      refine wc_region ?_
      refine wl_assign rfl rfl ?_
      refine wl_nil ?_
      refine qs_seq ?_
      refine wc_ret ?_
      refine fin1 (.inr rfl) rfl rfl ?_
      exact ⟨_, rfl, by rw [SyncE, if_neg (by simp [hm]), if_neg hl], by rw [SyncD, if_neg (by simp [hm]), if_neg hl]; exact hS8⟩

theorem truncR_may {w : World} {p : Nat} {kp : Value} {D : DS} {F : Th} {f size : Int} (hm : mayE (lateD D) f ≠ 0) (h : Sat w [refT p kp (lateD D), F]) : intV (mayE (lateD D) f) = intV (TruncE D f size) ∧ Sat w [refT p kp (TruncD D f size), F] := by
  have e : TruncE D f size = mayE (lateD D) f := by rw [TruncE, if_pos hm]
  exact ⟨by rw [e], by rw [TruncD, e, if_neg hm]; exact h⟩
theorem truncR_arg {w : World} {p : Nat} {kp : Value} {D : DS} {F : Th} {f size : Int} (hm : mayE (lateD D) f = 0) (hx : size < 0 ∨ (((lateD D).F f).1.length : Int) < size) (h : Sat w [refT p kp (lateD D), F]) : intV 1 = intV (TruncE D f size) ∧ Sat w [refT p kp (TruncD D f size), F] := by
  have e : TruncE D f size = 1 := by rw [TruncE, if_neg (by simp [hm]), if_pos hx]
  exact ⟨by rw [e], by rw [TruncD, e, if_neg (by decide)]; exact h⟩
theorem truncR_ok {w : World} {p : Nat} {kp : Value} {D : DS} {F : Th} {f : Int} {n : Nat} (hm : mayE (lateD D) f = 0) (hx : ¬ ((n : Int) < 0 ∨ (((lateD D).F f).1.length : Int) < n)) (h : Sat w [refT p kp (settleD (lateD D) f ((((lateD D).F f).1.take n).drop 0)), F]) : intV 0 = intV (TruncE D f n) ∧ Sat w [refT p kp (TruncD D f n), F] := by
  have e : TruncE D f n = 0 := by rw [TruncE, if_neg (by simp [hm]), if_neg hx]
  rw [List.drop_zero] at h
  exact ⟨by rw [e], by rw [TruncD, if_pos e]; simpa using h⟩
theorem armR_end {w : World} {p : Nat} {kv fv qv : Value} {D : DS} {ks : List Int} {l : List (Int × Bytes × Bytes)} {F : Th} {n : Int} (hI : RInv l D) (hn : n ≤ 9223372036854775807) (h : Sat w [rowT inC kv ([] ++ ks), blkT p [fv, qv, intV D.lost, .bool D.down, intV (max n 0), kv], rowT rfC fv l, rowT scC qv D.Q, F]) : Sat w [refT p kv { D with armed := max n 0, keep := ks }, rowT inC kv ks, F] :=
  (refT_shut (D := { D with armed := max n 0, keep := ks }) ⟨fv, qv, l⟩ (hI.upd rfl { hI.inv with armed := ⟨by simp; omega, by simp; omega⟩ }) (h.pick [1, 2, 3, 0, 4] rfl))
set_option maxRecDepth 100000 in
theorem armR_sp {w : World} {p : Nat} {kp : Value} {D : DS} {F : Th} (hS : Sat w [refT p kp D, F]) (n : Int) (hn : n ≤ 9223372036854775807) {kv : Value} {ks : List Int} (hK : Ent F (RdL inC kv ks)) (hl : ks.length ≤ 1000000) :
    Calls Tryd.prog 27 #[ptrV p 0, intV n, kv] w (Ret fun v w' => ∃ kv', v = .tuple #[] ∧ Sat w' [refT p kv' { D with armed := max n 0, keep := ks }, rowT inC kv' ks, F]) := by
  obtain ⟨ao, capk, rfl, hkmax⟩ := (hK.sat hS 1 rfl).shape
  obtain ⟨⟨fv, qv, l⟩, hI, hS⟩ := refT_open hS; dsimp only at hI hS
  refine calls_enter Tryd.func27 rfl Tryd.ntmps27 rfl ?_
  refine wc_seq ?_
  refine wc_region ?_
  refine wl_move rfl rfl ?_
  refine wl_move rfl rfl ?_
  refine wl_maxI rfl rfl rfl ?_
  refine wl_nilCheck rfl rfl ?_
  refine wl_fieldAddr rfl fo_65_4 rfl ?_
  first | (refine wl_store hS rfl rfl sz_3 (by first | rfl | assumption | exact hS.own_one 1 rfl | exact hS.own_one 2 rfl) (i := 0) rfl (by first | decide | exact Nat.le_of_ble_eq_true rfl | (simp; done) | omega) ?_)
  intro w1 hS2; dsimp only [List.set] at hS2
  refine wl_nil ?_
  refine qs_seq ?_
  refine wc_region ?_
  refine wl_move rfl rfl ?_
  refine wl_rowBuild inC [] hS2 rfl Tryd.underlying39 ifz_3 rfl rfl rfl rfl (by first | rfl | simp [RowC.cells, fillL, splice]) rfl ?_
  intro b3 w3 hS3
  clear hS2
  refine wl_move rfl rfl ?_
  refine wl_rowApp inC 0 hS3 rfl rfl rfl ((hK.sat hS3 4 rfl)) Tryd.underlying39 Tryd.underlying39 (by intro k hk; cases hk) ifo_3 rfl (by simp only [List.length_nil]; omega) rfl (by simp only [List.length_nil]; omega) ?_
  intro v4 w4 hS4; dsimp only [List.set] at hS4
  clear hS3
  have h1v4 : v4.oneCell' = true := hS4.own_one 0 rfl
  refine wl_nilCheck rfl rfl ?_
  refine wl_fieldAddr rfl fo_65_5 rfl ?_
  first | (refine wl_store hS4 rfl rfl sz_39 (by first | rfl | assumption | exact hS4.own_one 0 rfl | exact hS4.own_one 2 rfl | exact hS4.own_one 3 rfl) (i := 1) rfl (by first | decide | exact Nat.le_of_ble_eq_true rfl | (simp; done) | omega) ?_)
  intro w5 hS6; dsimp only [List.set] at hS6
  clear hS4
  refine wl_nil ?_
  refine fin0 (.inl rfl) rfl ?_
  exact ⟨_, rfl, _, rfl, armR_end hI hn hS6⟩

def rT (p : Nat) (D : DS) : Th := exT fun kp : Value => starL [pureT (D.keep.length ≤ 1000), refT p kp D, rowT inC kp D.keep]
theorem rT_open {w : World} {p : Nat} {D : DS} {As : List Th} (h : Sat w (rT p D :: As)) : ∃ kp, D.keep.length ≤ 1000 ∧ Sat w (refT p kp D :: rowT inC kp D.keep :: As) := by
  obtain ⟨kp, h⟩ := h.ex
  exact ⟨kp, h.flat.pure_elim⟩
theorem rT_shut {w : World} {p : Nat} {D : DS} {As : List Th} (kp : Value) (hl : D.keep.length ≤ 1000) (h : Sat w (refT p kp D :: rowT inC kp D.keep :: As)) : Sat w (rT p D :: As) :=
  Sat.ex_intro kp (Sat.fold (As := [pureT (D.keep.length ≤ 1000), refT p kp D, rowT inC kp D.keep]) (Sat.pure_intro hl h))
theorem keepR_ent {kp : Value} {D : DS} {F : Th} (h : D.keep.length ≤ 1000) : Ent (starL [rowT inC kp D.keep, F]) (RdL inC kp D.keep) := Ent.starL (A := rowT inC kp D.keep) (ent_row (by omega)) 0 rfl
theorem rT_same {w : World} {p : Nat} {kp : Value} {D D' : DS} {F : Th} (hl : D.keep.length ≤ 1000) (hk : D'.keep = D.keep) (h : Sat w [refT p kp D', starL [rowT inC kp D.keep, F]]) : Sat w [rT p D', F] :=
  rT_shut kp (by rw [hk]; exact hl) (by have := h.join rfl; rw [hk]; exact this)
theorem rT_new {w : World} {p : Nat} {F : Th} (h : Sat w [refT p (.slice none 0 0) newD, F]) : Sat w [rT p newD, F] :=
  rT_shut (.slice none 0 0) (by simp [newD]) ((h.row_nil inC).reorder [1, 0, 2] rfl)
theorem sizeRT {w : World} {p : Nat} {D : DS} {F : Th} (hS : Sat w [rT p D, F]) (f : Int) : Calls Tryd.prog 33 #[ptrV p 0, intV f] w (Ret fun v w' => v = intV (D.F f).1.length ∧ Sat w' [rT p D, F]) := by
  obtain ⟨kp, hl, hS⟩ := rT_open hS
  have hC := hS.split [0] [true, false, false] rfl; dsimp only [selF, pickA, nthA, List.cons_append, List.nil_append] at hC
  refine (sizeR_sp hC f).mono fun e w' h => h.mono fun v w' ⟨h1, h2⟩ => ⟨h1, ?_⟩
  exact rT_same hl (rfl) h2
theorem readRT {w : World} {p : Nat} {D : DS} {F : Th} (hS : Sat w [rT p D, F]) (f a n : Int) : Calls Tryd.prog 32 #[ptrV p 0, intV f, intV a, intV n] w (Ret fun v w' => v = .tuple #[strV (ReadS D f a n), intV (ReadE D f a n)] ∧ Sat w' [rT p D, F]) := by
  obtain ⟨kp, hl, hS⟩ := rT_open hS
  have hC := hS.split [0] [true, false, false] rfl; dsimp only [selF, pickA, nthA, List.cons_append, List.nil_append] at hC
  refine (readR_sp hC f a n).mono fun e w' h => h.mono fun v w' ⟨h1, h2⟩ => ⟨h1, ?_⟩
  exact rT_same hl (rfl) h2
theorem syncRT {w : World} {p : Nat} {D : DS} {F : Th} (hS : Sat w [rT p D, F]) (f : Int) : Calls Tryd.prog 45 #[ptrV p 0, intV f] w (Ret fun v w' => v = intV (SyncE D f) ∧ Sat w' [rT p (SyncD D f), F]) := by
  obtain ⟨kp, hl, hS⟩ := rT_open hS
  have hC := hS.split [0] [true, false, false] rfl; dsimp only [selF, pickA, nthA, List.cons_append, List.nil_append] at hC
  refine (SyncR_sp hC (keepR_ent hl) f).mono fun e w' h => h.mono fun v w' ⟨h1, h2⟩ => ⟨h1, ?_⟩
  exact rT_same hl (SyncD_keep _ _) h2
theorem writeRT {w : World} {p : Nat} {D : DS} {F : Th} (hS : Sat w [rT p D, F]) (f a : Int) (s : Bytes) (hs : s.length ≤ 1099511627776) : Calls Tryd.prog 12 #[ptrV p 0, intV f, intV a, strV s] w (Ret fun v w' => v = intV (WriteE D f a s) ∧ Sat w' [rT p (WriteD D f a s), F]) := by
  obtain ⟨kp, hl, hS⟩ := rT_open hS
  have hC := hS.split [0] [true, false, false] rfl; dsimp only [selF, pickA, nthA, List.cons_append, List.nil_append] at hC
  refine (writeR_sp hC (keepR_ent hl) f a s hs).mono fun e w' h => h.mono fun v w' ⟨h1, h2⟩ => ⟨h1, ?_⟩
  exact rT_same hl (WriteD_keep _ _ _ _) h2
theorem startRT {w : World} {p : Nat} {D : DS} {F : Th} (hS : Sat w [rT p D, F])  : Calls Tryd.prog 29 #[ptrV p 0] w (Ret fun v w' => v = .tuple #[] ∧ Sat w' [rT p (startD D), F]) := by
  obtain ⟨kp, hl, hS⟩ := rT_open hS
  have hC := hS.split [0] [true, false, false] rfl; dsimp only [selF, pickA, nthA, List.cons_append, List.nil_append] at hC
  refine (startR_sp hC).mono fun e w' h => h.mono fun v w' ⟨h1, h2⟩ => ⟨h1, ?_⟩
  exact rT_same hl (rfl) h2
theorem loseRT {w : World} {p : Nat} {D : DS} {F : Th} (hS : Sat w [rT p D, F]) (n : Int) (hn : n ≤ 9223372036854775807) : Calls Tryd.prog 26 #[ptrV p 0, intV n] w (Ret fun v w' => v = .tuple #[] ∧ Sat w' [rT p { D with lost := max n 0 }, F]) := by
  obtain ⟨kp, hl, hS⟩ := rT_open hS
  have hC := hS.split [0] [true, false, false] rfl; dsimp only [selF, pickA, nthA, List.cons_append, List.nil_append] at hC
  refine (loseR_sp hC n hn).mono fun e w' h => h.mono fun v w' ⟨h1, h2⟩ => ⟨h1, ?_⟩
  exact rT_same hl (rfl) h2
theorem crashRT {w : World} {p : Nat} {D : DS} {F : Th} (hS : Sat w [rT p D, F]) {kv : Value} {ks : List Int} (hK : Ent F (RdL inC kv ks)) : Calls Tryd.prog 28 #[ptrV p 0, kv] w (Ret fun v w' => v = .tuple #[] ∧ Sat w' [rT p (crashD D ks), F]) := by
  obtain ⟨kp, hl, hS⟩ := rT_open hS
  have hC := hS.split [0] [true, false, false] rfl; dsimp only [selF, pickA, nthA, List.cons_append, List.nil_append] at hC
  refine (crashR_sp hC (hK.starL 1 rfl)).mono fun e w' h => h.mono fun v w' ⟨h1, h2⟩ => ⟨h1, ?_⟩
  exact rT_same hl (crashD_keep _ _) h2
theorem armRT {w : World} {p : Nat} {D : DS} {F : Th} (hS : Sat w [rT p D, F]) (n : Int) (hn : n ≤ 9223372036854775807) {kv : Value} {ks : List Int} (hK : Ent F (RdL inC kv ks)) (hl : ks.length ≤ 1000) : Calls Tryd.prog 27 #[ptrV p 0, intV n, kv] w (Ret fun v w' => v = .tuple #[] ∧ Sat w' [rT p (armD D n ks), F]) := by
  obtain ⟨kp, _, hS⟩ := rT_open hS
  have hC := hS.split [0] [true, false, false] rfl; dsimp only [selF, pickA, nthA, List.cons_append, List.nil_append] at hC
  refine (armR_sp hC n hn (hK.starL 1 rfl) (by omega)).mono fun e w' h => h.mono fun v w' ⟨kv', h1, h2⟩ => ⟨h1, ?_⟩
  have h4 := h2.join rfl
  dsimp only [List.dropLast, List.cons_append, List.nil_append] at h4
  exact rT_shut kv' (by show ks.length ≤ 1000; omega) (h4.drop 2 rfl)
end Go.Proofs.YtleaahajkncnpaaDoor
