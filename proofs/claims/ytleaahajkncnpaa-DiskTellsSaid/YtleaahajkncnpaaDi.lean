/- laws of disk: one act -/
import Derived.Test.YtleaahajkncnpaaDh
namespace Go.Proofs.Ytleaahajkncnpaa
open Go.RowKit M
set_option linter.unusedVariables false
structure ActD where
  d : Int
  f : Int
  n : Int
  s : Bytes
  kv : Value
  ks : List Int
def actV (a : ActD) : List Value := [intV a.d, intV a.f, intV a.n, strV a.s, a.kv]
/-- a slice of acts, as it is read -/
def ActsRd (v : Value) (l : List ActD) (w : World) : Prop := ∃ ao cap, v = .slice ao l.length cap ∧ l.length ≤ 9223372036854775807 ∧ ∀ (i : Nat) (a : ActD), l[i]? = some a →
  (∃ b off, ao = some ⟨b, off, none⟩ ∧ ∀ (j : Nat) (u : Value), (actV a)[j]? = some u → w.cell? ⟨b, off + i * 5 + j, none⟩ = some u) ∧ RdI a.kv a.ks w ∧ a.n ≤ 9223372036854775807
theorem ActsRd.shape {v : Value} {l : List ActD} {w : World} (h : ActsRd v l w) : ∃ ao cap, v = .slice ao l.length cap ∧ l.length ≤ 9223372036854775807 := by obtain ⟨ao, cap, h1, h2, _⟩ := h; exact ⟨ao, cap, h1, h2⟩
theorem ActsRd.get {ao : Option Addr} {n cap i : Nat} {l : List ActD} {a : ActD} {w : World} (h : ActsRd (.slice ao n cap) l w) (ha : l[i]? = some a) :
    (∃ b off, ao = some ⟨b, off, none⟩ ∧ ∀ (j : Nat) (u : Value), (actV a)[j]? = some u → w.cell? ⟨b, off + i * 5 + j, none⟩ = some u) ∧ RdI a.kv a.ks w ∧ a.n ≤ 9223372036854775807 := by
  obtain ⟨ao', cap', h1, _, h3⟩ := h
  cases h1
  exact h3 i a ha
def okA (a : ActD) : Bool := !(decide (300 < a.s.length) || decide (60 < a.ks.length) || (decide (3000 < a.n) && decide (a.n < 16776916)))
def fewB (l : List ActD) : Bool := l.all okA && decide (l.length ≤ 40)
def doE (D : DS) (a : ActD) : Int := if a.d % 8 = 2 then SyncE D a.f else if a.d % 8 = 3 then TruncE D a.f a.n else if a.d % 8 = 4 ∨ a.d % 8 = 5 ∨ a.d % 8 = 6 ∨ a.d % 8 = 7 then 0 else WriteE D a.f a.n a.s
def doD (D : DS) (a : ActD) : DS := if a.d % 8 = 2 then SyncD D a.f else if a.d % 8 = 3 then TruncD D a.f a.n else if a.d % 8 = 4 then { D with lost := max (a.n % 4) 0 } else if a.d % 8 = 5 then { D with armed := max a.n 0, keep := a.ks } else if a.d % 8 = 6 then crashD D a.ks else if a.d % 8 = 7 then { D with down := false } else WriteD D a.f a.n a.s
/-- the keep of a disk: what a call leaves of it -/
def Kept (p : Nat) (kp : Value) (D D' : DS) (F : Th) (w' : World) : Prop := (D'.keep = D.keep ∧ Sat w' [diskT p kp D', F]) ∨ ∃ kv', Sat w' [diskT p kv' D', ownT kv' D'.keep.length 1 (intsV D'.keep), F]
theorem crashD_keep (D : DS) (k : List Int) : (crashD D k).keep = D.keep := by unfold crashD; split <;> rfl
theorem lateD_keep (D : DS) : (lateD D).keep = D.keep := by unfold lateD; split; rw [crashD_keep, endsD_keep]; exact endsD_keep D
theorem SyncD_keep (D : DS) (f : Int) : (SyncD D f).keep = D.keep := by unfold SyncD; split; exact lateD_keep D; split <;> exact lateD_keep D
theorem TruncD_keep (D : DS) (f s : Int) : (TruncD D f s).keep = D.keep := by unfold TruncD; split <;> exact lateD_keep D
theorem WriteD_keep (D : DS) (f a : Int) (s : Bytes) : (WriteD D f a s).keep = D.keep := by simp only [WriteD]; split; rw [crashD_keep, writeD_keep, endsD_keep]; rw [writeD_keep, endsD_keep]
theorem do_sp {w : World} {p : Nat} {kp : Value} {D : DS} {F : Th} (hS : Sat w [diskT p kp D, F]) (hK : Ent F (RdI kp D.keep)) (a : ActD) (hA : Ent F (RdI a.kv a.ks)) (hn : a.n ≤ 9223372036854775807) (hl : a.ks.length ≤ 1000000) :
    Calls Try.prog 11 #[ptrV p 0, .agg #[intV a.d, intV a.f, intV a.n, strV a.s, a.kv]] w (Ret fun v w' => v = intV (doE D a) ∧ Kept p kp D (doD D a) F w') := by
  refine calls_enter Try.func11 rfl Try.ntmps11 rfl ?_
  refine wc_seq ?_
  refine wc_region ?_
  refine wl_box hS rfl rfl rfl ?_
  intro b1 w1 hS1
  refine wl_assign rfl rfl ?_
  refine wl_nil ?_
  refine qs_seq ?_
  refine wc_seq ?_
  refine wc_seq ?_
  refine wc_region ?_
  refine wl_fieldAddr rfl fo_33_0 rfl ?_
  refine wl_load rfl ag_3 (by first | assumption | exact hS1.cell 0 rfl rfl) rfl ?_
  refine wl_mask 3 rfl rfl rfl rfl (q := 8) rfl rfl ?_
  refine wl_nil ?_
  refine qs_seq ?_
  refine wc_block ?_
  refine wc_seq ?_
  refine wc_region ?_
  refine wl_eql rfl rfl rfl ?_
  refine wl_assign rfl rfl ?_
  refine wl_nil ?_
  refine qs_seq ?_
  refine wc_condD rfl (fun h2 => ?_) (fun h2 => ?_)
  · skip
    have hT0 : a.d % 8 = 2 := h2
    refine wc_seq ?_
    refine wc_region ?_
    refine wl_move rfl rfl ?_
    refine wl_fieldAddr rfl fo_33_1 rfl ?_
    refine wl_load rfl ag_3 (by first | assumption | exact hS1.cell 0 rfl rfl) rfl ?_
    have hC3 := hS1.split [1] [false, true, false] rfl; dsimp only [selF, pickA, nthA, List.cons_append, List.nil_append] at hC3
    refine wl_call cal_18 rfl (Sync_sp hC3 (hK.starL 1 rfl) a.f) rfl ?_
    rintro e w3 ⟨_, rfl, rfl, hS3⟩; refine ⟨_, rfl, ?_⟩
    replace hS3 := hS3.join rfl; dsimp only [List.dropLast, List.cons_append, List.nil_append] at hS3; clear hC3
    clear hS1
    refine wl_assign rfl rfl ?_
    refine wl_nil ?_
    refine qs_seq ?_
    refine wc_sub (L' := [(4, _)]) (.cons rfl .nil) ?_
    refine wc_ret ?_
    refine qs_block_ret ?_
    refine qs_then_ret ?_
    refine fin1 (.inr rfl) rfl rfl ?_
    exact ⟨_, rfl, by simp [doE, *], .inl (by simp only [doD]; simp only [*, if_true, if_false, reduceIte, Int.reduceEq]; first | exact ⟨SyncD_keep _ _, hS3.drop 1 rfl⟩ | exact ⟨TruncD_keep _ _ _, hS3.drop 1 rfl⟩ | exact ⟨WriteD_keep _ _ _ _, hS3.drop 1 rfl⟩ | exact ⟨crashD_keep _ _, hS3.drop 1 rfl⟩ | exact ⟨rfl, hS3.drop 1 rfl⟩ | exact ⟨trivial, hS3.drop 1 rfl⟩)⟩
  · skip
    have hF0 : ¬ a.d % 8 = 2 := h2
    refine wc_seq ?_
    refine wc_region ?_
    refine wl_eql rfl rfl rfl ?_
    refine wl_assign rfl rfl ?_
    refine wl_nil ?_
    refine qs_seq ?_
    refine wc_sub (L' := [(22, _), (7, _), (4, _), (3, _), (0, _)]) (.cons rfl (.cons rfl (.cons rfl (.cons rfl (.cons rfl .nil))))) ?_
    refine wc_condD rfl (fun h4 => ?_) (fun h4 => ?_)
    · skip
      have hT1 : a.d % 8 = 3 := h4
      refine wc_seq ?_
      refine wc_region ?_
      refine wl_move rfl rfl ?_
      refine wl_fieldAddr rfl fo_33_1 rfl ?_
      refine wl_load rfl ag_3 (by first | assumption | exact hS1.cell 0 rfl rfl) rfl ?_
      refine wl_fieldAddr rfl fo_33_2 rfl ?_
      refine wl_load rfl ag_3 (by first | assumption | exact hS1.cell 0 rfl rfl) rfl ?_
      have hC5 := hS1.split [1] [false, true, false] rfl; dsimp only [selF, pickA, nthA, List.cons_append, List.nil_append] at hC5
      refine wl_call cal_27 rfl (Trunc_sp hC5 (hK.starL 1 rfl) a.f a.n) rfl ?_
      rintro e w5 ⟨_, rfl, rfl, hS5⟩; refine ⟨_, rfl, ?_⟩
      replace hS5 := hS5.join rfl; dsimp only [List.dropLast, List.cons_append, List.nil_append] at hS5; clear hC5
      clear hS1
      refine wl_assign rfl rfl ?_
      refine wl_nil ?_
      refine qs_seq ?_
      refine wc_sub (L' := [(4, _)]) (.cons rfl .nil) ?_
      refine wc_ret ?_
      refine qs_block_ret ?_
      refine qs_then_ret ?_
      refine fin1 (.inr rfl) rfl rfl ?_
      exact ⟨_, rfl, by simp [doE, *], .inl (by simp only [doD]; simp only [*, if_true, if_false, reduceIte, Int.reduceEq]; first | exact ⟨SyncD_keep _ _, hS5.drop 1 rfl⟩ | exact ⟨TruncD_keep _ _ _, hS5.drop 1 rfl⟩ | exact ⟨WriteD_keep _ _ _ _, hS5.drop 1 rfl⟩ | exact ⟨crashD_keep _ _, hS5.drop 1 rfl⟩ | exact ⟨rfl, hS5.drop 1 rfl⟩ | exact ⟨trivial, hS5.drop 1 rfl⟩)⟩
    · skip
      have hF1 : ¬ a.d % 8 = 3 := h4
      refine wc_seq ?_
      refine wc_region ?_
      refine wl_eql rfl rfl rfl ?_
      refine wl_assign rfl rfl ?_
      refine wl_nil ?_
      refine qs_seq ?_
      refine wc_condD rfl (fun h6 => ?_) (fun h6 => ?_)
      · skip
        have hT2 : a.d % 8 = 4 := h6
        refine wc_region ?_
        refine wl_move rfl rfl ?_
        refine wl_fieldAddr rfl fo_33_2 rfl ?_
        refine wl_load rfl ag_3 (by first | assumption | exact hS1.cell 0 rfl rfl) rfl ?_
        refine wl_mask 2 rfl rfl rfl rfl (q := 4) rfl rfl ?_
        have hC7 := hS1.split [1] [false, true, false] rfl; dsimp only [selF, pickA, nthA, List.cons_append, List.nil_append] at hC7
        refine wl_call cal_28 rfl (lose_sp hC7 (a.n % 4) (by omega)) rfl ?_
        rintro e w7 ⟨_, rfl, rfl, hS7⟩; refine ⟨_, rfl, ?_⟩
        replace hS7 := hS7.join rfl; dsimp only [List.dropLast, List.cons_append, List.nil_append] at hS7; clear hC7
        clear hS1
        refine wl_nil ?_
        refine qs_block_normal ?_
        refine qs_seq ?_
        refine wc_sub (L' := [(4, _)]) (.cons rfl .nil) ?_
        refine wc_seq ?_
        refine wc_region ?_
        refine wl_assign rfl rfl ?_
        refine wl_nil ?_
        refine qs_seq ?_
        refine wc_ret ?_
        refine fin1 (.inr rfl) rfl rfl ?_
        exact ⟨_, rfl, by simp [doE, *], .inl (by simp only [doD]; simp only [*, if_true, if_false, reduceIte, Int.reduceEq]; first | exact ⟨SyncD_keep _ _, hS7.drop 1 rfl⟩ | exact ⟨TruncD_keep _ _ _, hS7.drop 1 rfl⟩ | exact ⟨WriteD_keep _ _ _ _, hS7.drop 1 rfl⟩ | exact ⟨crashD_keep _ _, hS7.drop 1 rfl⟩ | exact ⟨rfl, hS7.drop 1 rfl⟩ | exact ⟨trivial, hS7.drop 1 rfl⟩)⟩
      · skip
        have hF2 : ¬ a.d % 8 = 4 := h6
        refine wc_seq ?_
        refine wc_region ?_
        refine wl_eql rfl rfl rfl ?_
        refine wl_assign rfl rfl ?_
        refine wl_nil ?_
        refine qs_seq ?_
        refine wc_condD rfl (fun h8 => ?_) (fun h8 => ?_)
        · skip
          have hT3 : a.d % 8 = 5 := h8
          refine wc_region ?_
          refine wl_move rfl rfl ?_
          refine wl_fieldAddr rfl fo_33_2 rfl ?_
          refine wl_load rfl ag_3 (by first | assumption | exact hS1.cell 0 rfl rfl) rfl ?_
          refine wl_fieldAddr rfl fo_33_4 rfl ?_
          refine wl_load rfl ag_31 (by first | assumption | exact hS1.cell 0 rfl rfl) rfl ?_
          have hC9 := hS1.split [1] [false, true, false] rfl; dsimp only [selF, pickA, nthA, List.cons_append, List.nil_append] at hC9
          refine wl_call cal_24 rfl (arm_sp hC9 a.n hn (hA.starL 1 rfl) hl) rfl ?_
          rintro e w9 ⟨_, rfl, kv9, rfl, hS9⟩; refine ⟨_, rfl, ?_⟩
          replace hS9 := hS9.join rfl; dsimp only [List.dropLast, List.cons_append, List.nil_append] at hS9; clear hC9
          clear hS1
          refine wl_nil ?_
          refine qs_block_normal ?_
          refine qs_seq ?_
          refine wc_sub (L' := [(4, _)]) (.cons rfl .nil) ?_
          refine wc_seq ?_
          refine wc_region ?_
          refine wl_assign rfl rfl ?_
          refine wl_nil ?_
          refine qs_seq ?_
          refine wc_ret ?_
          refine fin1 (.inr rfl) rfl rfl ?_
          exact ⟨_, rfl, by simp [doE, *], .inr ⟨_, by have e : doD D a = { D with armed := max a.n 0, keep := a.ks } := (by simp [doD, *]); rw [e]; exact hS9.drop 2 rfl⟩⟩
        · skip
          have hF3 : ¬ a.d % 8 = 5 := h8
          refine wc_seq ?_
          refine wc_region ?_
          refine wl_eql rfl rfl rfl ?_
          refine wl_assign rfl rfl ?_
          refine wl_nil ?_
          refine qs_seq ?_
          refine wc_sub (L' := [(45, _), (7, _), (4, _), (3, _), (0, _)]) (.cons rfl (.cons rfl (.cons rfl (.cons rfl (.cons rfl .nil))))) ?_
          refine wc_condD rfl (fun h10 => ?_) (fun h10 => ?_)
          · skip
            have hT4 : a.d % 8 = 6 := h10
            refine wc_region ?_
            refine wl_move rfl rfl ?_
            refine wl_fieldAddr rfl fo_33_4 rfl ?_
            refine wl_load rfl ag_31 (by first | assumption | exact hS1.cell 0 rfl rfl) rfl ?_
            have hC11 := hS1.split [1] [false, true, false] rfl; dsimp only [selF, pickA, nthA, List.cons_append, List.nil_append] at hC11
            refine wl_call cal_22 rfl (crash_sp hC11 (hA.starL 1 rfl)) rfl ?_
            rintro e w11 ⟨_, rfl, rfl, hS11⟩; refine ⟨_, rfl, ?_⟩
            replace hS11 := hS11.join rfl; dsimp only [List.dropLast, List.cons_append, List.nil_append] at hS11; clear hC11
            clear hS1
            refine wl_nil ?_
            refine qs_block_normal ?_
            refine qs_seq ?_
            refine wc_seq ?_
            refine wc_region ?_
            refine wl_assign rfl rfl ?_
            refine wl_nil ?_
            refine qs_seq ?_
            refine wc_ret ?_
            refine fin1 (.inr rfl) rfl rfl ?_
            exact ⟨_, rfl, by simp [doE, *], .inl (by simp only [doD]; simp only [*, if_true, if_false, reduceIte, Int.reduceEq]; first | exact ⟨SyncD_keep _ _, hS11.drop 1 rfl⟩ | exact ⟨TruncD_keep _ _ _, hS11.drop 1 rfl⟩ | exact ⟨WriteD_keep _ _ _ _, hS11.drop 1 rfl⟩ | exact ⟨crashD_keep _ _, hS11.drop 1 rfl⟩ | exact ⟨rfl, hS11.drop 1 rfl⟩ | exact ⟨trivial, hS11.drop 1 rfl⟩)⟩
          · skip
            have hF4 : ¬ a.d % 8 = 6 := h10
            refine wc_seq ?_
            refine wc_region ?_
            refine wl_eql rfl rfl rfl ?_
            refine wl_assign rfl rfl ?_
            refine wl_nil ?_
            refine qs_seq ?_
            refine wc_condD rfl (fun h12 => ?_) (fun h12 => ?_)
            · skip
              have hT5 : a.d % 8 = 7 := h12
              refine wc_region ?_
              refine wl_move rfl rfl ?_
              have hC13 := hS1.split [1] [false, true, false] rfl; dsimp only [selF, pickA, nthA, List.cons_append, List.nil_append] at hC13
              refine wl_call cal_23 rfl (start_sp hC13) rfl ?_
              rintro e w13 ⟨_, rfl, rfl, hS13⟩; refine ⟨_, rfl, ?_⟩
              replace hS13 := hS13.join rfl; dsimp only [List.dropLast, List.cons_append, List.nil_append] at hS13; clear hC13
              clear hS1
              refine wl_nil ?_
              refine qs_block_normal ?_
              refine qs_seq ?_
              refine wc_seq ?_
              refine wc_region ?_
              refine wl_assign rfl rfl ?_
              refine wl_nil ?_
              refine qs_seq ?_
              refine wc_ret ?_
              refine fin1 (.inr rfl) rfl rfl ?_
              exact ⟨_, rfl, by simp [doE, *], .inl (by simp only [doD]; simp only [*, if_true, if_false, reduceIte, Int.reduceEq]; first | exact ⟨SyncD_keep _ _, hS13.drop 1 rfl⟩ | exact ⟨TruncD_keep _ _ _, hS13.drop 1 rfl⟩ | exact ⟨WriteD_keep _ _ _ _, hS13.drop 1 rfl⟩ | exact ⟨crashD_keep _ _, hS13.drop 1 rfl⟩ | exact ⟨rfl, hS13.drop 1 rfl⟩ | exact ⟨trivial, hS13.drop 1 rfl⟩)⟩
            · skip
              have hF5 : ¬ a.d % 8 = 7 := h12
              refine wc_seq ?_
              refine wc_region ?_
              refine wl_move rfl rfl ?_
              refine wl_fieldAddr rfl fo_33_1 rfl ?_
              refine wl_load rfl ag_3 (by first | assumption | exact hS1.cell 0 rfl rfl) rfl ?_
              refine wl_fieldAddr rfl fo_33_2 rfl ?_
              refine wl_load rfl ag_3 (by first | assumption | exact hS1.cell 0 rfl rfl) rfl ?_
              refine wl_fieldAddr rfl fo_33_3 rfl ?_
              refine wl_load rfl ag_9 (by first | assumption | exact hS1.cell 0 rfl rfl) rfl ?_
              have hC14 := hS1.split [1] [false, true, false] rfl; dsimp only [selF, pickA, nthA, List.cons_append, List.nil_append] at hC14
              refine wl_call cal_26 rfl (Write_sp hC14 (hK.starL 1 rfl) a.f a.n a.s) rfl ?_
              rintro e w14 ⟨_, rfl, rfl, hS14⟩; refine ⟨_, rfl, ?_⟩
              replace hS14 := hS14.join rfl; dsimp only [List.dropLast, List.cons_append, List.nil_append] at hS14; clear hC14
              clear hS1
              refine wl_assign rfl rfl ?_
              refine wl_nil ?_
              refine qs_seq ?_
              refine wc_sub (L' := [(4, _)]) (.cons rfl .nil) ?_
              refine wc_ret ?_
              refine qs_block_ret ?_
              refine qs_then_ret ?_
              refine fin1 (.inr rfl) rfl rfl ?_
              exact ⟨_, rfl, by simp [doE, *], .inl (by simp only [doD]; simp only [*, if_true, if_false, reduceIte, Int.reduceEq]; first | exact ⟨SyncD_keep _ _, hS14.drop 1 rfl⟩ | exact ⟨TruncD_keep _ _ _, hS14.drop 1 rfl⟩ | exact ⟨WriteD_keep _ _ _ _, hS14.drop 1 rfl⟩ | exact ⟨crashD_keep _ _, hS14.drop 1 rfl⟩ | exact ⟨rfl, hS14.drop 1 rfl⟩ | exact ⟨trivial, hS14.drop 1 rfl⟩)⟩

theorem few_bad {l : List ActD} {i : Nat} {a : ActD} (ha : l[i]? = some a) (h : okA a = false) : Value.bool false = .bool (fewB l) := by
  have : l.all okA = false := by
    rw [List.all_eq_false]; exact ⟨a, List.mem_of_getElem? ha, by rw [h]; simp⟩
  simp [fewB, this]
theorem few_end {l : List ActD} {i : Nat} (hok : ∀ j a, j < i → l[j]? = some a → okA a = true) (hi : i ≤ l.length) (he : ¬ i < l.length) : Value.bool (decide ((l.length : Int) ≤ 40)) = .bool (fewB l) := by
  have : l.all okA = true := by
    rw [List.all_eq_true]; intro a ha
    obtain ⟨j, hj⟩ := List.mem_iff_getElem?.1 ha
    exact hok j a (by have := (List.getElem?_eq_some_iff.1 hj).1; omega) hj
  simp only [fewB, this, Bool.true_and, Value.bool.injEq]
  rw [Bool.eq_iff_iff]; simp; omega
set_option maxRecDepth 100000 in
theorem few_sp {w : World} {F : Th} (hS : Sat w [F]) {lv : Value} {l : List ActD} (hL : Ent F (ActsRd lv l)) :
    Calls Try.prog 8 #[lv] w (Ret fun v w' => v = .bool (fewB l) ∧ Sat w' [F]) := by
  obtain ⟨ao, cap, rfl, hmax⟩ := (hL.sat hS 0 rfl).shape
  refine calls_enter Try.func8 rfl Try.ntmps8 rfl ?_
  refine wc_seq ?_
  refine wc_region ?_
  refine wl_assign rfl rfl ?_
  refine wl_nil ?_
  refine qs_seq ?_
  refine wc_seq ?_
  refine wc_seq ?_
  refine wc_region ?_
  refine wl_assign rfl rfl ?_
  refine wl_nil ?_
  refine qs_seq ?_
  refine wc_block ?_
  refine wc_loop (fun K0 E0 W0 => ∃ (i : Nat), K0 = l.length - i ∧ E0 = [(0, .slice ao l.length cap), (2, .bool false), (3, intV (i : Int))] ∧ Sat W0 [F] ∧ (i ≤ l.length) ∧ (∀ j a, j < i → l[j]? = some a → okA a = true)) (L0 := [(0, _), (2, _), (3, _)]) (l.length) (.cons rfl (.cons rfl (.cons rfl .nil))) ⟨0, by omega, rfl, hS, by omega, by omega⟩ ?_
  rintro _ _ w1 ⟨i, rfl, rfl, hS1, hi, hok⟩
  refine wc_seq ?_
  refine wc_seq ?_
  refine wc_region ?_
  refine wl_move rfl rfl ?_
  refine wl_move rfl rfl ?_
  refine wl_lenL Try.underlying22 rfl rfl ?_
  refine wl_lss rfl rfl rfl ?_
  refine wl_nil ?_
  refine qs_seq ?_
  refine wc_condD rfl (fun h2 => ?_) (fun h2 => ?_)
  · skip
    obtain ⟨a, ha⟩ : ∃ a, l[i]? = some a := ⟨_, List.getElem?_eq_getElem (by omega)⟩
    obtain ⟨⟨b, off, rfl, hc⟩, hrk, hn⟩ := (hL.sat hS1 0 rfl).get ha
    obtain ⟨aok, capk, hkv, hkm⟩ := hrk.shape
    have c3 := hc 3 _ rfl; have c4 := hc 4 _ rfl; have c2 := hc 2 _ rfl; rw [hkv] at c4; clear hc
    refine wc_skip ?_
    refine qs_seq ?_
    refine wc_seq ?_
    refine wc_block ?_
    refine wc_seq ?_
    refine wc_region ?_
    refine wl_move rfl rfl ?_
    refine wl_move rfl rfl ?_
    refine wl_indexAddr _ rfl rfl (by first | rfl | omega) (by omega) es_22 rfl ?_
    refine wl_fieldAddr rfl fo_33_3 rfl ?_
    refine wl_load rfl ag_9 (by first | assumption) rfl ?_
    refine wl_lenS Try.underlying9 rfl rfl ?_
    refine wl_gtr rfl rfl rfl ?_
    refine wl_move rfl rfl ?_
    refine wl_splitD 17 rfl (fun h3 => ?_) (fun h3 => ?_)
    · skip
      refine wl_unwanted rfl rfl (decide_eq_true h3) rfl ?_
      refine wl_unwanted rfl rfl (decide_eq_true h3) rfl ?_
      refine wl_unwanted rfl rfl (decide_eq_true h3) rfl ?_
      refine wl_unwanted rfl rfl (decide_eq_true h3) rfl ?_
      refine wl_unwanted rfl rfl (decide_eq_true h3) rfl ?_
      refine wl_unwanted rfl rfl (decide_eq_true h3) rfl ?_
      refine wl_unwanted rfl rfl (decide_eq_true h3) rfl ?_
      refine wl_pickT rfl (decide_eq_true h3) rfl rfl ?_
      refine wl_move rfl rfl ?_
      refine wl_unwanted rfl rfl rfl rfl ?_
      refine wl_unwanted rfl rfl rfl rfl ?_
      refine wl_unwanted rfl rfl rfl rfl ?_
      refine wl_unwanted rfl rfl rfl rfl ?_
      refine wl_unwanted rfl rfl rfl rfl ?_
      refine wl_unwanted rfl rfl rfl rfl ?_
      refine wl_unwanted rfl rfl rfl rfl ?_
      refine wl_unguarded rfl rfl rfl ?_
      refine wl_unguarded rfl rfl rfl ?_
      refine wl_unguarded rfl rfl rfl ?_
      refine wl_unguarded rfl rfl rfl ?_
      refine wl_unguarded rfl rfl rfl ?_
      refine wl_unguarded rfl rfl rfl ?_
      refine wl_unwanted rfl rfl rfl rfl ?_
      refine wl_pickT rfl rfl rfl rfl ?_
      refine wl_nil ?_
      refine qs_seq ?_
      refine wc_sub (L' := [(41, _), (0, _), (2, _), (3, _)]) (.cons rfl (.cons rfl (.cons rfl (.cons rfl .nil)))) ?_
      refine wc_condT rfl ?_
      refine wc_seq ?_
      refine wc_region ?_
      refine wl_assign rfl rfl ?_
      refine wl_nil ?_
      refine qs_seq ?_
      refine wc_ret ?_
      refine qs_block_ret ?_
      refine qs_then_ret ?_
      refine qs_then_ret ?_
      refine qs_block_ret ?_
      refine qs_then_ret ?_
      refine fin1 (.inr rfl) rfl rfl ?_
      exact ⟨_, rfl, few_bad ha (by simp [okA]; omega), hS1⟩
    · skip
      refine wl_guard rfl rfl (decide_eq_false h3) ?_
      refine wl_move rfl rfl ?_
      refine wl_guard rfl rfl (decide_eq_false h3) ?_
      refine wl_move rfl rfl ?_
      refine wl_guard rfl rfl (decide_eq_false h3) ?_
      refine wl_indexAddr _ rfl rfl (by first | rfl | omega) (by omega) es_22 rfl ?_
      refine wl_guard rfl rfl (decide_eq_false h3) ?_
      refine wl_fieldAddr rfl fo_33_4 rfl ?_
      refine wl_guard rfl rfl (decide_eq_false h3) ?_
      refine wl_load rfl ag_31 (by first | assumption) rfl ?_
      refine wl_guard rfl rfl (decide_eq_false h3) ?_
      refine wl_lenL Try.underlying31 rfl rfl ?_
      refine wl_guard rfl rfl (decide_eq_false h3) ?_
      refine wl_gtr rfl rfl rfl ?_
      refine wl_pickF rfl (decide_eq_false h3) rfl rfl ?_
      refine wl_move rfl rfl ?_
      refine wl_splitD 26 rfl (fun h4 => ?_) (fun h4 => ?_)
      · skip
        refine wl_unwanted rfl rfl (decide_eq_true h4) rfl ?_
        refine wl_unwanted rfl rfl (decide_eq_true h4) rfl ?_
        refine wl_unwanted rfl rfl (decide_eq_true h4) rfl ?_
        refine wl_unwanted rfl rfl (decide_eq_true h4) rfl ?_
        refine wl_unwanted rfl rfl (decide_eq_true h4) rfl ?_
        refine wl_unwanted rfl rfl (decide_eq_true h4) rfl ?_
        refine wl_unwanted rfl rfl (decide_eq_true h4) rfl ?_
        refine wl_unguarded rfl rfl rfl ?_
        refine wl_unguarded rfl rfl rfl ?_
        refine wl_unguarded rfl rfl rfl ?_
        refine wl_unguarded rfl rfl rfl ?_
        refine wl_unguarded rfl rfl rfl ?_
        refine wl_unguarded rfl rfl rfl ?_
        refine wl_unwanted rfl rfl (decide_eq_true h4) rfl ?_
        refine wl_pickT rfl (decide_eq_true h4) rfl rfl ?_
        refine wl_nil ?_
        refine qs_seq ?_
        refine wc_sub (L' := [(41, _), (0, _), (2, _), (3, _)]) (.cons rfl (.cons rfl (.cons rfl (.cons rfl .nil)))) ?_
        refine wc_condT rfl ?_
        refine wc_seq ?_
        refine wc_region ?_
        refine wl_assign rfl rfl ?_
        refine wl_nil ?_
        refine qs_seq ?_
        refine wc_ret ?_
        refine qs_block_ret ?_
        refine qs_then_ret ?_
        refine qs_then_ret ?_
        refine qs_block_ret ?_
        refine qs_then_ret ?_
        refine fin1 (.inr rfl) rfl rfl ?_
        exact ⟨_, rfl, few_bad ha (by simp [okA]; omega), hS1⟩
      · skip
        refine wl_guard rfl rfl (decide_eq_false h4) ?_
        refine wl_move rfl rfl ?_
        refine wl_guard rfl rfl (decide_eq_false h4) ?_
        refine wl_move rfl rfl ?_
        refine wl_guard rfl rfl (decide_eq_false h4) ?_
        refine wl_indexAddr _ rfl rfl (by first | rfl | omega) (by omega) es_22 rfl ?_
        refine wl_guard rfl rfl (decide_eq_false h4) ?_
        refine wl_fieldAddr rfl fo_33_2 rfl ?_
        refine wl_guard rfl rfl (decide_eq_false h4) ?_
        refine wl_load rfl ag_3 (by first | assumption) rfl ?_
        refine wl_guard rfl rfl (decide_eq_false h4) ?_
        refine wl_gtr rfl rfl rfl ?_
        refine wl_guard rfl rfl (decide_eq_false h4) ?_
        refine wl_move rfl rfl ?_
        refine wl_splitD 33 rfl (fun h5 => ?_) (fun h5 => ?_)
        · skip
          refine wl_guard rfl rfl (decide_eq_true h5) ?_
          refine wl_move rfl rfl ?_
          refine wl_guard rfl rfl (decide_eq_true h5) ?_
          refine wl_move rfl rfl ?_
          refine wl_guard rfl rfl (decide_eq_true h5) ?_
          refine wl_indexAddr _ rfl rfl (by first | rfl | omega) (by omega) es_22 rfl ?_
          refine wl_guard rfl rfl (decide_eq_true h5) ?_
          refine wl_fieldAddr rfl fo_33_2 rfl ?_
          refine wl_guard rfl rfl (decide_eq_true h5) ?_
          refine wl_load rfl ag_3 (by first | assumption) rfl ?_
          refine wl_guard rfl rfl (decide_eq_true h5) ?_
          refine wl_lss rfl rfl rfl ?_
          refine wl_guard rfl rfl (decide_eq_false h4) ?_
          refine wl_pickT rfl (decide_eq_true h5) rfl rfl ?_
          refine wl_pickF rfl (decide_eq_false h4) rfl rfl ?_
          refine wl_nil ?_
          refine qs_seq ?_
          refine wc_sub (L' := [(41, _), (0, _), (2, _), (3, _)]) (.cons rfl (.cons rfl (.cons rfl (.cons rfl .nil)))) ?_
          refine wc_condD rfl (fun h6 => ?_) (fun h6 => ?_)
          · skip
            refine wc_seq ?_
            refine wc_region ?_
            refine wl_assign rfl rfl ?_
            refine wl_nil ?_
            refine qs_seq ?_
            refine wc_ret ?_
            refine qs_block_ret ?_
            refine qs_then_ret ?_
            refine qs_then_ret ?_
            refine qs_block_ret ?_
            refine qs_then_ret ?_
            refine fin1 (.inr rfl) rfl rfl ?_
            exact ⟨_, rfl, few_bad ha (by simp [okA]; omega), hS1⟩
          · skip
            refine wc_skip ?_
            refine qs_block_normal ?_
            refine qs_seq ?_
            refine wc_region ?_
            refine wl_move rfl rfl ?_
            refine wl_add rfl rfl (by omega) (by omega) rfl ?_
            refine wl_assign rfl rfl ?_
            refine wl_nil ?_
            exact qs_round (L1 := [(0, _), (2, .bool false), (3, intV ((i + 1 : Nat) : Int))]) (.cons rfl (.cons rfl (.cons rfl .nil))) (k1 := l.length - (i + 1)) (by omega) ⟨i + 1, by omega, rfl, hS1, by omega, fun j b hj hb => by by_cases e : j = i; (subst e; rw [ha] at hb; cases hb; simp [okA]; omega); exact hok j b (by omega) hb⟩
        · skip
          refine wl_unwanted rfl rfl (decide_eq_false h5) rfl ?_
          refine wl_unwanted rfl rfl (decide_eq_false h5) rfl ?_
          refine wl_unwanted rfl rfl (decide_eq_false h5) rfl ?_
          refine wl_unwanted rfl rfl (decide_eq_false h5) rfl ?_
          refine wl_unwanted rfl rfl (decide_eq_false h5) rfl ?_
          refine wl_unwanted rfl rfl (decide_eq_false h5) rfl ?_
          refine wl_guard rfl rfl (decide_eq_false h4) ?_
          refine wl_pickF rfl (decide_eq_false h5) rfl rfl ?_
          refine wl_pickF rfl (decide_eq_false h4) rfl rfl ?_
          refine wl_nil ?_
          refine qs_seq ?_
          refine wc_sub (L' := [(41, _), (0, _), (2, _), (3, _)]) (.cons rfl (.cons rfl (.cons rfl (.cons rfl .nil)))) ?_
          refine wc_condF rfl ?_
          refine wc_skip ?_
          refine qs_block_normal ?_
          refine qs_seq ?_
          refine wc_region ?_
          refine wl_move rfl rfl ?_
          refine wl_add rfl rfl (by omega) (by omega) rfl ?_
          refine wl_assign rfl rfl ?_
          refine wl_nil ?_
          exact qs_round (L1 := [(0, _), (2, .bool false), (3, intV ((i + 1 : Nat) : Int))]) (.cons rfl (.cons rfl (.cons rfl .nil))) (k1 := l.length - (i + 1)) (by omega) ⟨i + 1, by omega, rfl, hS1, by omega, fun j b hj hb => by by_cases e : j = i; (subst e; rw [ha] at hb; cases hb; simp [okA]; omega); exact hok j b (by omega) hb⟩
  · skip
    refine wc_exit ?_
    refine qs_then_exit ?_
    refine qs_then_exit ?_
    refine qs_block_exit ?_
    refine qs_seq ?_
    refine wc_seq ?_
    refine wc_region ?_
    refine wl_move rfl rfl ?_
    refine wl_lenL Try.underlying22 rfl rfl ?_
    refine wl_leq rfl rfl rfl ?_
    refine wl_assign rfl rfl ?_
    refine wl_nil ?_
    refine qs_seq ?_
    refine wc_ret ?_
    refine fin1 (.inr rfl) rfl rfl ?_
    exact ⟨_, rfl, few_end hok hi (by omega), hS1⟩

def dT (p : Nat) (D : DS) : Th := exT fun kp : Value => starL [pureT (D.keep.length ≤ 1000), diskT p kp D, ownT kp D.keep.length 1 (intsV D.keep)]
theorem dT_open {w : World} {p : Nat} {D : DS} {As : List Th} (h : Sat w (dT p D :: As)) : ∃ kp, D.keep.length ≤ 1000 ∧ Sat w (diskT p kp D :: ownT kp D.keep.length 1 (intsV D.keep) :: As) := by
  obtain ⟨kp, h⟩ := h.ex
  exact ⟨kp, h.flat.pure_elim⟩
theorem dT_shut {w : World} {p : Nat} {D : DS} {As : List Th} (kp : Value) (hl : D.keep.length ≤ 1000) (h : Sat w (diskT p kp D :: ownT kp D.keep.length 1 (intsV D.keep) :: As)) : Sat w (dT p D :: As) :=
  Sat.ex_intro kp (Sat.fold (As := [pureT (D.keep.length ≤ 1000), diskT p kp D, ownT kp D.keep.length 1 (intsV D.keep)]) (Sat.pure_intro hl h))
theorem dT_new {w : World} {p : Nat} {F : Th} (h : Sat w [diskT p (.slice none 0 0) newD, F]) : Sat w [dT p newD, F] := by
  have h3 := h.new (Only.refl [] w) (A := ownT (.slice none 0 0) 0 1 []) (F' := fun k => k ∈ ([] : List Nat)) ⟨[], rfl, Own.nil w 1⟩ (by simp)
  exact dT_shut (.slice none 0 0) (by simp [newD]) (h3.reorder [1, 0, 2] rfl)
theorem keep_ent {kp : Value} {D : DS} {F : Th} (h : D.keep.length ≤ 1000) : Ent (starL [ownT kp D.keep.length 1 (intsV D.keep), F]) (RdI kp D.keep) := Ent.starL (A := ownT kp D.keep.length 1 (intsV D.keep)) (ent_own_RdI (by omega)) 0 rfl
/-- the methods, of a disk with its keep -/
theorem dT_same {w : World} {p : Nat} {kp : Value} {D D' : DS} {F : Th} (hl : D.keep.length ≤ 1000) (hk : D'.keep = D.keep) (h : Sat w [diskT p kp D', starL [ownT kp D.keep.length 1 (intsV D.keep), F]]) : Sat w [dT p D', F] :=
  dT_shut kp (by rw [hk]; exact hl) (by have := h.join rfl; rw [hk]; exact this)
def doOk (a : ActD) : Prop := a.ks.length ≤ 60 ∧ a.n ≤ 9223372036854775807
theorem doT_sp {w : World} {p : Nat} {D : DS} {F : Th} (hS : Sat w [dT p D, F]) (a : ActD) (hA : Ent F (RdI a.kv a.ks)) (ho : doOk a) : Calls Try.prog 11 #[ptrV p 0, .agg #[intV a.d, intV a.f, intV a.n, strV a.s, a.kv]] w (Ret fun v w' => v = intV (doE D a) ∧ Sat w' [dT p (doD D a), F]) := by
  obtain ⟨kp, hl, hS⟩ := dT_open hS
  have hC := hS.split [0] [true, false, false] rfl; dsimp only [selF, pickA, nthA, List.cons_append, List.nil_append] at hC
  refine (do_sp hC (keep_ent hl) a (hA.starL 1 rfl) ho.2 (by have := ho.1; omega)).mono fun e w' h => h.mono fun v w' ⟨h1, h2⟩ => ⟨h1, ?_⟩
  rcases h2 with ⟨h2, h3⟩ | ⟨kv', h3⟩
  · exact dT_same hl h2 h3
  · have h4 := h3.join rfl
    dsimp only [List.dropLast, List.cons_append, List.nil_append] at h4
    by_cases h5 : a.d % 8 = 5
    · have e : (doD D a).keep = a.ks := by simp [doD, h5]
      exact dT_shut kv' (by rw [e]; have := ho.1; omega) (h4.drop 2 rfl)
    · have e : (doD D a).keep = D.keep := by
        simp only [doD, if_neg h5]
        split; exact SyncD_keep _ _
        split; exact TruncD_keep _ _ _
        split; rfl
        split; exact crashD_keep _ _
        split; rfl
        exact WriteD_keep _ _ _ _
      exact dT_shut kv' (by rw [e]; exact hl) (h4.drop 2 rfl)
def plays (D : DS) (l : List ActD) : DS := l.foldl doD D
theorem few_ok {l : List ActD} (h : fewB l = true) {i : Nat} {a : ActD} (ha : l[i]? = some a) (hn : a.n ≤ 9223372036854775807) : doOk a := by
  simp only [fewB, Bool.and_eq_true, List.all_eq_true] at h
  have := h.1 a (List.mem_of_getElem? ha)
  simp [okA] at this
  exact ⟨by omega, hn⟩
theorem plays_step {D : DS} {l : List ActD} {i : Nat} {a : ActD} (ha : l[i]? = some a) : plays D (l.take (i + 1)) = doD (plays D (l.take i)) a := by
  rw [List.take_add_one, ha]; simp [plays]
theorem act_ent {F : Th} {ao : Option Addr} {n cap i : Nat} {l : List ActD} {a : ActD} (h : Ent F (ActsRd (.slice ao n cap) l)) (ha : l[i]? = some a) : Ent F (RdI a.kv a.ks) := fun g => ((h g).get ha).2.1
set_option maxRecDepth 100000 in
theorem played_sp {w : World} {F : Th} (hS : Sat w [F]) {lv : Value} {l : List ActD} (hL : Ent F (ActsRd lv l)) (hfew : fewB l = true) :
    Calls Try.prog 21 #[lv] w (Ret fun v w' => ∃ p, v = ptrV p 0 ∧ Sat w' [dT p (plays newD l), F]) := by
  obtain ⟨ao, cap, rfl, hmax⟩ := (hL.sat hS 0 rfl).shape
  refine calls_enter Try.func21 rfl Try.ntmps21 rfl ?_
  refine wc_seq ?_
  refine wc_region ?_
  refine wl_assign rfl rfl ?_
  refine wl_nil ?_
  refine qs_seq ?_
  refine wc_seq ?_
  refine wc_region ?_
  have hC1 := hS.split [] [false] rfl; dsimp only [selF, pickA, nthA, List.cons_append, List.nil_append] at hC1
  refine wl_call cal_9 rfl (new_sp hC1) rfl ?_
  rintro e w1 ⟨_, rfl, p, rfl, hS1⟩; refine ⟨_, rfl, ?_⟩
  replace hS1 := hS1.join rfl; dsimp only [List.dropLast, List.cons_append, List.nil_append] at hS1; clear hC1
  refine wl_assign rfl rfl ?_
  refine wl_nil ?_
  refine qs_seq ?_
  refine wc_seq ?_
  refine wc_seq ?_
  refine wc_region ?_
  refine wl_assign rfl rfl ?_
  refine wl_nil ?_
  refine qs_seq ?_
  refine wc_block ?_
  refine wc_loop (fun K0 E0 W0 => ∃ (i : Nat), K0 = l.length - i ∧ E0 = [(0, .slice ao l.length cap), (3, ptrV p 0), (4, intV (i : Int))] ∧ Sat W0 [dT p (plays newD (l.take i)), F] ∧ (i ≤ l.length)) (L0 := [(0, _), (3, _), (4, _)]) (l.length) (.cons rfl (.cons rfl (.cons rfl .nil))) ⟨0, by omega, rfl, dT_new hS1, by omega⟩ ?_
  rintro _ _ w2 ⟨i, rfl, rfl, hS2, hi⟩
  refine wc_seq ?_
  refine wc_seq ?_
  refine wc_region ?_
  refine wl_move rfl rfl ?_
  refine wl_move rfl rfl ?_
  refine wl_lenL Try.underlying22 rfl rfl ?_
  refine wl_lss rfl rfl rfl ?_
  refine wl_move rfl rfl ?_
  refine wl_splitD 10 rfl (fun h3 => ?_) (fun h3 => ?_)
  · skip
    obtain ⟨a, ha⟩ : ∃ a, l[i]? = some a := ⟨_, List.getElem?_eq_getElem (by omega)⟩
    have hrd := hL.sat hS2 1 rfl
    obtain ⟨⟨b, off, rfl, hc⟩, hrk, hn⟩ := hrd.get ha
    refine wl_guard rfl rfl (decide_eq_true h3) ?_
    refine wl_move rfl rfl ?_
    refine wl_guard rfl rfl (decide_eq_true h3) ?_
    refine wl_neqNil Try.underlying25 rfl rfl rfl ?_
    refine wl_pickT rfl (decide_eq_true h3) rfl rfl ?_
    refine wl_nil ?_
    refine qs_seq ?_
    refine wc_sub (L' := [(13, _), (0, _), (3, _), (4, _)]) (.cons rfl (.cons rfl (.cons rfl (.cons rfl .nil)))) ?_
    refine wc_condT rfl ?_
    refine wc_skip ?_
    refine qs_seq ?_
    refine wc_seq ?_
    refine wc_block ?_
    refine wc_region ?_
    refine wl_move rfl rfl ?_
    refine wl_move rfl rfl ?_
    refine wl_move rfl rfl ?_
    refine wl_indexAddr _ rfl rfl (by first | rfl | omega) (by omega) es_22 rfl ?_
    refine wl_loadAt rfl ag_33 sz_33 (vs := actV a) hc rfl ?_
    have hC4 := hS2.split [0] [true, false] rfl; dsimp only [selF, pickA, nthA, List.cons_append, List.nil_append] at hC4
    refine wl_call cal_11 rfl (doT_sp hC4 a (act_ent (hL.starL 0 rfl) ha) (few_ok hfew ha hn)) rfl ?_
    rintro e w4 ⟨_, rfl, rfl, hS4⟩; refine ⟨_, rfl, ?_⟩
    replace hS4 := hS4.join rfl; dsimp only [List.dropLast, List.cons_append, List.nil_append] at hS4; clear hC4
    clear hS2
    refine wl_nil ?_
    refine qs_block_normal ?_
    refine qs_seq ?_
    refine wc_region ?_
    refine wl_move rfl rfl ?_
    refine wl_add rfl rfl (by omega) (by omega) rfl ?_
    refine wl_assign rfl rfl ?_
    refine wl_nil ?_
    exact qs_round (L1 := [(0, _), (3, ptrV p 0), (4, intV ((i + 1 : Nat) : Int))]) (.cons rfl (.cons rfl (.cons rfl .nil))) (k1 := l.length - (i + 1)) (by omega) ⟨i + 1, by omega, rfl, by rw [plays_step ha]; exact hS4, by omega⟩
  · skip
    refine wl_unwanted rfl rfl (decide_eq_false h3) rfl ?_
    refine wl_unwanted rfl rfl (decide_eq_false h3) rfl ?_
    refine wl_pickF rfl (decide_eq_false h3) rfl rfl ?_
    refine wl_nil ?_
    refine qs_seq ?_
    refine wc_sub (L' := [(13, _), (0, _), (3, _), (4, _)]) (.cons rfl (.cons rfl (.cons rfl (.cons rfl .nil)))) ?_
    refine wc_condF rfl ?_
    refine wc_exit ?_
    refine qs_then_exit ?_
    refine qs_then_exit ?_
    refine qs_block_exit ?_
    refine qs_seq ?_
    refine wc_seq ?_
    refine wc_region ?_
    refine wl_move rfl rfl ?_
    refine wl_assign rfl rfl ?_
    refine wl_nil ?_
    refine qs_seq ?_
    refine wc_ret ?_
    refine fin1 (.inr rfl) rfl rfl ?_
    exact ⟨_, rfl, p, rfl, by have h := hS2; rw [List.take_of_length_le (by omega)] at h; exact h⟩

end Go.Proofs.Ytleaahajkncnpaa
