/- laws of cell: few, again, has, small -/
import Derived.Test.YtleaahajkncnpaaDoorCellP
import Derived.Test.YtleaahajkncnpaaDoorCc
namespace Go.Proofs.YtleaahajkncnpaaDoor
open Go.RowKit M
set_option linter.unusedVariables false
theorem open0_sp {w : World} {p : Nat} {D : DS} {F : Th} (hS : Sat w [dT p D, F]) (hG : Ent F (Glob 0)) (f : Int) (hE : openE D f = 0) : Calls Tryd.prog 13 #[ptrV p 0, intV f] w (Ret fun v w' => ∃ c, v = .tuple #[ptrV c 0, intV 0] ∧ Sat w' [blkT c (cellV p (openC D f)), dT p D, F]) :=
  (open_sp hS hG f).mono fun _ _ h => h.mono fun v w' h => h.elim (fun ⟨_, c, h1, h2⟩ => ⟨c, h1, h2⟩) (fun ⟨h1, _⟩ => absurd hE h1)
theorem openR0_sp {w : World} {p : Nat} {D : DS} {F : Th} (hS : Sat w [rT p D, F]) (f : Int) (hE : openE D f = 0) : Calls Tryd.prog 14 #[ptrV p 0, intV f] w (Ret fun v w' => ∃ c, v = .tuple #[ptrV c 0, intV 0] ∧ Sat w' [blkT c (cellV p (openC D f)), rT p D, F]) :=
  (openR_sp hS f).mono fun _ _ h => h.mono fun v w' h => h.elim (fun ⟨_, c, h1, h2⟩ => ⟨c, h1, h2⟩) (fun ⟨h1, _⟩ => absurd hE h1)
structure OpD where
  k : Int
  s : Bytes
  n : Int
  kv : Value
  ks : List Int
def opV (o : OpD) : List Value := [intV o.k, strV o.s, intV o.n, o.kv]
def opOk (o : OpD) (w : World) : Prop := RdI o.kv o.ks w ∧ o.n ≤ 9223372036854775807
abbrev OpsRd (v : Value) (l : List OpD) (w : World) : Prop := RdX opV 4 opOk v l w
def okO (o : OpD) : Bool := !(decide (400 < o.s.length) || decide (100 < o.ks.length))
def fewO (l : List OpD) : Bool := l.all okO && decide (l.length ≤ 30)
theorem few_bad {l : List OpD} {i : Nat} {a : OpD} (ha : l[i]? = some a) (h : okO a = false) : Value.bool false = .bool (fewO l) := by
  have : l.all okO = false := by
    rw [List.all_eq_false]; exact ⟨a, List.mem_of_getElem? ha, by rw [h]; simp⟩
  simp [fewO, this]
theorem few_end {l : List OpD} {i : Nat} (hok : ∀ j a, j < i → l[j]? = some a → okO a = true) (hi : i ≤ l.length) (he : ¬ i < l.length) : Value.bool (decide ((l.length : Int) ≤ 30)) = .bool (fewO l) := by
  have : l.all okO = true := by
    rw [List.all_eq_true]; intro a ha
    obtain ⟨j, hj⟩ := List.mem_iff_getElem?.1 ha
    exact hok j a (by have := (List.getElem?_eq_some_iff.1 hj).1; omega) hj
  simp only [fewO, this, Bool.true_and, Value.bool.injEq]
  rw [Bool.eq_iff_iff]; simp; omega
theorem few_ok {l : List OpD} (h : fewO l = true) {i : Nat} {a : OpD} (ha : l[i]? = some a) : a.s.length ≤ 400 ∧ a.ks.length ≤ 100 := by
  simp only [fewO, Bool.and_eq_true, List.all_eq_true] at h
  have := h.1 a (List.mem_of_getElem? ha)
  simp [okO] at this
  omega
theorem few_len {l : List OpD} (h : fewO l = true) : l.length ≤ 30 := by simp [fewO] at h; exact h.2
set_option maxRecDepth 100000 in
theorem few_sp {w : World} {F : Th} (hS : Sat w [F]) {lv : Value} {l : List OpD} (hL : Ent F (OpsRd lv l)) :
    Calls Tryd.prog 17 #[lv] w (Ret fun v w' => v = .bool (fewO l) ∧ Sat w' [F]) := by
  obtain ⟨ao, cap, rfl, hmax⟩ := (hL.sat hS 0 rfl).shape
  refine calls_enter Tryd.func17 rfl Tryd.ntmps17 rfl ?_
  refine wc_seq ?_
  refine wc_region ?_
  refine wl_assign rfl rfl ?_
  refine wl_nil ?_
  refine qs_seq ?_
  refine wc_seq ?_
  refine wc_seq ?_
  refine wc_region ?_
  refine wl_assign rfl rfl ?_
  refine wl_nil ?_
  refine qs_seq ?_
  refine wc_block ?_
  refine wc_loop (fun K0 E0 W0 => ∃ (i : Nat), K0 = l.length - i ∧ E0 = [(0, .slice ao l.length cap), (2, .bool false), (3, intV (i : Int))] ∧ Sat W0 [F] ∧ (i ≤ l.length) ∧ (∀ j a, j < i → l[j]? = some a → okO a = true)) (L0 := [(0, _), (2, _), (3, _)]) (l.length) (.cons rfl (.cons rfl (.cons rfl .nil))) ⟨0, by omega, rfl, hS, by omega, by omega⟩ ?_
  rintro _ _ w1 ⟨i, rfl, rfl, hS1, hi, hok⟩
  refine wc_seq ?_
  refine wc_seq ?_
  refine wc_region ?_
  refine wl_move rfl rfl ?_
  refine wl_move rfl rfl ?_
  refine wl_lenL Tryd.underlying38 rfl rfl ?_
  refine wl_lss rfl rfl rfl ?_
  refine wl_nil ?_
  refine qs_seq ?_
  refine wc_condD rfl (fun h2 => ?_) (fun h2 => ?_)
  · skip
    obtain ⟨a, ha⟩ : ∃ a, l[i]? = some a := ⟨_, List.getElem?_eq_getElem (by omega)⟩
    obtain ⟨⟨b, off, rfl, hc⟩, hrk, hn⟩ := (hL.sat hS1 0 rfl).get ha
    obtain ⟨aok, capk, hkv, hkm⟩ := hrk.shape
    have c1 := hc 1 _ rfl; have c3 := hc 3 _ rfl; rw [hkv] at c3; clear hc
    refine wc_skip ?_
    refine qs_seq ?_
    refine wc_seq ?_
    refine wc_block ?_
    refine wc_seq ?_
    refine wc_region ?_
    refine wl_move rfl rfl ?_
    refine wl_move rfl rfl ?_
    refine wl_indexAddr _ rfl rfl (by first | rfl | omega) (by omega) es_38 rfl ?_
    refine wl_fieldAddr rfl fo_42_1 rfl ?_
    refine wl_load rfl ag_9 (by first | assumption) rfl ?_
    refine wl_lenS Tryd.underlying9 rfl rfl ?_
    refine wl_gtr rfl rfl rfl ?_
    refine wl_move rfl rfl ?_
    refine wl_splitD 17 rfl (fun h3 => ?_) (fun h3 => ?_)
    · skip
      refine wl_unwanted rfl rfl (decide_eq_true h3) rfl ?_
      refine wl_unwanted rfl rfl (decide_eq_true h3) rfl ?_
      refine wl_unwanted rfl rfl (decide_eq_true h3) rfl ?_
      refine wl_unwanted rfl rfl (decide_eq_true h3) rfl ?_
      refine wl_unwanted rfl rfl (decide_eq_true h3) rfl ?_
      refine wl_unwanted rfl rfl (decide_eq_true h3) rfl ?_
      refine wl_unwanted rfl rfl (decide_eq_true h3) rfl ?_
      refine wl_pickT rfl (decide_eq_true h3) rfl rfl ?_
      refine wl_nil ?_
      refine qs_seq ?_
      refine wc_sub (L' := [(25, _), (0, _), (2, _), (3, _)]) (.cons rfl (.cons rfl (.cons rfl (.cons rfl .nil)))) ?_
      refine wc_condT rfl ?_
      refine wc_seq ?_
      refine wc_region ?_
      refine wl_assign rfl rfl ?_
      refine wl_nil ?_
      refine qs_seq ?_
      refine wc_ret ?_
      refine qs_block_ret ?_
      refine qs_then_ret ?_
      refine qs_then_ret ?_
      refine qs_block_ret ?_
      refine qs_then_ret ?_
      refine fin1 (.inr rfl) rfl rfl ?_
      exact ⟨_, rfl, few_bad ha (by simp [okO]; omega), hS1⟩
    · skip
      refine wl_guard rfl rfl (decide_eq_false h3) ?_
      refine wl_move rfl rfl ?_
      refine wl_guard rfl rfl (decide_eq_false h3) ?_
      refine wl_move rfl rfl ?_
      refine wl_guard rfl rfl (decide_eq_false h3) ?_
      refine wl_indexAddr _ rfl rfl (by first | rfl | omega) (by omega) es_38 rfl ?_
      refine wl_guard rfl rfl (decide_eq_false h3) ?_
      refine wl_fieldAddr rfl fo_42_3 rfl ?_
      refine wl_guard rfl rfl (decide_eq_false h3) ?_
      refine wl_load rfl ag_39 (by first | assumption) rfl ?_
      refine wl_guard rfl rfl (decide_eq_false h3) ?_
      refine wl_lenL Tryd.underlying39 rfl rfl ?_
      refine wl_guard rfl rfl (decide_eq_false h3) ?_
      refine wl_gtr rfl rfl rfl ?_
      refine wl_pickF rfl (decide_eq_false h3) rfl rfl ?_
      refine wl_nil ?_
      refine qs_seq ?_
      refine wc_sub (L' := [(25, _), (0, _), (2, _), (3, _)]) (.cons rfl (.cons rfl (.cons rfl (.cons rfl .nil)))) ?_
      refine wc_condD rfl (fun h4 => ?_) (fun h4 => ?_)
      · skip
        refine wc_seq ?_
        refine wc_region ?_
        refine wl_assign rfl rfl ?_
        refine wl_nil ?_
        refine qs_seq ?_
        refine wc_ret ?_
        refine qs_block_ret ?_
        refine qs_then_ret ?_
        refine qs_then_ret ?_
        refine qs_block_ret ?_
        refine qs_then_ret ?_
        refine fin1 (.inr rfl) rfl rfl ?_
        exact ⟨_, rfl, few_bad ha (by simp [okO]; omega), hS1⟩
      · skip
        refine wc_skip ?_
        refine qs_block_normal ?_
        refine qs_seq ?_
        refine wc_region ?_
        refine wl_move rfl rfl ?_
        refine wl_add rfl rfl (by omega) (by omega) rfl ?_
        refine wl_assign rfl rfl ?_
        refine wl_nil ?_
        exact qs_round (L1 := [(0, _), (2, .bool false), (3, intV ((i + 1 : Nat) : Int))]) (.cons rfl (.cons rfl (.cons rfl .nil))) (k1 := l.length - (i + 1)) (by omega) ⟨i + 1, by omega, rfl, hS1, by omega, fun j b hj hb => by by_cases e : j = i; (subst e; rw [ha] at hb; cases hb; simp [okO]; omega); exact hok j b (by omega) hb⟩
  · skip
    refine wc_exit ?_
    refine qs_then_exit ?_
    refine qs_then_exit ?_
    refine qs_block_exit ?_
    refine qs_seq ?_
    refine wc_seq ?_
    refine wc_region ?_
    refine wl_move rfl rfl ?_
    refine wl_lenL Tryd.underlying38 rfl rfl ?_
    refine wl_leq rfl rfl rfl ?_
    refine wl_assign rfl rfl ?_
    refine wl_nil ?_
    refine qs_seq ?_
    refine wc_ret ?_
    refine fin1 (.inr rfl) rfl rfl ?_
    exact ⟨_, rfl, few_end hok hi (by omega), hS1⟩

theorem again_sp {w : World} {p : Nat} {D : DS} {F : Th} (hS : Sat w [dT p D, F]) (hG : Ent F (Glob 0)) {kv : Value} {ks : List Int} (hK : Ent F (RdI kv ks)) (hE : openE (startD (crashD D ks)) 3 = 0) :
    Calls Tryd.prog 20 #[ptrV p 0, kv] w (Ret fun v w' => ∃ c, v = .tuple #[ptrV c 0, intV 0] ∧ Sat w' [blkT c (cellV p (openC (startD (crashD D ks)) 3)), dT p (startD (crashD D ks)), F]) := by
  refine calls_enter Tryd.func20 rfl Tryd.ntmps20 rfl ?_
  refine wc_seq ?_
  refine wc_region ?_
  refine wl_assign rfl rfl ?_
  refine wl_assign rfl rfl ?_
  refine wl_nil ?_
  refine qs_seq ?_
  refine wc_seq ?_
  refine wc_region ?_
  refine wl_move rfl rfl ?_
  refine wl_move rfl rfl ?_
  have hC1 := hS.split [0] [true, false] rfl; dsimp only [selF, pickA, nthA, List.cons_append, List.nil_append] at hC1
  refine wl_call cal_22 rfl (crashT hC1 (hK.starL 0 rfl)) rfl ?_
  rintro e w1 ⟨_, rfl, rfl, hS1⟩; refine ⟨_, rfl, ?_⟩
  replace hS1 := hS1.join rfl; dsimp only [List.dropLast, List.cons_append, List.nil_append] at hS1; clear hC1
  refine wl_nil ?_
  refine qs_seq ?_
  refine wc_seq ?_
  refine wc_region ?_
  refine wl_move rfl rfl ?_
  have hC2 := hS1.split [0] [true, false] rfl; dsimp only [selF, pickA, nthA, List.cons_append, List.nil_append] at hC2
  refine wl_call cal_23 rfl (startT hC2) rfl ?_
  rintro e w2 ⟨_, rfl, rfl, hS2⟩; refine ⟨_, rfl, ?_⟩
  replace hS2 := hS2.join rfl; dsimp only [List.dropLast, List.cons_append, List.nil_append] at hS2; clear hC2
  clear hS1
  refine wl_nil ?_
  refine qs_seq ?_
  refine wc_seq ?_
  refine wc_region ?_
  refine wl_move rfl rfl ?_
  have hC3 := hS2.split [0] [true, false] rfl; dsimp only [selF, pickA, nthA, List.cons_append, List.nil_append] at hC3
  refine wl_call cal_13 rfl (open0_sp hC3 (hG.starL 0 rfl) 3 hE) rfl ?_
  rintro e w3 ⟨_, rfl, c, rfl, hS3⟩; refine ⟨_, rfl, ?_⟩
  replace hS3 := hS3.join rfl; dsimp only [List.dropLast, List.cons_append, List.nil_append] at hS3; clear hC3
  clear hS2
  refine wl_extract rfl rfl rfl ?_
  refine wl_extract rfl rfl rfl ?_
  refine wl_assign rfl rfl ?_
  refine wl_assign rfl rfl ?_
  refine wl_nil ?_
  refine qs_seq ?_
  refine wc_sub (L' := [(5, _), (4, _)]) (.cons rfl (.cons rfl .nil)) ?_
  refine wc_ret ?_
  refine fin2 (.inr rfl) rfl rfl rfl ?_
  exact ⟨_, rfl, _, rfl, hS3⟩

def stC : RowC Bytes := ⟨fun s => [strV s], 1, by decide, fun _ => rfl, fun _ => rfl⟩
set_option maxRecDepth 100000 in
theorem has_sp {w : World} {F : Th} {mv : Value} {l : List Bytes} (hS : Sat w [rowT stC mv l, F]) (hl : l.length ≤ 1000) (s : Bytes) :
    Calls Tryd.prog 24 #[mv, strV s] w (Ret fun v w' => v = .bool (decide (s ∈ l)) ∧ Sat w' [rowT stC mv l, F]) := by
  refine calls_enter Tryd.func24 rfl Tryd.ntmps24 rfl ?_
  refine wc_seq ?_
  refine wc_region ?_
  refine wl_assign rfl rfl ?_
  refine wl_nil ?_
  refine qs_seq ?_
  refine wc_seq ?_
  refine wc_seq ?_
  refine wc_region ?_
  refine wl_assign rfl rfl ?_
  refine wl_nil ?_
  refine qs_seq ?_
  refine wc_block ?_
  refine wc_loop (fun K0 E0 W0 => ∃ (i : Nat), K0 = l.length - i ∧ E0 = [(0, mv), (1, strV s), (5, intV (i : Int))] ∧ Sat W0 [rowT stC mv l, F] ∧ (i ≤ l.length) ∧ (∀ j y, j < i → l[j]? = some y → y ≠ s)) (L0 := [(0, _), (1, _), (5, _)]) (l.length) (.cons rfl (.cons rfl (.cons rfl .nil))) ⟨0, by omega, rfl, hS, by omega, by omega⟩ ?_
  rintro _ _ w1 ⟨i, rfl, rfl, hS1, hi, hno⟩
  refine wc_seq ?_
  refine wc_seq ?_
  refine wc_region ?_
  refine wl_move rfl rfl ?_
  refine wl_move rfl rfl ?_
  first | refine wl_lenL Tryd.underlying51 rfl rfl ?_ | refine wl_lenO 0 hS1 Tryd.underlying51 rfl rfl rfl ?_
  refine wl_lss rfl rfl rfl ?_
  refine wl_nil ?_
  refine qs_seq ?_
  refine wc_condD rfl (fun h2 => ?_) (fun h2 => ?_)
  · skip
    obtain ⟨x, hx⟩ : ∃ x, l[i]? = some x := ⟨_, List.getElem?_eq_getElem (by omega)⟩
    refine wc_skip ?_
    refine qs_seq ?_
    refine wc_seq ?_
    refine wc_block ?_
    refine wc_seq ?_
    refine wc_region ?_
    refine wl_move rfl rfl ?_
    refine wl_move rfl rfl ?_
    refine wl_rowIdx stC 0 i hS1 rfl rfl rfl (by first | rfl | omega) hx es_51 rfl ?_
    intro bx3 capx3 hvx3
    refine wl_rowLoad 0 i 0 hS1 rfl hvx3 rfl rfl hx ag_9 rfl rfl ?_
    refine wl_move rfl rfl ?_
    refine wl_eqlS rfl rfl rfl ?_
    refine wl_nil ?_
    refine qs_seq ?_
    refine wc_sub (L' := [(17, _), (0, _), (1, _), (5, _)]) (.cons rfl (.cons rfl (.cons rfl (.cons rfl .nil)))) ?_
    refine wc_condD rfl (fun h4 => ?_) (fun h4 => ?_)
    · skip
      have he : x = s := h4
      refine wc_seq ?_
      refine wc_region ?_
      refine wl_assign rfl rfl ?_
      refine wl_nil ?_
      refine qs_seq ?_
      refine wc_ret ?_
      refine qs_block_ret ?_
      refine qs_then_ret ?_
      refine qs_then_ret ?_
      refine qs_block_ret ?_
      refine qs_then_ret ?_
      refine fin1 (.inr rfl) rfl rfl ?_
      exact ⟨_, rfl, by rw [decide_eq_true (show s ∈ l from by rw [← he]; exact List.mem_of_getElem? hx)], hS1⟩
    · skip
      have hne : ¬ x = s := h4
      refine wc_skip ?_
      refine qs_block_normal ?_
      refine qs_seq ?_
      refine wc_region ?_
      refine wl_move rfl rfl ?_
      refine wl_add rfl rfl (by omega) (by omega) rfl ?_
      refine wl_assign rfl rfl ?_
      refine wl_nil ?_
      exact qs_round (L1 := [(0, _), (1, _), (5, intV ((i + 1 : Nat) : Int))]) (.cons rfl (.cons rfl (.cons rfl .nil))) (k1 := l.length - (i + 1)) (by omega) ⟨i + 1, by omega, rfl, hS1, by omega, fun j y hj hy => by by_cases e : j = i; (subst e; rw [hx] at hy; cases hy; assumption); exact hno j y (by omega) hy⟩
  · skip
    refine wc_exit ?_
    refine qs_then_exit ?_
    refine qs_then_exit ?_
    refine qs_block_exit ?_
    refine qs_seq ?_
    refine wc_seq ?_
    refine wc_region ?_
    refine wl_assign rfl rfl ?_
    refine wl_nil ?_
    refine qs_seq ?_
    refine wc_ret ?_
    refine fin1 (.inr rfl) rfl rfl ?_
    exact ⟨_, rfl, by rw [decide_eq_false (fun hm => by obtain ⟨j, hj⟩ := List.mem_iff_getElem?.1 hm; exact hno j _ (by have := (List.getElem?_eq_some_iff.1 hj).1; omega) hj rfl)], hS1⟩

theorem rd_of {D : DS} {f a n : Int} {s : Bytes} (h : ReadS D f a n = s) : Value.tuple #[strV (ReadS D f a n), intV (ReadE D f a n)] = .tuple #[strV s, intV (ReadE D f a n)] := by rw [h]
set_option maxRecDepth 100000 in
theorem small_sp {w : World} {F : Th} (hS : Sat w [F]) (hG : Ent F (Glob 0)) :
    Calls Tryd.prog 8 #[] w (Ret fun v w' => v = .bool true ∧ Sat w' [F]) := by
  refine calls_enter Tryd.func8 rfl Tryd.ntmps8 rfl ?_
  obtain ⟨f1, f2, f3, f4, f5, f6, f7, f8, f9⟩ := small_facts
  refine wc_seq ?_
  refine wc_region ?_
  refine wl_assign rfl rfl ?_
  refine wl_nil ?_
  refine qs_seq ?_
  refine wc_seq ?_
  refine wc_region ?_
  have hC1 := hS.split [] [false] rfl; dsimp only [selF, pickA, nthA, List.cons_append, List.nil_append] at hC1
  refine wl_call cal_9 rfl (new_sp hC1) rfl ?_
  rintro e w1 ⟨_, rfl, p, rfl, hS1⟩; refine ⟨_, rfl, ?_⟩
  replace hS1 := hS1.join rfl; dsimp only [List.dropLast, List.cons_append, List.nil_append] at hS1; clear hC1
  replace hS1 := dT_new hS1
  refine wl_assign rfl rfl ?_
  refine wl_nil ?_
  refine qs_seq ?_
  refine wc_seq ?_
  refine wc_region ?_
  refine wl_move rfl rfl ?_
  have hC2 := hS1.split [0] [true, false] rfl; dsimp only [selF, pickA, nthA, List.cons_append, List.nil_append] at hC2
  refine wl_call cal_13 rfl (open0_sp hC2 (hG.starL 0 rfl) 3 f1) rfl ?_
  rintro e w2 ⟨_, rfl, c, rfl, hS2⟩; refine ⟨_, rfl, ?_⟩
  replace hS2 := hS2.join rfl; dsimp only [List.dropLast, List.cons_append, List.nil_append] at hS2; clear hC2
  clear hS1
  rw [f2] at hS2
  refine wl_move rfl rfl ?_
  refine wl_extract rfl rfl rfl ?_
  refine wl_extract rfl rfl rfl ?_
  refine wl_assign rfl rfl ?_
  refine wl_assign rfl rfl ?_
  refine wl_nil ?_
  refine qs_seq ?_
  refine wc_seq ?_
  refine wc_seq ?_
  refine wc_region ?_
  refine wl_move rfl rfl ?_
  refine wl_eqlNil Tryd.underlying23 rfl rfl rfl ?_
  refine wl_move rfl rfl ?_
  refine wl_guard rfl rfl rfl ?_
  refine wl_move rfl rfl ?_
  refine wl_guard rfl rfl rfl ?_
  refine wl_eqlNil Tryd.underlying29 rfl rfl rfl ?_
  refine wl_pickF rfl rfl rfl rfl ?_
  refine wl_nil ?_
  refine qs_seq ?_
  refine wc_sub (L' := [(27, _), (3, _), (2, _), (1, _), (0, _)]) (.cons rfl (.cons rfl (.cons rfl (.cons rfl (.cons rfl .nil))))) ?_
  refine wc_condF rfl ?_
  refine wc_skip ?_
  refine qs_seq ?_
  refine wc_seq ?_
  refine wc_region ?_
  refine wl_move rfl rfl ?_
  have hC3 := hS2.split [0] [true, false, false] rfl; dsimp only [selF, pickA, nthA, List.cons_append, List.nil_append] at hC3
  refine wl_call cal_15 rfl (get_sp hC3) rfl ?_
  rintro e w3 ⟨_, rfl, rfl, hS3⟩; refine ⟨_, rfl, ?_⟩
  replace hS3 := hS3.join rfl; dsimp only [List.dropLast, List.cons_append, List.nil_append] at hS3; clear hC3
  clear hS2
  refine wl_move rfl rfl ?_
  refine wl_extract rfl rfl rfl ?_
  refine wl_extract rfl rfl rfl ?_
  refine wl_assign rfl rfl ?_
  refine wl_assign rfl rfl ?_
  refine wl_nil ?_
  refine qs_seq ?_
  refine wc_sub (L' := [(5, _), (4, _), (3, _), (2, _), (1, _), (0, _)]) (.cons rfl (.cons rfl (.cons rfl (.cons rfl (.cons rfl (.cons rfl .nil)))))) ?_
  refine wc_seq ?_
  refine wc_region ?_
  refine wl_move rfl rfl ?_
  have hC4 := hS3.split [0, 1] [true, true, false] rfl; dsimp only [selF, pickA, nthA, List.cons_append, List.nil_append] at hC4
  refine wl_call cal_18 rfl (set_sp hC4 (hG.starL 0 rfl) (by decide) [97]) rfl ?_
  rintro e w4 ⟨_, rfl, hv4, hS4⟩; refine ⟨_, rfl, ?_⟩
  replace hS4 := hS4.join rfl; dsimp only [List.dropLast, List.cons_append, List.nil_append] at hS4; clear hC4
  clear hS3
  replace hv4 := hv4.trans (congrArg intV f3); subst hv4
  refine wl_assign rfl rfl ?_
  refine wl_nil ?_
  refine qs_seq ?_
  refine wc_seq ?_
  refine wc_region ?_
  refine wl_move rfl rfl ?_
  have hC5 := hS4.split [0, 1] [true, true, false] rfl; dsimp only [selF, pickA, nthA, List.cons_append, List.nil_append] at hC5
  refine wl_call cal_18 rfl (set_sp hC5 (hG.starL 0 rfl) f4 [98, 99]) rfl ?_
  rintro e w5 ⟨_, rfl, hv5, hS5⟩; refine ⟨_, rfl, ?_⟩
  replace hS5 := hS5.join rfl; dsimp only [List.dropLast, List.cons_append, List.nil_append] at hS5; clear hC5
  clear hS4
  replace hv5 := hv5.trans (congrArg intV f5); subst hv5
  refine wl_assign rfl rfl ?_
  refine wl_nil ?_
  refine qs_seq ?_
  refine wc_sub (L' := [(7, _), (6, _), (5, _), (4, _), (3, _), (2, _), (1, _), (0, _)]) (.cons rfl (.cons rfl (.cons rfl (.cons rfl (.cons rfl (.cons rfl (.cons rfl (.cons rfl .nil)))))))) ?_
  refine wc_seq ?_
  refine wc_region ?_
  refine wl_move rfl rfl ?_
  have hC6 := hS5.split [0] [true, false, false] rfl; dsimp only [selF, pickA, nthA, List.cons_append, List.nil_append] at hC6
  refine wl_call cal_15 rfl (get_sp hC6) rfl ?_
  rintro e w6 ⟨_, rfl, hv6, hS6⟩; refine ⟨_, rfl, ?_⟩
  replace hS6 := hS6.join rfl; dsimp only [List.dropLast, List.cons_append, List.nil_append] at hS6; clear hC6
  clear hS5
  replace hv6 := hv6.trans (f6); subst hv6
  refine wl_move rfl rfl ?_
  refine wl_extract rfl rfl rfl ?_
  refine wl_extract rfl rfl rfl ?_
  refine wl_assign rfl rfl ?_
  refine wl_assign rfl rfl ?_
  refine wl_nil ?_
  refine qs_seq ?_
  refine wc_sub (L' := [(9, _), (8, _), (7, _), (6, _), (5, _), (4, _), (3, _), (1, _), (0, _)]) (.cons rfl (.cons rfl (.cons rfl (.cons rfl (.cons rfl (.cons rfl (.cons rfl (.cons rfl (.cons rfl .nil))))))))) ?_
  refine wc_seq ?_
  refine wc_region ?_
  refine wl_move rfl rfl ?_
  have hC7 := hS6.split [1] [false, true, false] rfl; dsimp only [selF, pickA, nthA, List.cons_append, List.nil_append] at hC7
  refine wl_call cal_31 rfl (readT hC7 3 0 6) rfl ?_
  rintro e w7 ⟨_, rfl, hv7, hS7⟩; refine ⟨_, rfl, ?_⟩
  replace hS7 := hS7.join rfl; dsimp only [List.dropLast, List.cons_append, List.nil_append] at hS7; clear hC7
  clear hS6
  replace hv7 := hv7.trans (rd_of f7); subst hv7
  refine wl_move rfl rfl ?_
  refine wl_extract rfl rfl rfl ?_
  refine wl_extract rfl rfl rfl ?_
  refine wl_assign rfl rfl ?_
  refine wl_assign rfl rfl ?_
  refine wl_nil ?_
  refine qs_seq ?_
  refine wc_sub (L' := [(10, _), (9, _), (8, _), (7, _), (6, _), (5, _), (4, _), (3, _), (1, _), (0, _)]) (.cons rfl (.cons rfl (.cons rfl (.cons rfl (.cons rfl (.cons rfl (.cons rfl (.cons rfl (.cons rfl (.cons rfl .nil)))))))))) ?_
  refine wc_seq ?_
  refine wc_region ?_
  refine wl_move rfl rfl ?_
  have hC8 := hS7.split [0] [true, false, false] rfl; dsimp only [selF, pickA, nthA, List.cons_append, List.nil_append] at hC8
  refine wl_call cal_31 rfl (readT hC8 3 64 1) rfl ?_
  rintro e w8 ⟨_, rfl, hv8, hS8⟩; refine ⟨_, rfl, ?_⟩
  replace hS8 := hS8.join rfl; dsimp only [List.dropLast, List.cons_append, List.nil_append] at hS8; clear hC8
  clear hS7
  replace hv8 := hv8.trans (rd_of f8); subst hv8
  refine wl_move rfl rfl ?_
  refine wl_extract rfl rfl rfl ?_
  refine wl_extract rfl rfl rfl ?_
  refine wl_assign rfl rfl ?_
  refine wl_assign rfl rfl ?_
  refine wl_nil ?_
  refine qs_seq ?_
  refine wc_sub (L' := [(12, _), (10, _), (9, _), (8, _), (7, _), (6, _), (5, _), (4, _), (3, _), (1, _), (0, _)]) (.cons rfl (.cons rfl (.cons rfl (.cons rfl (.cons rfl (.cons rfl (.cons rfl (.cons rfl (.cons rfl (.cons rfl (.cons rfl .nil))))))))))) ?_
  refine wc_seq ?_
  refine wc_region ?_
  refine wl_move rfl rfl ?_
  have hC9 := hS8.split [0] [true, false, false] rfl; dsimp only [selF, pickA, nthA, List.cons_append, List.nil_append] at hC9
  refine wl_call cal_31 rfl (readT hC9 3 131072 9) rfl ?_
  rintro e w9 ⟨_, rfl, hv9, hS9⟩; refine ⟨_, rfl, ?_⟩
  replace hS9 := hS9.join rfl; dsimp only [List.dropLast, List.cons_append, List.nil_append] at hS9; clear hC9
  clear hS8
  replace hv9 := hv9.trans (rd_of f9); subst hv9
  refine wl_move rfl rfl ?_
  refine wl_extract rfl rfl rfl ?_
  refine wl_extract rfl rfl rfl ?_
  refine wl_assign rfl rfl ?_
  refine wl_assign rfl rfl ?_
  refine wl_nil ?_
  refine qs_seq ?_
  refine wc_sub (L' := [(14, _), (12, _), (10, _), (9, _), (8, _), (7, _), (6, _), (5, _), (4, _), (3, _), (0, _)]) (.cons rfl (.cons rfl (.cons rfl (.cons rfl (.cons rfl (.cons rfl (.cons rfl (.cons rfl (.cons rfl (.cons rfl (.cons rfl .nil))))))))))) ?_
  refine wc_seq ?_
  refine wc_region ?_
  refine wl_move rfl rfl ?_
  refine wl_eql rfl rfl rfl ?_
  refine wl_move rfl rfl ?_
  refine wl_splitD 59 rfl (fun h10 => ?_) (fun h10 => ?_)
  · skip
    refine wl_guard rfl rfl (decide_eq_true h10) ?_
    refine wl_move rfl rfl ?_
    refine wl_guard rfl rfl (decide_eq_true h10) ?_
    refine wl_eqlS rfl rfl rfl ?_
    refine wl_pickT rfl (decide_eq_true h10) rfl rfl ?_
    refine wl_move rfl rfl ?_
    refine wl_splitD 63 rfl (fun h11 => ?_) (fun h11 => ?_)
    · skip
      refine wl_guard rfl rfl (decide_eq_true h11) ?_
      refine wl_move rfl rfl ?_
      refine wl_guard rfl rfl (decide_eq_true h11) ?_
      refine wl_not rfl rfl ?_
      refine wl_pickT rfl (decide_eq_true h11) rfl rfl ?_
      refine wl_move rfl rfl ?_
      refine wl_split 67 rfl (fun h12 => ?_) (fun h12 => ?_)
      · skip
        refine wl_guard rfl rfl h12 ?_
        refine wl_move rfl rfl ?_
        refine wl_guard rfl rfl h12 ?_
        refine wl_eql rfl rfl rfl ?_
        refine wl_pickT rfl h12 rfl rfl ?_
        refine wl_move rfl rfl ?_
        refine wl_splitD 71 rfl (fun h13 => ?_) (fun h13 => ?_)
        · skip
          refine wl_guard rfl rfl (decide_eq_true h13) ?_
          refine wl_move rfl rfl ?_
          refine wl_guard rfl rfl (decide_eq_true h13) ?_
          refine wl_eql rfl rfl rfl ?_
          refine wl_pickT rfl (decide_eq_true h13) rfl rfl ?_
          refine wl_move rfl rfl ?_
          refine wl_splitD 75 rfl (fun h14 => ?_) (fun h14 => ?_)
          · skip
            refine wl_guard rfl rfl (decide_eq_true h14) ?_
            refine wl_move rfl rfl ?_
            refine wl_guard rfl rfl (decide_eq_true h14) ?_
            refine wl_eqlS rfl rfl rfl ?_
            refine wl_pickT rfl (decide_eq_true h14) rfl rfl ?_
            refine wl_move rfl rfl ?_
            refine wl_splitD 79 rfl (fun h15 => ?_) (fun h15 => ?_)
            · skip
              refine wl_guard rfl rfl (decide_eq_true h15) ?_
              refine wl_move rfl rfl ?_
              refine wl_pickT rfl (decide_eq_true h15) rfl rfl ?_
              refine wl_move rfl rfl ?_
              refine wl_split 82 rfl (fun h16 => ?_) (fun h16 => ?_)
              · skip
                refine wl_guard rfl rfl h16 ?_
                refine wl_move rfl rfl ?_
                refine wl_guard rfl rfl h16 ?_
                refine wl_eqlS rfl rfl rfl ?_
                refine wl_pickT rfl h16 rfl rfl ?_
                refine wl_move rfl rfl ?_
                refine wl_splitD 86 rfl (fun h17 => ?_) (fun h17 => ?_)
                · skip
                  refine wl_guard rfl rfl (decide_eq_true h17) ?_
                  refine wl_move rfl rfl ?_
                  refine wl_guard rfl rfl (decide_eq_true h17) ?_
                  refine wl_eqlS rfl rfl rfl ?_
                  refine wl_pickT rfl (decide_eq_true h17) rfl rfl ?_
                  refine wl_move rfl rfl ?_
                  refine wl_splitD 90 rfl (fun h18 => ?_) (fun h18 => ?_)
                  · skip
                    refine wl_guard rfl rfl (decide_eq_true h18) ?_
                    refine wl_move rfl rfl ?_
                    refine wl_guard rfl rfl (decide_eq_true h18) ?_
                    refine wl_eqlS rfl rfl rfl ?_
                    refine wl_pickT rfl (decide_eq_true h18) rfl rfl ?_
                    refine wl_assign rfl rfl ?_
                    refine wl_nil ?_
                    refine qs_seq ?_
                    refine wc_sub (L' := [(0, _)]) (.cons rfl .nil) ?_
                    refine wc_ret ?_
                    refine fin1 (.inr rfl) rfl rfl ?_
                    exact ⟨_, rfl, rfl, hS9.pick [2] rfl⟩
                  · skip
                    first | exact absurd rfl h18 | (simp [newC] at h18)
                · skip
                  first | exact absurd rfl h17 | (simp [newC] at h17)
              · skip
                first | exact absurd rfl h16 | (simp [newC] at h16)
            · skip
              first | exact absurd rfl h15 | (simp [newC] at h15)
          · skip
            first | exact absurd rfl h14 | (simp [newC] at h14)
        · skip
          first | exact absurd rfl h13 | (simp [newC] at h13)
      · skip
        first | exact absurd rfl h12 | (simp [newC] at h12)
    · skip
      first | exact absurd rfl h11 | (simp [newC] at h11)
  · skip
    first | exact absurd rfl h10 | (simp [newC] at h10)

end Go.Proofs.YtleaahajkncnpaaDoor
