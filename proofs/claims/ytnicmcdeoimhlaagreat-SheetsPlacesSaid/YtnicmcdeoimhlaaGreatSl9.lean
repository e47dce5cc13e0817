/- laws of sheets: SheetsPlaces -/
import Derived.Test.YtnicmcdeoimhlaaGreatSl1
namespace Go.Proofs.YtnicmcdeoimhlaaGreat
open Go.RowKit M
set_option linter.unusedVariables false
def plA (S : SS) (j : Int) : Int := match S.all j with | none => 0 | some x => x.place
def atA (S : SS) (j : Int) : Int := match S.all j with | none => 0 | some x => x.at_
theorem plA_some {S : SS} {j : Int} {x : ShE} (h : S.all j = some x) : plA S j = x.place := by unfold plA; rw [h]
theorem atA_some {S : SS} {j : Int} {x : ShE} (h : S.all j = some x) : atA S j = x.at_ := by unfold atA; rw [h]
theorem plA_is {S : SS} {j p : Int} (h : plA S j = p) (hp : p ≠ 0) : ∃ x, S.all j = some x ∧ x.place = p := by
  cases hq : S.all j with
  | none => unfold plA at h; rw [hq] at h; exact absurd h.symm hp
  | some x => rw [plA_some hq] at h; exact ⟨x, rfl, h⟩
def boC : RowC Bool := ⟨fun b => [.bool b], 1, by decide, fun _ => rfl, fun _ => rfl⟩
theorem borow (m : Nat) : (List.replicate m [Value.bool false]).flatten = boC.cells (List.replicate m false) := by
  induction m with
  | zero => rfl
  | succ m ih => rw [List.replicate_succ, List.flatten_cons, ih, List.replicate_succ]; rfl
def cntP (S : SS) (p : Int) (l : List Int) : Nat := (l.filter fun j => decide (plA S j = p)).length
def usedC (S : SS) (l : List Int) : Nat := cntP S 1 l + cntP S 3 l
def packC (S : SS) (l : List Int) : Nat := sumF S.all (l.filter fun j => decide (plA S j = 2))
def seenC (S : SS) (l : List Int) (M : Nat) : List Bool := (List.range M).map fun f : Nat => l.any fun j => decide (plA S j = 1) && decide (atA S j = (f : Int))
theorem cntP_add {S : SS} {p : Int} {l : List Int} {j : Int} : cntP S p (l ++ [j]) = cntP S p l + if plA S j = p then 1 else 0 := by
  unfold cntP
  rw [List.filter_append, List.length_append]
  by_cases h : plA S j = p
  · rw [if_pos h]; simp [h]
  · rw [if_neg h]; simp [h]
theorem usedC_add {S : SS} {l : List Int} {j : Int} : usedC S (l ++ [j]) = usedC S l + if plA S j = 1 ∨ plA S j = 3 then 1 else 0 := by
  unfold usedC
  rw [cntP_add, cntP_add]
  by_cases h1 : plA S j = 1
  · rw [if_pos h1, if_neg (by omega), if_pos (.inl h1)]; omega
  · rw [if_neg h1]
    by_cases h3 : plA S j = 3
    · rw [if_pos h3, if_pos (.inr h3)]; omega
    · rw [if_neg h3, if_neg (by omega)]; omega
theorem packC_add {S : SS} {l : List Int} {j : Int} : packC S (l ++ [j]) = packC S l + if plA S j = 2 then fmL S.all j else 0 := by
  unfold packC sumF
  rw [List.filter_append, List.map_append, List.sum_append]
  by_cases h : plA S j = 2
  · rw [if_pos h]; simp [h]
  · rw [if_neg h]; simp [h]
theorem seenC_len (S : SS) (l : List Int) (M : Nat) : (seenC S l M).length = M := by simp [seenC]
theorem seenC_nil (S : SS) (M : Nat) : List.replicate M false = seenC S [] M := by
  unfold seenC
  apply List.ext_getElem?
  intro i
  rw [List.getElem?_replicate, List.getElem?_map]
  by_cases h : i < M
  · rw [if_pos h, List.getElem?_range h]; rfl
  · rw [if_neg h, List.getElem?_eq_none (by simp; omega)]; rfl
theorem seenC_put {S : SS} {l : List Int} {M : Nat} {j : Int} {f : Nat} (h1 : plA S j = 1) (h2 : atA S j = (f : Int)) : (seenC S l M).set f true = seenC S (l ++ [j]) M := by
  apply List.ext_getElem?
  intro i
  by_cases hi : i < M
  · by_cases q : f = i
    · subst q
      rw [List.getElem?_set_self (by rw [seenC_len]; exact hi)]
      unfold seenC
      rw [List.getElem?_map, List.getElem?_range hi]
      simp [h1, h2]
    · rw [List.getElem?_set_ne q]
      unfold seenC
      rw [List.getElem?_map, List.getElem?_map, List.getElem?_range hi]
      have : ¬ (f : Int) = (i : Int) := by omega
      simp [h2, this]
  · rw [List.getElem?_eq_none (by rw [List.length_set, seenC_len]; omega), List.getElem?_eq_none (by rw [seenC_len]; omega)]
theorem seenC_ne {S : SS} {l : List Int} {M : Nat} {j : Int} (h1 : plA S j ≠ 1) : seenC S (l ++ [j]) M = seenC S l M := by
  unfold seenC
  refine List.map_congr_left fun f _ => ?_
  simp [h1]
theorem frame_one {T : Nat} {S : SS} (hI : ShI no0 T S) {i j : Int} {x y : ShE} (hx : S.all i = some x) (hp : x.place = 1) (hy : S.all j = some y) (hq : y.place = 1) (ha : x.at_ = y.at_) : i = j := by
  have b1 := (hI.frm x.at_ i).2 ⟨fun q => q, x, hx, hp, rfl⟩
  have b2 := (hI.frm x.at_ j).2 ⟨fun q => q, y, hy, hq, ha.symm⟩
  rw [b1] at b2; cases b2; rfl
theorem seenC_no {T : Nat} {S : SS} (hI : ShI no0 T S) {l : List Int} {M f : Nat} {j : Int} {x : ShE} (hx : S.all j = some x) (hp : x.place = 1) (ha : x.at_ = (f : Int)) (hf : f < M) (hn : j ∉ l) : (seenC S l M)[f]? = some false := by
  unfold seenC
  rw [List.getElem?_map, List.getElem?_range hf]
  simp only [Option.map_some, Option.some.injEq]
  rw [List.any_eq_false]
  intro i hi
  simp only [Bool.and_eq_true, decide_eq_true_eq, not_and]
  intro h1 h2
  obtain ⟨y, hy, hyp⟩ := plA_is h1 (by decide)
  rw [atA_some hy] at h2
  have := frame_one hI hy hyp hx hp (by omega)
  subst this
  exact hn hi
theorem fmL_le (A : Int → Option ShE) (j : Int) : fmL A j ≤ 47 := by
  unfold fmL
  cases A j with
  | none => exact Nat.zero_le _
  | some x =>
    show (fm x.pg).length ≤ 47
    unfold fm
    cases hq : packM x.pg with
    | none => simp
    | some f => exact (packM_le hq).1
theorem packC_le (S : SS) : ∀ l : List Int, packC S l ≤ 47 * l.length
  | [] => Nat.le_refl _
  | i :: l => by
    have h := packC_le S l
    have h2 := fmL_le S.all i
    unfold packC sumF at h ⊢
    rw [List.filter_cons, List.length_cons]
    split
    · rw [List.map_cons, List.sum_cons]; omega
    · omega
theorem usedC_le (S : SS) (l : List Int) : usedC S l ≤ 2 * l.length := by
  unfold usedC cntP
  have := List.length_filter_le (fun j => decide (plA S j = 1)) l
  have := List.length_filter_le (fun j => decide (plA S j = 3)) l
  omega
theorem range_count {α : Type} (p : α → Bool) (d : α) : ∀ l : List α, ((List.range l.length).filter fun i => p ((l[i]?).getD d)).length = (l.filter p).length
  | [] => rfl
  | a :: l => by
    have h := range_count p d l
    rw [List.length_cons, List.range_succ_eq_map, List.filter_cons, List.filter_map, List.filter_cons]
    have e : ((fun i => p (((a :: l)[i]?).getD d)) ∘ Nat.succ) = fun i => p ((l[i]?).getD d) := by funext i; simp
    rw [e]
    simp only [List.getElem?_cons_zero, Option.getD_some]
    split
    · rw [List.length_cons, List.length_map, List.length_cons, h]
    · rw [List.length_map, h]
theorem nodup_map_on {α β : Type} {f : α → β} : ∀ {l : List α}, l.Nodup → (∀ a ∈ l, ∀ b ∈ l, f a = f b → a = b) → (l.map f).Nodup
  | [], _, _ => List.nodup_nil
  | a :: l, h, hf => by
    rw [List.nodup_cons] at h
    rw [List.map_cons, List.nodup_cons]
    refine ⟨?_, nodup_map_on h.2 fun x hx y hy => hf x (List.mem_cons_of_mem _ hx) y (List.mem_cons_of_mem _ hy)⟩
    intro q
    obtain ⟨b, hb, he⟩ := List.mem_map.1 q
    have := hf a (by simp) b (List.mem_cons_of_mem _ hb) he.symm
    subst this; exact h.1 hb
theorem match_count {α : Type} (p : α → Bool) (d : α) (l : List α) {L : List Int} (hn : L.Nodup) (pl : Int → Bool) (g : Int → Int)
    (h1 : ∀ j ∈ L, pl j = true → ∃ (i : Nat) (a : α), g j = (i : Int) ∧ l[i]? = some a ∧ p a = true) (h2 : ∀ (i : Nat) (a : α), l[i]? = some a → p a = true → ∃ j ∈ L, pl j = true ∧ g j = (i : Int))
    (h3 : ∀ i ∈ L, ∀ j ∈ L, pl i = true → pl j = true → g i = g j → i = j) : (L.filter pl).length = (l.filter p).length := by
  have a1 : ((L.filter pl).map g).Nodup := nodup_map_on (hn.sublist List.filter_sublist) fun i hi j hj he => h3 i (List.mem_filter.1 hi).1 j (List.mem_filter.1 hj).1 (List.mem_filter.1 hi).2 (List.mem_filter.1 hj).2 he
  have a2 : (((List.range l.length).filter fun i => p ((l[i]?).getD d)).map fun i : Nat => (i : Int)).Nodup := nodup_map_on (List.nodup_range.sublist List.filter_sublist) fun i _ j _ he => Int.ofNat.inj he
  have b1 := nodup_le a1 (m := ((List.range l.length).filter fun i => p ((l[i]?).getD d)).map fun i : Nat => (i : Int)) fun x hx => by
    obtain ⟨j, hj, rfl⟩ := List.mem_map.1 hx
    obtain ⟨hjL, hjp⟩ := List.mem_filter.1 hj
    obtain ⟨i, a, e1, e2, e3⟩ := h1 j hjL hjp
    rw [e1]
    exact List.mem_map.2 ⟨i, List.mem_filter.2 ⟨List.mem_range.2 (List.getElem?_eq_some_iff.1 e2).1, by rw [e2]; exact e3⟩, rfl⟩
  have b2 := nodup_le a2 (m := (L.filter pl).map g) fun x hx => by
    obtain ⟨i, hi, rfl⟩ := List.mem_map.1 hx
    obtain ⟨hir, hip⟩ := List.mem_filter.1 hi
    have hil := List.mem_range.1 hir
    rw [List.getElem?_eq_getElem hil] at hip
    obtain ⟨j, hj, e1, e2⟩ := h2 i l[i] (List.getElem?_eq_getElem hil) hip
    exact List.mem_map.2 ⟨j, List.mem_filter.2 ⟨hj, e1⟩, e2⟩
  rw [List.length_map, List.length_map, range_count] at b1 b2
  omega
theorem used_is {T : Nat} {S : SS} (hI : ShI no0 T S) {L : List Int} (hL : LiveL S L) : usedC S L = usedF S.fr + usedN S.sl := by
  have hx : ∀ {j x}, S.all j = some x → j ∈ L := fun {j x} h => (hL.mem j).2 (by rw [h]; simp)
  have e1 : cntP S 1 L = usedF S.fr := by
    refine match_count Option.isSome none S.fr hL.nod _ (atA S) (fun j _ hp => ?_) (fun i a ha hs => ?_) (fun i _ j _ hp hq he => ?_)
    · obtain ⟨x, h1, h2⟩ := plA_is (of_decide_eq_true hp) (by decide)
      have h3 := hI.frc (fun q => q) h1 h2
      obtain ⟨h4, h5⟩ := frAt_some h3
      exact ⟨x.at_.toNat, some x.pg, by rw [atA_some h1]; omega, h5, rfl⟩
    · cases a with
      | none => cases hs
      | some b =>
        have h1 : frAt S.fr (i : Int) = some b := by unfold frAt; rw [if_pos (by omega), Int.toNat_natCast, ha]
        obtain ⟨id, x, _, _, h2, h3, h4, _⟩ := frame_has hI h1
        exact ⟨id, hx h2, by rw [plA_some h2, h3]; rfl, by rw [atA_some h2, h4]⟩
    · obtain ⟨x, h1, h2⟩ := plA_is (of_decide_eq_true hp) (by decide)
      obtain ⟨y, h3, h4⟩ := plA_is (of_decide_eq_true hq) (by decide)
      rw [atA_some h1, atA_some h3] at he
      exact frame_one hI h1 h2 h3 h4 he
  have e2 : cntP S 3 L = usedN S.sl := by
    refine match_count (fun p : Bs => !decide (p = [])) [] S.sl hL.nod _ (atA S) (fun j _ hp => ?_) (fun i a ha hs => ?_) (fun i _ j _ hp hq he => ?_)
    · obtain ⟨x, h1, h2⟩ := plA_is (of_decide_eq_true hp) (by decide)
      obtain ⟨h4, h5⟩ := hI.slt (fun q => q) h1 h2
      have h64 := (hI.ent h1).2.2.2.2.1
      exact ⟨x.at_.toNat, x.pg, by rw [atA_some h1]; omega, h5, by cases hq : x.pg with | nil => rw [hq] at h64; simp at h64 | cons c t => simp⟩
    · obtain ⟨j, x, _, h2, h3, h4⟩ := hI.slu ha (by simpa using hs)
      exact ⟨j, hx h2, by rw [plA_some h2, h3]; rfl, by rw [atA_some h2, h4]⟩
    · obtain ⟨x, h1, h2⟩ := plA_is (of_decide_eq_true hp) (by decide)
      obtain ⟨y, h3, h4⟩ := plA_is (of_decide_eq_true hq) (by decide)
      rw [atA_some h1, atA_some h3] at he
      exact hI.sli (fun q => q) (fun q => q) h1 h3 h2 h4 he
  unfold usedC
  rw [e1, e2]
theorem sum_erase {f : Int → Nat} : ∀ {B : List Int} {a : Int}, a ∈ B → (B.map f).sum = f a + ((B.erase a).map f).sum
  | b :: B, a, h => by
    by_cases q : b = a
    · subst q; rw [List.erase_cons_head, List.map_cons, List.sum_cons]
    · have h2 := sum_erase (f := f) ((List.mem_cons.1 h).resolve_left (fun e => q e.symm))
      rw [List.erase_cons_tail (by simpa using q), List.map_cons, List.sum_cons, List.map_cons, List.sum_cons, h2]
      omega
theorem sum_subset {f : Int → Nat} : ∀ {C B : List Int}, C.Nodup → (∀ j ∈ C, j ∈ B) → (C.map f).sum ≤ (B.map f).sum
  | [], _, _, _ => Nat.zero_le _
  | a :: C, B, hn, h => by
    rw [List.nodup_cons] at hn
    have h1 := sum_subset (f := f) (B := B.erase a) hn.2 fun j hj => (List.mem_erase_of_ne (show j ≠ a from fun q => hn.1 (q ▸ hj))).2 (h j (List.mem_cons_of_mem _ hj))
    have h2 := sum_erase (f := f) (h a (by simp))
    rw [List.map_cons, List.sum_cons, h2]
    omega
theorem pack_is {T : Nat} {S : SS} (hI : ShI no0 T S) {L : List Int} (hL : LiveL S L) : (packC S L : Int) ≤ S.budget := by
  have h1 : packC S L ≤ sumF S.all S.cache := by
    unfold packC sumF
    refine sum_subset (hL.nod.sublist List.filter_sublist) fun j hj => ?_
    obtain ⟨x, h1, h2⟩ := plA_is (of_decide_eq_true (List.mem_filter.1 hj).2) (by decide)
    exact (hI.pck (fun q => q) h1 h2).1
  have := hI.sum
  omega
set_option maxRecDepth 100000 in
set_option maxHeartbeats 3200000 in
theorem places_law {w : World} {F : Th} (hS : Sat w [F]) {lv : Value} {l : List OpD} (count slots budget : Int) (hL : Ent F (RdL opC lv l)) :
    Calls Tryz.prog 4 #[intV count, intV slots, intV budget, lv] w (Ret fun v w' => v = .bool true ∧ Sat w' [F]) := by
 obtain ⟨ao, cap, rfl, hmax⟩ := (hL.sat hS 0 rfl).shape
 have hnM : max 1 (min count 256) = (((newS count slots budget).fr.length : Nat) : Int) := by show _ = ((List.replicate _ _).length : Int); rw [List.length_replicate]; omega
 have hrmv : (((newS count slots budget).fr.length : Int) + (newS count slots budget).slots) = max 1 (min count 256) + max 0 (min slots 4096) := by rw [hnM]; show _ + min (max slots 0) 4096 = _; omega
 refine calls_enter Tryz.func4 rfl Tryz.ntmps4 rfl ?_
 refine wc_seq (wc_region (wl_assign rfl rfl (wl_nil (qs_seq (wc_seq (wc_region ?_))))))
 have hC1 := hS.split [] [false] rfl; dsimp only [selF, pickA, nthA, List.cons_append, List.nil_append] at hC1
 refine wl_call cal_8 rfl (small_sp hC1) rfl ?_
 rintro e w1 ⟨_, rfl, rfl, hS1⟩; refine ⟨_, rfl, ?_⟩
 replace hS1 := hS1.join rfl; dsimp only [List.dropLast, List.cons_append, List.nil_append] at hS1; clear hC1
 refine wl_assign rfl rfl (wl_nil (qs_seq (wc_seq (wc_region (wl_move rfl rfl (wl_move rfl rfl (wl_move rfl rfl ?_)))))))
 have hC2 := hS1.split [] [false] rfl; dsimp only [selF, pickA, nthA, List.cons_append, List.nil_append] at hC2
 refine wl_call cal_9 rfl (shnew_sp hC2 count slots budget) rfl ?_
 rintro e w2 ⟨_, rfl, p, rfl, hS2⟩; refine ⟨_, rfl, ?_⟩
 replace hS2 := hS2.join rfl; dsimp only [List.dropLast, List.cons_append, List.nil_append] at hS2; clear hC2
 clear hS1
 refine wl_assign rfl rfl (wl_nil (qs_seq ?_))
 refine wc_sub (L' := [(10, _), (9, _), (8, _), (0, _), (1, _), (2, _), (3, _)]) (.cons rfl (.cons rfl (.cons rfl (.cons rfl (.cons rfl (.cons rfl (.cons rfl .nil))))))) ?_
 refine wc_seq (wc_seq (wc_region (wl_move rfl rfl ?_)))
 have hC3 := hS2.split [] [false, false] rfl; dsimp only [selF, pickA, nthA, List.cons_append, List.nil_append] at hC3
 refine wl_call cal_10 rfl (few_sp hC3 (hL.starL 1 rfl) 60) rfl ?_
 rintro e w3 ⟨_, rfl, rfl, hS3⟩; refine ⟨_, rfl, ?_⟩
 replace hS3 := hS3.join rfl; dsimp only [List.dropLast, List.cons_append, List.nil_append] at hS3; clear hC3
 clear hS2
 refine wl_not rfl rfl ?_
 refine wl_move rfl rfl ?_
 refine wl_split 32 rfl (fun h4 => ?_) (fun h4 => ?_)
 ·refine wl_unwanted rfl rfl h4 rfl ?_
  refine wl_unwanted rfl rfl h4 rfl ?_
  refine wl_pickT rfl h4 rfl rfl ?_
  refine wl_nil (qs_seq ?_)
  refine wc_sub (L' := [(35, _), (10, _), (9, _), (8, _), (0, _), (1, _), (2, _), (3, _)]) (.cons rfl (.cons rfl (.cons rfl (.cons rfl (.cons rfl (.cons rfl (.cons rfl (.cons rfl .nil)))))))) ?_
  refine wc_condT rfl ?_
  refine wc_seq (wc_region (wl_move rfl rfl (wl_move rfl rfl ?_)))
  refine wl_split 37 rfl (fun h5 => ?_) (fun h5 => ?_)
  ·refine wl_guard rfl rfl h5 ?_
   refine wl_move rfl rfl ?_
   refine wl_guard rfl rfl h5 ?_
   refine wl_neqNil Tryz.underlying24 rfl rfl rfl ?_
   refine wl_pickT rfl h5 rfl rfl ?_
   refine wl_assign rfl rfl (wl_nil (qs_seq ?_))
   refine wc_sub (L' := [(8, _), (10, _), (9, _), (0, _), (1, _), (2, _), (3, _)]) (.cons rfl (.cons rfl (.cons rfl (.cons rfl (.cons rfl (.cons rfl (.cons rfl .nil))))))) ?_
   refine wc_ret (qs_then_ret ?_)
   refine fin1 (.inr rfl) rfl rfl ?_
   exact ⟨_, rfl, by first | rfl | exact congrArg Value.bool (decide_eq_true hrmv).symm | exact congrArg Value.bool (decide_eq_true hrmv) | (rw [decide_eq_true hrmv]), hS3.pick [1] rfl⟩
  exact absurd h5 (by simp)
 have hfew : fewB l 60 = true := by simpa using h4
 have hall := few_all hfew
 refine wl_guard rfl rfl h4 ?_
 refine wl_move rfl rfl ?_
 refine wl_guard rfl rfl h4 ?_
 refine wl_eqlNil Tryz.underlying24 rfl rfl rfl ?_
 refine wl_pickF rfl h4 rfl rfl ?_
 refine wl_nil (qs_seq ?_)
 refine wc_sub (L' := [(35, _), (10, _), (9, _), (8, _), (0, _), (1, _), (2, _), (3, _)]) (.cons rfl (.cons rfl (.cons rfl (.cons rfl (.cons rfl (.cons rfl (.cons rfl (.cons rfl .nil)))))))) ?_
 refine wc_condF rfl ?_
 refine wc_skip (qs_seq (wc_seq (wc_region (wl_move rfl rfl ?_))))
 have hC6 := hS3.split [0] [true, false] rfl; dsimp only [selF, pickA, nthA, List.cons_append, List.nil_append] at hC6
 refine wl_call cal_16 rfl (shroom_sp hC6 (newS_inv count slots budget)) rfl ?_
 rintro e w6 ⟨_, rfl, rfl, hS6⟩; refine ⟨_, rfl, ?_⟩
 replace hS6 := hS6.join rfl; dsimp only [List.dropLast, List.cons_append, List.nil_append] at hS6; clear hC6
 clear hS3
 rw [show ((newS count slots budget).fr.length : Int) - (usedF (newS count slots budget).fr : Int) + (newS count slots budget).slots - (usedN (newS count slots budget).sl : Int) = (((newS count slots budget).fr.length : Int) + (newS count slots budget).slots) by rw [(new_used count slots budget).1, (new_used count slots budget).2]; omega]
 refine wl_assign rfl rfl (wl_nil (qs_seq ?_))
 refine wc_sub (L' := [(11, _), (10, _), (9, _), (8, _), (0, _), (1, _), (2, _), (3, _)]) (.cons rfl (.cons rfl (.cons rfl (.cons rfl (.cons rfl (.cons rfl (.cons rfl (.cons rfl .nil)))))))) ?_
 refine wc_seq (wc_region (wl_move rfl rfl ?_))
 refine wl_minI rfl rfl rfl ?_
 refine wl_maxI rfl rfl rfl ?_
 refine wl_assign rfl rfl (wl_nil (qs_seq ?_))
 refine wc_sub (L' := [(12, _), (11, _), (10, _), (9, _), (8, _), (1, _), (2, _), (3, _)]) (.cons rfl (.cons rfl (.cons rfl (.cons rfl (.cons rfl (.cons rfl (.cons rfl (.cons rfl .nil)))))))) ?_
 refine wc_seq (wc_seq (wc_region (wl_assign rfl rfl (wl_nil (qs_seq (wc_block ?_))))))
 refine wc_loop (fun K0 E0 W0 => ∃ (i : Nat) (S : SS), K0 = l.length - i ∧ E0 = [(1, intV slots), (2, intV budget), (3, .slice ao l.length cap), (9, .bool true), (10, ptrV p 0), (11, intV (((newS count slots budget).fr.length : Int) + (newS count slots budget).slots)), (12, intV (max 1 (min count 256))), (13, intV (i : Int))] ∧ Sat W0 [shT p S, F] ∧ (i ≤ l.length) ∧ (ShI no0 (301 * i) S) ∧ (DomV (vw S) i) ∧ (UnB (newS count slots budget) S) ∧ (S.budget = max budget 0)) (L0 := [(1, _), (2, _), (3, _), (9, _), (10, _), (11, _), (12, _), (13, _)]) (l.length - 0) (.cons rfl (.cons rfl (.cons rfl (.cons rfl (.cons rfl (.cons rfl (.cons rfl (.cons rfl .nil)))))))) ⟨0, _, rfl, rfl, hS6, by omega, newS_inv count slots budget, DomV.nil, ⟨rfl, rfl⟩, rfl⟩ ?_
 rintro _ _ w7 ⟨i, S, rfl, rfl, hS7, hi, hI, hdm, hub, hbu⟩
 refine wc_seq (wc_seq (wc_region (wl_move rfl rfl (wl_move rfl rfl ?_))))
 refine wl_lenL Tryz.underlying22 rfl rfl ?_
 refine wl_lss rfl rfl rfl ?_
 refine wl_nil (qs_seq ?_)
 refine wc_sub (L' := [(49, _), (1, _), (2, _), (3, _), (9, _), (10, _), (11, _), (12, _), (13, _)]) (.cons rfl (.cons rfl (.cons rfl (.cons rfl (.cons rfl (.cons rfl (.cons rfl (.cons rfl (.cons rfl .nil))))))))) ?_
 refine wc_condD rfl (fun h8 => ?_) (fun h8 => ?_)
 ·obtain ⟨o, ho⟩ : ∃ o, l[i]? = some o := ⟨_, List.getElem?_eq_getElem (by omega)⟩
  obtain ⟨b, off, rfl, _⟩ := (hL.sat hS7 1 rfl).get ho
  have hil := (List.getElem?_eq_some_iff.1 ho).1
  have hoo := hall.1 i o ho
  refine wc_skip (qs_seq (wc_seq (wc_block (wc_seq (wc_region (wl_move rfl rfl (wl_move rfl rfl (wl_move rfl rfl ?_))))))))
  refine wl_indexAddr i rfl rfl (by first | rfl | omega) (by omega) es_22 rfl ?_
  refine wl_loadAt rfl ag_33 sz_33 (vs := opV o) ((hL.sat hS7 1 rfl).at_ ho) rfl ?_
  have hC9 := hS7.split [0] [true, false] rfl; dsimp only [selF, pickA, nthA, List.cons_append, List.nil_append] at hC9
  refine wl_call cal_11 rfl (do_sp hC9 hI (by omega) o hoo) rfl ?_
  rintro e w9 ⟨_, rfl, a, e, S2, rfl, hDo, hS9⟩; refine ⟨_, rfl, ?_⟩
  replace hS9 := hS9.join rfl; dsimp only [List.dropLast, List.cons_append, List.nil_append] at hS9; clear hC9
  clear hS7
  refine wl_nil (qs_seq ?_)
  refine wc_sub (L' := [(1, _), (2, _), (3, _), (9, _), (10, _), (11, _), (12, _), (13, _)]) (.cons rfl (.cons rfl (.cons rfl (.cons rfl (.cons rfl (.cons rfl (.cons rfl (.cons rfl .nil)))))))) ?_
  refine wc_seq ?_
  have hI2 := hDo.inv; rw [show 301 * i + 301 = 301 * (i + 1) by omega] at hI2
  have hub2 : UnB (newS count slots budget) S2 := ⟨hDo.f.frn.trans hub.frn, hDo.f.slo.trans hub.slo⟩
  have hbu2 : S2.budget = max budget 0 := hDo.f.bud.trans hbu
  refine wc_region (wl_move rfl rfl ?_)
  have hC10 := hS9.split [0] [true, false] rfl; dsimp only [selF, pickA, nthA, List.cons_append, List.nil_append] at hC10
  refine wl_call cal_17 rfl (shliveL_sp hC10 (hdm.step hDo.v) (by omega)) rfl ?_
  rintro e w10 ⟨_, rfl, L, hL0, hLn, hS10⟩; refine ⟨_, rfl, ?_⟩
  replace hS10 := hS10.join rfl; dsimp only [List.dropLast, List.cons_append, List.nil_append] at hS10; clear hC10
  clear hS9
  obtain ⟨la, lc, hlv, _⟩ := hS10.own_shape 0 rfl
  obtain rfl := hlv
  refine wl_assign rfl rfl (wl_nil (qs_seq (wc_seq (wc_region (wl_assign rfl rfl (wl_nil (qs_seq (wc_seq (wc_region (wl_assign rfl rfl (wl_nil (qs_seq (wc_seq (wc_region (wl_move rfl rfl ?_)))))))))))))))
  refine wl_make hS10 (newS count slots budget).fr.length rfl rfl hnM Tryz.underlying44 ifo_4 rfl (by omega) (by omega) rfl ?_
  intro db w11 hS11a; have hS11 := hS11a.row_cast (l := List.replicate (newS count slots budget).fr.length false) (C := boC) (by simp) rfl (borow _)
  clear hS10
  refine wl_assign rfl rfl (wl_nil (qs_seq ?_))
  refine wc_sub (L' := [(17, _), (16, _), (15, _), (14, _), (1, _), (2, _), (3, _), (9, _), (10, _), (11, _), (12, _), (13, _)]) (.cons rfl (.cons rfl (.cons rfl (.cons rfl (.cons rfl (.cons rfl (.cons rfl (.cons rfl (.cons rfl (.cons rfl (.cons rfl (.cons rfl .nil)))))))))))) ?_
  refine wc_seq (wc_seq (wc_region (wl_assign rfl rfl (wl_nil (qs_seq (wc_block ?_))))))
  have hq1 := hS11.pick [0, 1, 2, 3] rfl
  refine wc_loop (fun K0 E0 W0 => ∃ (k u q : Nat) (sl : List Bool), K0 = L.length - k ∧ E0 = [(1, intV slots), (2, intV budget), (3, .slice (some ⟨b, off, none⟩) l.length cap), (9, .bool true), (10, ptrV p 0), (11, intV (((newS count slots budget).fr.length : Int) + (newS count slots budget).slots)), (12, intV (max 1 (min count 256))), (13, intV (i : Int)), (14, .slice la L.length lc), (15, intV (u : Int)), (16, intV (q : Int)), (17, .slice (some ⟨db, 0, none⟩) (newS count slots budget).fr.length (newS count slots budget).fr.length), (18, intV (k : Int))] ∧ Sat W0 [rowT boC (.slice (some ⟨db, 0, none⟩) (newS count slots budget).fr.length (newS count slots budget).fr.length) sl, rowT inC (.slice la L.length lc) L, shT p S2, F] ∧ (k ≤ L.length) ∧ (u = usedC S2 (L.take k)) ∧ (q = packC S2 (L.take k)) ∧ (sl = seenC S2 (L.take k) (newS count slots budget).fr.length)) (L0 := [(1, _), (2, _), (3, _), (9, _), (10, _), (11, _), (12, _), (13, _), (14, _), (15, _), (16, _), (17, _), (18, _)]) (L.length - 0) (.cons rfl (.cons rfl (.cons rfl (.cons rfl (.cons rfl (.cons rfl (.cons rfl (.cons rfl (.cons rfl (.cons rfl (.cons rfl (.cons rfl (.cons rfl .nil))))))))))))) ⟨0, 0, 0, _, rfl, rfl, hq1, by omega, rfl, rfl, seenC_nil S2 _⟩ ?_
  rintro _ _ w12 ⟨k, u, q, sl, rfl, rfl, hS12, hk, hu, hq, hsl⟩
  refine wc_seq (wc_seq (wc_region (wl_move rfl rfl (wl_move rfl rfl ?_))))
  first | refine wl_lenL Tryz.underlying28 rfl rfl ?_ | refine wl_lenO 0 hS12 Tryz.underlying28 rfl rfl rfl ?_ | refine wl_lenO 1 hS12 Tryz.underlying28 rfl rfl rfl ?_
  refine wl_lss rfl rfl rfl ?_
  refine wl_nil (qs_seq ?_)
  refine wc_sub (L' := [(65, _), (1, _), (2, _), (3, _), (9, _), (10, _), (11, _), (12, _), (13, _), (14, _), (15, _), (16, _), (17, _), (18, _)]) (.cons rfl (.cons rfl (.cons rfl (.cons rfl (.cons rfl (.cons rfl (.cons rfl (.cons rfl (.cons rfl (.cons rfl (.cons rfl (.cons rfl (.cons rfl (.cons rfl .nil)))))))))))))) ?_
  refine wc_condD rfl (fun h13 => ?_) (fun h13 => ?_)
  ·obtain ⟨j, hj⟩ : ∃ x, L[k]? = some x := ⟨_, List.getElem?_eq_getElem (by omega)⟩
   obtain ⟨lb, lc9, hql, _⟩ := hS12.own_at 1 rfl (by omega); cases hql
   obtain ⟨x, hx⟩ := Option.ne_none_iff_exists'.1 ((hL0.mem j).1 (List.mem_of_getElem? hj))
   have hxe := hI2.ent hx
   have hnk := take_out hL0.nod hj
   have hju : L.take (k + 1) = L.take k ++ [j] := by rw [List.take_add_one, hj]; rfl
   have hub9 := usedC_le S2 (L.take k); rw [← hu, List.length_take] at hub9
   have hqb9 := packC_le S2 (L.take k); rw [← hq, List.length_take] at hqb9
   have hsll : sl.length = (newS count slots budget).fr.length := by rw [hsl, seenC_len]
   refine wc_skip (qs_seq (wc_seq (wc_block (wc_seq (wc_region (wl_move rfl rfl (wl_move rfl rfl (wl_move rfl rfl ?_))))))))
   refine wl_rowIdx inC 1 k hS12 rfl rfl rfl (by first | rfl | omega) hj es_28 rfl ?_
   intro bx14 capx14 hvx14
   refine wl_rowLoad 1 k 0 hS12 rfl hvx14 rfl rfl hj ag_3 rfl rfl ?_
   have hC15 := hS12.split [2] [false, false, true, false] rfl; dsimp only [selF, pickA, nthA, List.cons_append, List.nil_append] at hC15
   refine wl_call cal_18 rfl (shframe_sp hC15 j) rfl ?_
   rintro e w15 ⟨_, rfl, rfl, hS15⟩; refine ⟨_, rfl, ?_⟩
   replace hS15 := hS15.join rfl; dsimp only [List.dropLast, List.cons_append, List.nil_append] at hS15; clear hC15
   clear hS12
   rw [hx]
   dsimp only
   rcases hxe.2.2.2.2.2 with hpl | hpl | hpl
   ·have hpA : plA S2 j = 1 := (plA_some hx).trans hpl
    obtain ⟨hat0, hatl⟩ := frAt_lt (hI2.frc (fun q => q) hx hpl)
    obtain ⟨f, hf⟩ : ∃ f : Nat, x.at_ = (f : Int) := ⟨x.at_.toNat, by omega⟩
    have hatA : atA S2 j = (f : Int) := (atA_some hx).trans hf
    have hfl : f < (newS count slots budget).fr.length := by have := hub2.frn; omega
    have hseen : sl[f]? = some false := by rw [hsl]; exact seenC_no hI2 hx hpl hf hfl hnk
    rw [if_pos hpl, hf]
    refine wl_move rfl rfl (wl_extract rfl rfl rfl (wl_extract rfl rfl rfl (wl_assign rfl rfl (wl_assign rfl rfl (wl_nil (qs_seq ?_))))))
    refine wc_sub (L' := [(20, _), (19, _), (1, _), (2, _), (3, _), (9, _), (10, _), (11, _), (12, _), (13, _), (14, _), (15, _), (16, _), (17, _), (18, _)]) (.cons rfl (.cons rfl (.cons rfl (.cons rfl (.cons rfl (.cons rfl (.cons rfl (.cons rfl (.cons rfl (.cons rfl (.cons rfl (.cons rfl (.cons rfl (.cons rfl (.cons rfl .nil))))))))))))))) ?_
    refine wc_seq (wc_region (wl_move rfl rfl (wl_move rfl rfl (wl_move rfl rfl ?_))))
    refine wl_rowIdx inC 2 k hS15 rfl rfl rfl (by first | rfl | omega) hj es_28 rfl ?_
    intro bx16 capx16 hvx16
    refine wl_rowLoad 2 k 0 hS15 rfl hvx16 rfl rfl hj ag_3 rfl rfl ?_
    have hC17 := hS15.split [0] [true, false, false, false] rfl; dsimp only [selF, pickA, nthA, List.cons_append, List.nil_append] at hC17
    refine wl_call cal_19 rfl (shplace_sp hC17 j) rfl ?_
    rintro e w17 ⟨_, rfl, rfl, hS17⟩; refine ⟨_, rfl, ?_⟩
    replace hS17 := hS17.join rfl; dsimp only [List.dropLast, List.cons_append, List.nil_append] at hS17; clear hC17
    clear hS15
    rw [hx]
    dsimp only
    rw [hpl]
    refine wl_assign rfl rfl (wl_nil (qs_seq ?_))
    refine wc_sub (L' := [(21, _), (20, _), (19, _), (1, _), (2, _), (3, _), (9, _), (10, _), (11, _), (12, _), (13, _), (14, _), (15, _), (16, _), (17, _), (18, _)]) (.cons rfl (.cons rfl (.cons rfl (.cons rfl (.cons rfl (.cons rfl (.cons rfl (.cons rfl (.cons rfl (.cons rfl (.cons rfl (.cons rfl (.cons rfl (.cons rfl (.cons rfl (.cons rfl .nil)))))))))))))))) ?_
    refine wc_seq (wc_seq (wc_region (wl_move rfl rfl (wl_move rfl rfl ?_))))
    refine wl_eql rfl rfl rfl ?_
    refine wl_neqB Tryz.underlying4 rfl rfl rfl ?_
    refine wl_move rfl rfl ?_
    refine wl_split 87 rfl (fun h18 => ?_) (fun h18 => ?_)
    ·exact absurd h18 (by decide)
    refine wl_guard rfl rfl h18 ?_
    refine wl_move rfl rfl ?_
    refine wl_guard rfl rfl h18 ?_
    refine wl_move rfl rfl ?_
    refine wl_split 89 rfl (fun h19 => ?_) (fun h19 => ?_)
    ·refine wl_guard rfl rfl h19 ?_
     refine wl_move rfl rfl ?_
     refine wl_guard rfl rfl h19 ?_
     refine wl_lss rfl rfl rfl ?_
     refine wl_guard rfl rfl h19 ?_
     refine wl_move rfl rfl ?_
     refine wl_splitD 92 rfl (fun h20 => ?_) (fun h20 => ?_)
     ·exact absurd h20 (by omega)
     refine wl_guard rfl rfl (decide_eq_false h20) ?_
     refine wl_move rfl rfl ?_
     refine wl_guard rfl rfl (decide_eq_false h20) ?_
     refine wl_move rfl rfl ?_
     refine wl_guard rfl rfl (decide_eq_false h20) ?_
     refine wl_geq rfl rfl rfl ?_
     refine wl_guard rfl rfl h19 ?_
     refine wl_pickF rfl (decide_eq_false h20) rfl rfl ?_
     refine wl_guard rfl rfl h18 ?_
     refine wl_pickT rfl h19 rfl rfl ?_
     refine wl_pickF rfl h18 rfl rfl ?_
     refine wl_nil (qs_seq ?_)
     refine wc_sub (L' := [(98, _), (21, _), (20, _), (19, _), (1, _), (2, _), (3, _), (9, _), (10, _), (11, _), (12, _), (13, _), (14, _), (15, _), (16, _), (17, _), (18, _)]) (.cons rfl (.cons rfl (.cons rfl (.cons rfl (.cons rfl (.cons rfl (.cons rfl (.cons rfl (.cons rfl (.cons rfl (.cons rfl (.cons rfl (.cons rfl (.cons rfl (.cons rfl (.cons rfl (.cons rfl .nil))))))))))))))))) ?_
     refine wc_condD rfl (fun h21 => ?_) (fun h21 => ?_)
     ·exact absurd h21 (by omega)
     refine wc_skip (qs_seq (wc_seq (wc_seq (wc_region (wl_move rfl rfl (wl_nil (qs_seq ?_)))))))
     refine wc_cond rfl (fun h22 => ?_) (fun h22 => ?_)
     ·refine wc_seq (wc_seq (wc_region (wl_move rfl rfl (wl_move rfl rfl ?_))))
      refine wl_rowIdx boC 1 f hS17 rfl rfl rfl (by first | rfl | omega) hseen es_44 rfl ?_
      intro bx23 capx23 hvx23
      refine wl_rowLoad 1 f 0 hS17 rfl hvx23 rfl rfl hseen ag_4 rfl rfl ?_
      refine wl_nil (qs_seq ?_)
      refine wc_sub (L' := [(103, _), (21, _), (19, _), (1, _), (2, _), (3, _), (9, _), (10, _), (11, _), (12, _), (13, _), (14, _), (15, _), (16, _), (17, _), (18, _)]) (.cons rfl (.cons rfl (.cons rfl (.cons rfl (.cons rfl (.cons rfl (.cons rfl (.cons rfl (.cons rfl (.cons rfl (.cons rfl (.cons rfl (.cons rfl (.cons rfl (.cons rfl (.cons rfl .nil)))))))))))))))) ?_
      refine wc_cond rfl (fun h24 => ?_) (fun h24 => ?_)
      ·exact absurd h24 (by simp)
      refine wc_skip (qs_seq (wc_region (wl_move rfl rfl (wl_move rfl rfl ?_))))
      refine wl_rowIdx boC 1 f hS17 rfl rfl rfl (by first | rfl | omega) hseen es_44 rfl ?_
      intro bx25 capx25 hvx25
      refine wl_rowStore 1 f true hS17 rfl hvx25 rfl rfl sz_4 (by first | rfl | (simp; done)) (by first | omega | exact (List.getElem?_eq_some_iff.1 hseen).1) ?_
      intro w26 hS27; dsimp only [List.set] at hS27
      clear hS17
      refine wl_nil (qs_seq ?_)
      refine wc_sub (L' := [(21, _), (1, _), (2, _), (3, _), (9, _), (10, _), (11, _), (12, _), (13, _), (14, _), (15, _), (16, _), (17, _), (18, _)]) (.cons rfl (.cons rfl (.cons rfl (.cons rfl (.cons rfl (.cons rfl (.cons rfl (.cons rfl (.cons rfl (.cons rfl (.cons rfl (.cons rfl (.cons rfl (.cons rfl .nil)))))))))))))) ?_
      refine wc_seq (wc_seq (wc_region (wl_move rfl rfl ?_)))
      refine wl_eql rfl rfl rfl ?_
      refine wl_move rfl rfl ?_
      refine wl_splitD 109 rfl (fun h28 => ?_) (fun h28 => ?_)
      ·refine wl_unwanted rfl rfl (decide_eq_true h28) rfl ?_
       refine wl_unwanted rfl rfl (decide_eq_true h28) rfl ?_
       refine wl_pickT rfl (decide_eq_true h28) rfl rfl ?_
       refine wl_nil (qs_seq ?_)
       refine wc_sub (L' := [(112, _), (21, _), (1, _), (2, _), (3, _), (9, _), (10, _), (11, _), (12, _), (13, _), (14, _), (15, _), (16, _), (17, _), (18, _)]) (.cons rfl (.cons rfl (.cons rfl (.cons rfl (.cons rfl (.cons rfl (.cons rfl (.cons rfl (.cons rfl (.cons rfl (.cons rfl (.cons rfl (.cons rfl (.cons rfl (.cons rfl .nil))))))))))))))) ?_
       refine wc_condT rfl ?_
       refine wc_region (wl_move rfl rfl ?_)
       refine wl_add rfl rfl (by omega) (by omega) rfl ?_
       refine wl_assign rfl rfl (wl_nil (qs_seq ?_))
       refine wc_sub (L' := [(15, _), (21, _), (1, _), (2, _), (3, _), (9, _), (10, _), (11, _), (12, _), (13, _), (14, _), (16, _), (17, _), (18, _)]) (.cons rfl (.cons rfl (.cons rfl (.cons rfl (.cons rfl (.cons rfl (.cons rfl (.cons rfl (.cons rfl (.cons rfl (.cons rfl (.cons rfl (.cons rfl (.cons rfl .nil)))))))))))))) ?_
       refine wc_seq (wc_region (wl_move rfl rfl ?_))
       refine wl_eql rfl rfl rfl ?_
       refine wl_nil (qs_seq ?_)
       refine wc_condD rfl (fun h29 => ?_) (fun h29 => ?_)
       ·exact absurd h29 (by decide)
       refine wc_skip (qs_block_normal (qs_seq ?_))
       refine wc_sub (L' := [(15, _), (1, _), (2, _), (3, _), (9, _), (10, _), (11, _), (12, _), (13, _), (14, _), (16, _), (17, _), (18, _)]) (.cons rfl (.cons rfl (.cons rfl (.cons rfl (.cons rfl (.cons rfl (.cons rfl (.cons rfl (.cons rfl (.cons rfl (.cons rfl (.cons rfl (.cons rfl .nil))))))))))))) ?_
       refine wc_region (wl_move rfl rfl ?_)
       refine wl_add rfl rfl (by omega) (by omega) rfl ?_
       refine wl_assign rfl rfl (wl_nil ?_)
       exact qs_round (L1 := [(1, _), (2, _), (3, _), (9, _), (10, _), (11, _), (12, _), (13, _), (14, _), (15, intV ((u + 1 : Nat) : Int)), (16, intV ((q : Nat) : Int)), (17, _), (18, intV ((k + 1 : Nat) : Int))]) (.cons rfl (.cons rfl (.cons rfl (.cons rfl (.cons rfl (.cons rfl (.cons rfl (.cons rfl (.cons rfl (.cons rfl (.cons rfl (.cons rfl (.cons rfl .nil))))))))))))) (k1 := L.length - (k + 1)) (by omega) ⟨k + 1, u + 1, q, (sl.set f true), rfl, rfl, hS27.pick [1, 2, 0, 3] rfl, by omega, by rw [hju, hu, usedC_add, if_pos (by omega)], by rw [hju, hq, packC_add, if_neg (by omega), Nat.add_zero], by rw [hju, hsl]; exact seenC_put hpA hatA⟩
      exact absurd rfl h28
     exact absurd h22 (by simp)
    exact absurd h19 (by simp)
   ·have hpA : plA S2 j = 2 := (plA_some hx).trans hpl
    have hx64 := hxe.2.2.2.2.1
    obtain ⟨fo, hfo⟩ := Option.ne_none_iff_exists'.1 (hI2.pck (fun q => q) hx hpl).2
    have hfmL : fmL S2.all j = fo.length := by unfold fmL; rw [hx]; show (fm x.pg).length = _; unfold fm; rw [hfo]; rfl
    have hfo47 := (packM_le hfo).1
    have hpgx : shPg S2 j = x.pg := by unfold shPg; rw [hx]
    rw [if_neg (by omega)]
    refine wl_move rfl rfl (wl_extract rfl rfl rfl (wl_extract rfl rfl rfl (wl_assign rfl rfl (wl_assign rfl rfl (wl_nil (qs_seq ?_))))))
    refine wc_sub (L' := [(20, _), (19, _), (1, _), (2, _), (3, _), (9, _), (10, _), (11, _), (12, _), (13, _), (14, _), (15, _), (16, _), (17, _), (18, _)]) (.cons rfl (.cons rfl (.cons rfl (.cons rfl (.cons rfl (.cons rfl (.cons rfl (.cons rfl (.cons rfl (.cons rfl (.cons rfl (.cons rfl (.cons rfl (.cons rfl (.cons rfl .nil))))))))))))))) ?_
    refine wc_seq (wc_region (wl_move rfl rfl (wl_move rfl rfl (wl_move rfl rfl ?_))))
    refine wl_rowIdx inC 2 k hS15 rfl rfl rfl (by first | rfl | omega) hj es_28 rfl ?_
    intro bx30 capx30 hvx30
    refine wl_rowLoad 2 k 0 hS15 rfl hvx30 rfl rfl hj ag_3 rfl rfl ?_
    have hC31 := hS15.split [0] [true, false, false, false] rfl; dsimp only [selF, pickA, nthA, List.cons_append, List.nil_append] at hC31
    refine wl_call cal_19 rfl (shplace_sp hC31 j) rfl ?_
    rintro e w31 ⟨_, rfl, rfl, hS31⟩; refine ⟨_, rfl, ?_⟩
    replace hS31 := hS31.join rfl; dsimp only [List.dropLast, List.cons_append, List.nil_append] at hS31; clear hC31
    clear hS15
    rw [hx]
    dsimp only
    rw [hpl]
    refine wl_assign rfl rfl (wl_nil (qs_seq ?_))
    refine wc_sub (L' := [(21, _), (20, _), (19, _), (1, _), (2, _), (3, _), (9, _), (10, _), (11, _), (12, _), (13, _), (14, _), (15, _), (16, _), (17, _), (18, _)]) (.cons rfl (.cons rfl (.cons rfl (.cons rfl (.cons rfl (.cons rfl (.cons rfl (.cons rfl (.cons rfl (.cons rfl (.cons rfl (.cons rfl (.cons rfl (.cons rfl (.cons rfl (.cons rfl .nil)))))))))))))))) ?_
    refine wc_seq (wc_seq (wc_region (wl_move rfl rfl (wl_move rfl rfl ?_))))
    refine wl_eql rfl rfl rfl ?_
    refine wl_neqB Tryz.underlying4 rfl rfl rfl ?_
    refine wl_move rfl rfl ?_
    refine wl_split 87 rfl (fun h32 => ?_) (fun h32 => ?_)
    ·exact absurd h32 (by decide)
    refine wl_guard rfl rfl h32 ?_
    refine wl_move rfl rfl ?_
    refine wl_guard rfl rfl h32 ?_
    refine wl_move rfl rfl ?_
    refine wl_split 89 rfl (fun h33 => ?_) (fun h33 => ?_)
    ·exact absurd h33 (by simp)
    refine wl_unwanted rfl rfl h33 rfl ?_
    refine wl_unwanted rfl rfl h33 rfl ?_
    refine wl_unwanted rfl rfl h33 rfl ?_
    refine wl_unguarded rfl rfl rfl ?_
    refine wl_unguarded rfl rfl rfl ?_
    refine wl_unguarded rfl rfl rfl ?_
    refine wl_unwanted rfl rfl h33 rfl ?_
    refine wl_guard rfl rfl h32 ?_
    refine wl_pickF rfl h33 rfl rfl ?_
    refine wl_pickF rfl h32 rfl rfl ?_
    refine wl_nil (qs_seq ?_)
    refine wc_sub (L' := [(98, _), (21, _), (20, _), (19, _), (1, _), (2, _), (3, _), (9, _), (10, _), (11, _), (12, _), (13, _), (14, _), (15, _), (16, _), (17, _), (18, _)]) (.cons rfl (.cons rfl (.cons rfl (.cons rfl (.cons rfl (.cons rfl (.cons rfl (.cons rfl (.cons rfl (.cons rfl (.cons rfl (.cons rfl (.cons rfl (.cons rfl (.cons rfl (.cons rfl (.cons rfl .nil))))))))))))))))) ?_
    refine wc_condF rfl ?_
    refine wc_skip (qs_seq (wc_seq (wc_seq (wc_region (wl_move rfl rfl (wl_nil (qs_seq ?_)))))))
    refine wc_cond rfl (fun h34 => ?_) (fun h34 => ?_)
    ·exact absurd h34 (by simp)
    refine wc_skip (qs_seq ?_)
    refine wc_sub (L' := [(21, _), (1, _), (2, _), (3, _), (9, _), (10, _), (11, _), (12, _), (13, _), (14, _), (15, _), (16, _), (17, _), (18, _)]) (.cons rfl (.cons rfl (.cons rfl (.cons rfl (.cons rfl (.cons rfl (.cons rfl (.cons rfl (.cons rfl (.cons rfl (.cons rfl (.cons rfl (.cons rfl (.cons rfl .nil)))))))))))))) ?_
    refine wc_seq (wc_seq (wc_region (wl_move rfl rfl ?_)))
    refine wl_eql rfl rfl rfl ?_
    refine wl_move rfl rfl ?_
    refine wl_splitD 109 rfl (fun h35 => ?_) (fun h35 => ?_)
    ·exact absurd h35 (by decide)
    refine wl_guard rfl rfl (decide_eq_false h35) ?_
    refine wl_move rfl rfl ?_
    refine wl_guard rfl rfl (decide_eq_false h35) ?_
    refine wl_eql rfl rfl rfl ?_
    refine wl_pickF rfl (decide_eq_false h35) rfl rfl ?_
    refine wl_nil (qs_seq ?_)
    refine wc_sub (L' := [(112, _), (21, _), (1, _), (2, _), (3, _), (9, _), (10, _), (11, _), (12, _), (13, _), (14, _), (15, _), (16, _), (17, _), (18, _)]) (.cons rfl (.cons rfl (.cons rfl (.cons rfl (.cons rfl (.cons rfl (.cons rfl (.cons rfl (.cons rfl (.cons rfl (.cons rfl (.cons rfl (.cons rfl (.cons rfl (.cons rfl .nil))))))))))))))) ?_
    refine wc_condD rfl (fun h36 => ?_) (fun h36 => ?_)
    ·exact absurd h36 (by decide)
    refine wc_skip (qs_seq (wc_seq (wc_region (wl_move rfl rfl ?_))))
    refine wl_eql rfl rfl rfl ?_
    refine wl_nil (qs_seq ?_)
    refine wc_sub (L' := [(116, _), (1, _), (2, _), (3, _), (9, _), (10, _), (11, _), (12, _), (13, _), (14, _), (15, _), (16, _), (17, _), (18, _)]) (.cons rfl (.cons rfl (.cons rfl (.cons rfl (.cons rfl (.cons rfl (.cons rfl (.cons rfl (.cons rfl (.cons rfl (.cons rfl (.cons rfl (.cons rfl (.cons rfl .nil)))))))))))))) ?_
    refine wc_condD rfl (fun h37 => ?_) (fun h37 => ?_)
    ·refine wc_seq (wc_region (wl_move rfl rfl (wl_move rfl rfl (wl_move rfl rfl ?_))))
     refine wl_rowIdx inC 2 k hS31 rfl rfl rfl (by first | rfl | omega) hj es_28 rfl ?_
     intro bx38 capx38 hvx38
     refine wl_rowLoad 2 k 0 hS31 rfl hvx38 rfl rfl hj ag_3 rfl rfl ?_
     have hC39 := hS31.split [0] [true, false, false, false] rfl; dsimp only [selF, pickA, nthA, List.cons_append, List.nil_append] at hC39
     refine wl_call cal_21 rfl (shpage_sp hC39 hI2 j (fun q => q)) rfl ?_
     rintro e w39 ⟨_, rfl, rfl, hS39⟩; refine ⟨_, rfl, ?_⟩
     replace hS39 := hS39.join rfl; dsimp only [List.dropLast, List.cons_append, List.nil_append] at hS39; clear hC39
     clear hS31
     rw [hpgx]
     have hC40 := hS39.split [] [false, false, false, false] rfl; dsimp only [selF, pickA, nthA, List.cons_append, List.nil_append] at hC40
     refine wl_call cal_20 rfl (pack_sp hC40 x.pg hx64) rfl ?_
     rintro e w40 ⟨_, rfl, rfl, hS40⟩; refine ⟨_, rfl, ?_⟩
     replace hS40 := hS40.join rfl; dsimp only [List.dropLast, List.cons_append, List.nil_append] at hS40; clear hC40
     clear hS39
     rw [hfo]
     dsimp only [packV, Option.getD_some, Option.isSome_some]
     refine wl_move rfl rfl (wl_extract rfl rfl rfl (wl_extract rfl rfl rfl (wl_assign rfl rfl (wl_assign rfl rfl (wl_nil (qs_seq ?_))))))
     refine wc_sub (L' := [(23, _), (22, _), (1, _), (2, _), (3, _), (9, _), (10, _), (11, _), (12, _), (13, _), (14, _), (15, _), (16, _), (17, _), (18, _)]) (.cons rfl (.cons rfl (.cons rfl (.cons rfl (.cons rfl (.cons rfl (.cons rfl (.cons rfl (.cons rfl (.cons rfl (.cons rfl (.cons rfl (.cons rfl (.cons rfl (.cons rfl .nil))))))))))))))) ?_
     refine wc_seq (wc_seq (wc_region (wl_move rfl rfl ?_)))
     refine wl_not rfl rfl ?_
     refine wl_nil (qs_seq ?_)
     refine wc_cond rfl (fun h41 => ?_) (fun h41 => ?_)
     ·exact absurd h41 (by simp)
     refine wc_skip (qs_seq ?_)
     refine wc_sub (L' := [(22, _), (1, _), (2, _), (3, _), (9, _), (10, _), (11, _), (12, _), (13, _), (14, _), (15, _), (16, _), (17, _), (18, _)]) (.cons rfl (.cons rfl (.cons rfl (.cons rfl (.cons rfl (.cons rfl (.cons rfl (.cons rfl (.cons rfl (.cons rfl (.cons rfl (.cons rfl (.cons rfl (.cons rfl .nil)))))))))))))) ?_
     refine wc_region (wl_move rfl rfl (wl_move rfl rfl ?_))
     refine wl_lenS Tryz.underlying9 rfl rfl ?_
     refine wl_add rfl rfl (by omega) (by omega) rfl ?_
     refine wl_assign rfl rfl (wl_nil (qs_block_normal (qs_seq ?_)))
     refine wc_sub (L' := [(16, _), (1, _), (2, _), (3, _), (9, _), (10, _), (11, _), (12, _), (13, _), (14, _), (15, _), (17, _), (18, _)]) (.cons rfl (.cons rfl (.cons rfl (.cons rfl (.cons rfl (.cons rfl (.cons rfl (.cons rfl (.cons rfl (.cons rfl (.cons rfl (.cons rfl (.cons rfl .nil))))))))))))) ?_
     refine wc_region (wl_move rfl rfl ?_)
     refine wl_add rfl rfl (by omega) (by omega) rfl ?_
     refine wl_assign rfl rfl (wl_nil ?_)
     exact qs_round (L1 := [(1, _), (2, _), (3, _), (9, _), (10, _), (11, _), (12, _), (13, _), (14, _), (15, intV ((u : Nat) : Int)), (16, intV ((q + fo.length : Nat) : Int)), (17, _), (18, intV ((k + 1 : Nat) : Int))]) (.cons rfl (.cons rfl (.cons rfl (.cons rfl (.cons rfl (.cons rfl (.cons rfl (.cons rfl (.cons rfl (.cons rfl (.cons rfl (.cons rfl (.cons rfl .nil))))))))))))) (k1 := L.length - (k + 1)) (by omega) ⟨k + 1, u, q + fo.length, sl, rfl, rfl, hS40.pick [1, 2, 0, 3] rfl, by omega, by rw [hju, hu, usedC_add, if_neg (by omega), Nat.add_zero], by rw [hju, hq, packC_add, if_pos (by omega), hfmL], by rw [hju, hsl]; exact (seenC_ne (by rw [hpA]; decide)).symm⟩
    exact absurd rfl h37
   have hpA : plA S2 j = 3 := (plA_some hx).trans hpl
   rw [if_neg (by omega)]
   refine wl_move rfl rfl (wl_extract rfl rfl rfl (wl_extract rfl rfl rfl (wl_assign rfl rfl (wl_assign rfl rfl (wl_nil (qs_seq ?_))))))
   refine wc_sub (L' := [(20, _), (19, _), (1, _), (2, _), (3, _), (9, _), (10, _), (11, _), (12, _), (13, _), (14, _), (15, _), (16, _), (17, _), (18, _)]) (.cons rfl (.cons rfl (.cons rfl (.cons rfl (.cons rfl (.cons rfl (.cons rfl (.cons rfl (.cons rfl (.cons rfl (.cons rfl (.cons rfl (.cons rfl (.cons rfl (.cons rfl .nil))))))))))))))) ?_
   refine wc_seq (wc_region (wl_move rfl rfl (wl_move rfl rfl (wl_move rfl rfl ?_))))
   refine wl_rowIdx inC 2 k hS15 rfl rfl rfl (by first | rfl | omega) hj es_28 rfl ?_
   intro bx42 capx42 hvx42
   refine wl_rowLoad 2 k 0 hS15 rfl hvx42 rfl rfl hj ag_3 rfl rfl ?_
   have hC43 := hS15.split [0] [true, false, false, false] rfl; dsimp only [selF, pickA, nthA, List.cons_append, List.nil_append] at hC43
   refine wl_call cal_19 rfl (shplace_sp hC43 j) rfl ?_
   rintro e w43 ⟨_, rfl, rfl, hS43⟩; refine ⟨_, rfl, ?_⟩
   replace hS43 := hS43.join rfl; dsimp only [List.dropLast, List.cons_append, List.nil_append] at hS43; clear hC43
   clear hS15
   rw [hx]
   dsimp only
   rw [hpl]
   refine wl_assign rfl rfl (wl_nil (qs_seq ?_))
   refine wc_sub (L' := [(21, _), (20, _), (19, _), (1, _), (2, _), (3, _), (9, _), (10, _), (11, _), (12, _), (13, _), (14, _), (15, _), (16, _), (17, _), (18, _)]) (.cons rfl (.cons rfl (.cons rfl (.cons rfl (.cons rfl (.cons rfl (.cons rfl (.cons rfl (.cons rfl (.cons rfl (.cons rfl (.cons rfl (.cons rfl (.cons rfl (.cons rfl (.cons rfl .nil)))))))))))))))) ?_
   refine wc_seq (wc_seq (wc_region (wl_move rfl rfl (wl_move rfl rfl ?_))))
   refine wl_eql rfl rfl rfl ?_
   refine wl_neqB Tryz.underlying4 rfl rfl rfl ?_
   refine wl_move rfl rfl ?_
   refine wl_split 87 rfl (fun h44 => ?_) (fun h44 => ?_)
   ·exact absurd h44 (by decide)
   refine wl_guard rfl rfl h44 ?_
   refine wl_move rfl rfl ?_
   refine wl_guard rfl rfl h44 ?_
   refine wl_move rfl rfl ?_
   refine wl_split 89 rfl (fun h45 => ?_) (fun h45 => ?_)
   ·exact absurd h45 (by simp)
   refine wl_unwanted rfl rfl h45 rfl ?_
   refine wl_unwanted rfl rfl h45 rfl ?_
   refine wl_unwanted rfl rfl h45 rfl ?_
   refine wl_unguarded rfl rfl rfl ?_
   refine wl_unguarded rfl rfl rfl ?_
   refine wl_unguarded rfl rfl rfl ?_
   refine wl_unwanted rfl rfl h45 rfl ?_
   refine wl_guard rfl rfl h44 ?_
   refine wl_pickF rfl h45 rfl rfl ?_
   refine wl_pickF rfl h44 rfl rfl ?_
   refine wl_nil (qs_seq ?_)
   refine wc_sub (L' := [(98, _), (21, _), (20, _), (19, _), (1, _), (2, _), (3, _), (9, _), (10, _), (11, _), (12, _), (13, _), (14, _), (15, _), (16, _), (17, _), (18, _)]) (.cons rfl (.cons rfl (.cons rfl (.cons rfl (.cons rfl (.cons rfl (.cons rfl (.cons rfl (.cons rfl (.cons rfl (.cons rfl (.cons rfl (.cons rfl (.cons rfl (.cons rfl (.cons rfl (.cons rfl .nil))))))))))))))))) ?_
   refine wc_condF rfl ?_
   refine wc_skip (qs_seq (wc_seq (wc_seq (wc_region (wl_move rfl rfl (wl_nil (qs_seq ?_)))))))
   refine wc_cond rfl (fun h46 => ?_) (fun h46 => ?_)
   ·exact absurd h46 (by simp)
   refine wc_skip (qs_seq ?_)
   refine wc_sub (L' := [(21, _), (1, _), (2, _), (3, _), (9, _), (10, _), (11, _), (12, _), (13, _), (14, _), (15, _), (16, _), (17, _), (18, _)]) (.cons rfl (.cons rfl (.cons rfl (.cons rfl (.cons rfl (.cons rfl (.cons rfl (.cons rfl (.cons rfl (.cons rfl (.cons rfl (.cons rfl (.cons rfl (.cons rfl .nil)))))))))))))) ?_
   refine wc_seq (wc_seq (wc_region (wl_move rfl rfl ?_)))
   refine wl_eql rfl rfl rfl ?_
   refine wl_move rfl rfl ?_
   refine wl_splitD 109 rfl (fun h47 => ?_) (fun h47 => ?_)
   ·exact absurd h47 (by decide)
   refine wl_guard rfl rfl (decide_eq_false h47) ?_
   refine wl_move rfl rfl ?_
   refine wl_guard rfl rfl (decide_eq_false h47) ?_
   refine wl_eql rfl rfl rfl ?_
   refine wl_pickF rfl (decide_eq_false h47) rfl rfl ?_
   refine wl_nil (qs_seq ?_)
   refine wc_sub (L' := [(112, _), (21, _), (1, _), (2, _), (3, _), (9, _), (10, _), (11, _), (12, _), (13, _), (14, _), (15, _), (16, _), (17, _), (18, _)]) (.cons rfl (.cons rfl (.cons rfl (.cons rfl (.cons rfl (.cons rfl (.cons rfl (.cons rfl (.cons rfl (.cons rfl (.cons rfl (.cons rfl (.cons rfl (.cons rfl (.cons rfl .nil))))))))))))))) ?_
   refine wc_condD rfl (fun h48 => ?_) (fun h48 => ?_)
   ·refine wc_region (wl_move rfl rfl ?_)
    refine wl_add rfl rfl (by omega) (by omega) rfl ?_
    refine wl_assign rfl rfl (wl_nil (qs_seq ?_))
    refine wc_sub (L' := [(15, _), (21, _), (1, _), (2, _), (3, _), (9, _), (10, _), (11, _), (12, _), (13, _), (14, _), (16, _), (17, _), (18, _)]) (.cons rfl (.cons rfl (.cons rfl (.cons rfl (.cons rfl (.cons rfl (.cons rfl (.cons rfl (.cons rfl (.cons rfl (.cons rfl (.cons rfl (.cons rfl (.cons rfl .nil)))))))))))))) ?_
    refine wc_seq (wc_region (wl_move rfl rfl ?_))
    refine wl_eql rfl rfl rfl ?_
    refine wl_nil (qs_seq ?_)
    refine wc_condD rfl (fun h49 => ?_) (fun h49 => ?_)
    ·exact absurd h49 (by decide)
    refine wc_skip (qs_block_normal (qs_seq ?_))
    refine wc_sub (L' := [(15, _), (1, _), (2, _), (3, _), (9, _), (10, _), (11, _), (12, _), (13, _), (14, _), (16, _), (17, _), (18, _)]) (.cons rfl (.cons rfl (.cons rfl (.cons rfl (.cons rfl (.cons rfl (.cons rfl (.cons rfl (.cons rfl (.cons rfl (.cons rfl (.cons rfl (.cons rfl .nil))))))))))))) ?_
    refine wc_region (wl_move rfl rfl ?_)
    refine wl_add rfl rfl (by omega) (by omega) rfl ?_
    refine wl_assign rfl rfl (wl_nil ?_)
    exact qs_round (L1 := [(1, _), (2, _), (3, _), (9, _), (10, _), (11, _), (12, _), (13, _), (14, _), (15, intV ((u + 1 : Nat) : Int)), (16, intV ((q : Nat) : Int)), (17, _), (18, intV ((k + 1 : Nat) : Int))]) (.cons rfl (.cons rfl (.cons rfl (.cons rfl (.cons rfl (.cons rfl (.cons rfl (.cons rfl (.cons rfl (.cons rfl (.cons rfl (.cons rfl (.cons rfl .nil))))))))))))) (k1 := L.length - (k + 1)) (by omega) ⟨k + 1, u + 1, q, sl, rfl, rfl, hS43.pick [1, 2, 0, 3] rfl, by omega, by rw [hju, hu, usedC_add, if_pos (by omega)], by rw [hju, hq, packC_add, if_neg (by omega), Nat.add_zero], by rw [hju, hsl]; exact (seenC_ne (by rw [hpA]; decide)).symm⟩
   exact absurd rfl h48
  refine wc_exit (qs_then_exit (qs_then_exit (qs_block_exit (qs_seq ?_))))
  refine wc_sub (L' := [(1, _), (2, _), (3, _), (9, _), (10, _), (11, _), (12, _), (13, _), (15, _), (16, _)]) (.cons rfl (.cons rfl (.cons rfl (.cons rfl (.cons rfl (.cons rfl (.cons rfl (.cons rfl (.cons rfl (.cons rfl .nil)))))))))) ?_
  refine wc_seq ?_
  rw [show k = L.length by omega, List.take_length] at hu hq
  have hrm : (S2.fr.length : Int) - (usedF S2.fr : Int) + S2.slots - (usedN S2.sl : Int) = (((newS count slots budget).fr.length : Int) + (newS count slots budget).slots) - (u : Int) := by rw [hu, used_is hI2 hL0, hub2.frn, hub2.slo]; omega
  have hqle : (q : Int) ≤ max budget 0 := by rw [hq, ← hbu2]; exact pack_is hI2 hL0
  have hub9 := usedC_le S2 L; rw [← hu] at hub9
  refine wc_region (wl_move rfl rfl ?_)
  have hC50 := hS12.split [2] [false, false, true, false] rfl; dsimp only [selF, pickA, nthA, List.cons_append, List.nil_append] at hC50
  refine wl_call cal_16 rfl (shroom_sp hC50 hI2) rfl ?_
  rintro e w50 ⟨_, rfl, rfl, hS50⟩; refine ⟨_, rfl, ?_⟩
  replace hS50 := hS50.join rfl; dsimp only [List.dropLast, List.cons_append, List.nil_append] at hS50; clear hC50
  clear hS12
  rw [hrm]
  refine wl_move rfl rfl (wl_move rfl rfl ?_)
  refine wl_sub' rfl rfl (by omega) (by omega) rfl ?_
  refine wl_neq rfl rfl rfl ?_
  refine wl_move rfl rfl ?_
  refine wl_splitD 139 rfl (fun h51 => ?_) (fun h51 => ?_)
  ·exact absurd rfl h51
  refine wl_guard rfl rfl (decide_eq_false h51) ?_
  refine wl_move rfl rfl ?_
  refine wl_guard rfl rfl (decide_eq_false h51) ?_
  refine wl_move rfl rfl ?_
  refine wl_guard rfl rfl (decide_eq_false h51) ?_
  refine wl_maxI rfl rfl rfl ?_
  refine wl_guard rfl rfl (decide_eq_false h51) ?_
  refine wl_gtr rfl rfl rfl ?_
  refine wl_pickF rfl (decide_eq_false h51) rfl rfl ?_
  refine wl_nil (qs_seq ?_)
  refine wc_sub (L' := [(144, _), (1, _), (2, _), (3, _), (9, _), (10, _), (11, _), (12, _), (13, _)]) (.cons rfl (.cons rfl (.cons rfl (.cons rfl (.cons rfl (.cons rfl (.cons rfl (.cons rfl (.cons rfl .nil))))))))) ?_
  refine wc_condD rfl (fun h52 => ?_) (fun h52 => ?_)
  ·exact absurd h52 (by omega)
  refine wc_skip (qs_block_normal (qs_seq (wc_region (wl_move rfl rfl ?_))))
  refine wl_add rfl rfl (by omega) (by omega) rfl ?_
  refine wl_assign rfl rfl (wl_nil ?_)
  exact qs_round (L1 := [(1, _), (2, _), (3, _), (9, _), (10, _), (11, _), (12, _), (13, intV ((i + 1 : Nat) : Int))]) (.cons rfl (.cons rfl (.cons rfl (.cons rfl (.cons rfl (.cons rfl (.cons rfl (.cons rfl .nil)))))))) (k1 := l.length - (i + 1)) (by omega) ⟨i + 1, S2, rfl, rfl, hS50.pick [0, 3] rfl, by omega, hI2, hdm.step hDo.v, hub2, hbu2⟩
 refine wc_exit (qs_then_exit (qs_then_exit (qs_block_exit (qs_seq (wc_seq (wc_region (wl_move rfl rfl (wl_move rfl rfl ?_))))))))
 refine wl_split 146 rfl (fun h53 => ?_) (fun h53 => ?_)
 ·refine wl_guard rfl rfl h53 ?_
  refine wl_move rfl rfl ?_
  refine wl_guard rfl rfl h53 ?_
  refine wl_move rfl rfl ?_
  refine wl_guard rfl rfl h53 ?_
  refine wl_move rfl rfl ?_
  refine wl_guard rfl rfl h53 ?_
  refine wl_minI rfl rfl rfl ?_
  refine wl_guard rfl rfl h53 ?_
  refine wl_maxI rfl rfl rfl ?_
  refine wl_guard rfl rfl h53 ?_
  refine wl_add rfl rfl (by omega) (by omega) rfl ?_
  refine wl_guard rfl rfl h53 ?_
  refine wl_eql rfl rfl rfl ?_
  refine wl_pickT rfl h53 rfl rfl ?_
  refine wl_assign rfl rfl (wl_nil (qs_seq ?_))
  refine wc_sub (L' := [(8, _)]) (.cons rfl .nil) ?_
  refine wc_ret ?_
  refine fin1 (.inr rfl) rfl rfl ?_
  exact ⟨_, rfl, by first | rfl | exact congrArg Value.bool (decide_eq_true hrmv).symm | exact congrArg Value.bool (decide_eq_true hrmv) | (rw [decide_eq_true hrmv]), hS7.pick [1] rfl⟩
 exact absurd h53 (by simp)
end Go.Proofs.YtnicmcdeoimhlaaGreat
