/- disk: slices.DeleteFunc -/
import Derived.Test.YtleaahajkncnpaaDoorDc
namespace Go.Proofs.YtleaahajkncnpaaDoor
open Go.RowKit M
set_option linter.unusedVariables false
/-- while the list Q is thinned out in place: R is what lies there, i of it are kept, j are done -/
structure Thin (f : Int) (Q R : List (Int × Int)) (i j : Nat) : Prop where
  len : R.length = Q.length
  le : i ≤ j
  jle : j ≤ Q.length
  kept : R.take i = (Q.take j).filter fun p => p.1 ≠ f
  rest : R.drop j = Q.drop j
theorem Thin.start {f : Int} {Q : List (Int × Int)} {k : Nat} {p : Int × Int} (h : Q[k]? = some p) (he : p.1 = f) (hno : ∀ j q, j < k → Q[j]? = some q → q.1 ≠ f) : Thin f Q Q k (k + 1) := by
  have hk := (List.getElem?_eq_some_iff.1 h).1
  refine ⟨rfl, by omega, by omega, ?_, rfl⟩
  rw [List.take_add_one, h, List.filter_append]
  have h1 : (Q.take k).filter (fun p => decide (p.1 ≠ f)) = Q.take k := by
    rw [List.filter_eq_self]
    intro q hq
    obtain ⟨j, hj⟩ := List.mem_iff_getElem?.1 hq
    rw [List.getElem?_take] at hj
    split at hj
    · simpa using hno j q (by assumption) hj
    · cases hj
  rw [h1]
  simp [he]
theorem Thin.get {f : Int} {Q R : List (Int × Int)} {i j : Nat} (h : Thin f Q R i j) (hj : j < Q.length) : R[j]? = Q[j]? := by
  have := congrArg (fun l => l[0]?) h.rest
  simpa using this
theorem Thin.skip {f : Int} {Q R : List (Int × Int)} {i j : Nat} {p : Int × Int} (h : Thin f Q R i j) (hp : Q[j]? = some p) (he : p.1 = f) : Thin f Q R i (j + 1) := by
  have hj := (List.getElem?_eq_some_iff.1 hp).1
  refine ⟨h.len, by have := h.le; omega, by omega, ?_, ?_⟩
  · rw [List.take_add_one, hp, List.filter_append, ← h.kept]; simp [he]
  · rw [← List.drop_drop, ← List.drop_drop, h.rest]
theorem Thin.keep {f : Int} {Q R : List (Int × Int)} {i j : Nat} {p : Int × Int} (h : Thin f Q R i j) (hp : Q[j]? = some p) (he : p.1 ≠ f) : Thin f Q (R.set i p) (i + 1) (j + 1) := by
  have hj := (List.getElem?_eq_some_iff.1 hp).1
  have hle := h.le
  have hil : i < R.length := by rw [h.len]; omega
  refine ⟨by simp [h.len], by omega, by omega, ?_, ?_⟩
  · rw [List.take_add_one (l := Q), hp, List.filter_append, ← h.kept, List.take_add_one]
    simp [he, hil]
    exact List.take_set_of_le (Nat.le_refl _)
  · rw [List.drop_set_of_lt (by omega), ← List.drop_drop, h.rest, List.drop_drop]
theorem secV_set {R : List (Int × Int)} {i : Nat} {p : Int × Int} (h : i < R.length) : splice (secV R) (i * 2) [intV p.1, intV p.2] = secV (R.set i p) := by
  induction R generalizing i with
  | nil => simp at h
  | cons q R ih =>
    cases i with
    | zero => simp [secV, splice]
    | succ i =>
      have := ih (by simpa using h)
      rw [show (i + 1) * 2 = [intV q.1, intV q.2].length + i * 2 by simp; omega]
      have e1 : secV (q :: R) = [intV q.1, intV q.2] ++ secV R := rfl
      rw [e1, splice_append_right, this]
      rfl
theorem secV_take (R : List (Int × Int)) (i : Nat) : (secV R).take (i * 2) = secV (R.take i) := by
  induction R generalizing i with
  | nil => simp [secV]
  | cons q R ih =>
    cases i with
    | zero => simp [secV]
    | succ i =>
      rw [show (i + 1) * 2 = i * 2 + 2 by omega]
      have e1 : secV (q :: R) = intV q.1 :: intV q.2 :: secV R := rfl
      rw [e1]
      simp only [List.take_succ_cons, ih]
      rfl
theorem filter_none {f : Int} {Q : List (Int × Int)} (h : ∀ p ∈ Q, p.1 ≠ f) : (Q.filter fun p => p.1 ≠ f) = Q := List.filter_eq_self.2 fun p hp => by simpa using h p hp
theorem clearX {R : List (Int × Int)} {i n cap : Nat} (hi : i ≤ n) (hn : R.length = n ∧ n ≤ cap) : ∃ X : List Value, splice (secV R) (if cap = i then 0 else 0 + i * 2) (List.replicate (n - i) (Value.agg #[.int .i64 0, .int .i64 0]).cells.toList).flatten = secV (R.take i) ++ X ∧ True := by
  by_cases hc : cap = i
  · have : n - i = 0 := by omega
    rw [if_pos hc, this]
    refine ⟨(secV R).drop (i * 2), ?_, trivial⟩
    rw [← secV_take]
    simp [splice]
  · rw [if_neg hc]
    refine ⟨(List.replicate (n - i) (Value.agg #[.int .i64 0, .int .i64 0]).cells.toList).flatten ++ (secV R).drop (0 + i * 2 + (List.replicate (n - i) (Value.agg #[.int .i64 0, .int .i64 0]).cells.toList).flatten.length), ?_, trivial⟩
    rw [← secV_take]
    simp [splice]
theorem delEnd {w : World} {F : Th} {f : Int} {Q R : List (Int × Int)} {i j b cap : Nat} {X : List Value} (hT : Thin f Q R i j) (hj : ¬ j < Q.length) (h : Sat w [ownT (.slice (some ⟨b, 0, none⟩) Q.length cap) Q.length 2 (secV (R.take i) ++ X), F]) :
    Sat w [ownT (.slice (some ⟨b, if cap = 0 then 0 else 0 + 0 * 2, none⟩) (i - 0) (cap - 0)) (Q.filter fun p => p.1 ≠ f).length 2 (secV (Q.filter fun p => p.1 ≠ f)), F] := by
  have hle := hT.le; have hjl := hT.jle; have hlen := hT.len
  have hjq : j = Q.length := by omega
  have hk := hT.kept
  rw [hjq, List.take_length] at hk
  have hl : (Q.filter fun p => p.1 ≠ f).length = i := by rw [← hk, List.length_take, hlen]; omega
  have := h.own_head 0 rfl rfl (q := i) (by omega)
  dsimp only [List.set] at this
  rw [List.take_append_of_le_length (by rw [secV_length, List.length_take]; omega), secV_take, List.take_take, Nat.min_self, hk] at this
  rw [hl]
  simpa using this
set_option maxRecDepth 100000 in
theorem delfn_sp {w : World} {F : Th} {qv : Value} {Q : List (Int × Int)} (hS : Sat w [ownT qv Q.length 2 (secV Q), F]) {c : Nat} {f : Int} (hc : Ent F (cellIs c f)) (hl : Q.length ≤ 4194320) :
    Calls Tryd.prog 54 #[qv, .func (.func 55) #[] #[ptrV c 0]] w (Ret fun v w' => Sat w' [ownT v (Q.filter fun p => p.1 ≠ f).length 2 (secV (Q.filter fun p => p.1 ≠ f)), F]) := by
  refine calls_enter Tryd.func54 rfl Tryd.ntmps54 rfl ?_
  refine wc_seq ?_
  refine wc_region ?_
  refine wl_assign rfl rfl ?_
  refine wl_nil ?_
  refine qs_seq ?_
  refine wc_seq ?_
  refine wc_region ?_
  refine wl_move rfl rfl ?_
  refine wl_move rfl rfl ?_
  have hC1 := hS.split [0] [true, false] rfl; dsimp only [selF, pickA, nthA, List.cons_append, List.nil_append] at hC1
  refine wl_call cal_58 rfl (index_sp hC1 (hc.starL 0 rfl) hl) rfl ?_
  rintro e w1 ⟨_, rfl, r, rfl, hr, hS1⟩; refine ⟨_, rfl, ?_⟩
  replace hS1 := hS1.join rfl; dsimp only [List.dropLast, List.cons_append, List.nil_append] at hS1; clear hC1
  refine wl_assign rfl rfl ?_
  refine wl_nil ?_
  refine qs_seq ?_
  refine wc_seq ?_
  refine wc_seq ?_
  refine wc_region ?_
  refine wl_move rfl rfl ?_
  refine wl_eql rfl rfl rfl ?_
  refine wl_nil ?_
  refine qs_seq ?_
  refine wc_condD rfl (fun h2 => ?_) (fun h2 => ?_)
  · skip
    have hr1 : r = -1 := h2
    refine wc_seq ?_
    refine wc_region ?_
    refine wl_move rfl rfl ?_
    refine wl_assign rfl rfl ?_
    refine wl_nil ?_
    refine qs_seq ?_
    refine wc_ret ?_
    refine qs_then_ret ?_
    refine fin1 (.inr rfl) rfl rfl ?_
    exact ⟨_, rfl, by rw [filter_none ((hr.resolve_right (by rintro ⟨k, p, h, _⟩; omega)).2)]; exact hS1⟩
  · skip
    obtain ⟨k, p, rfl, hp, he, hno⟩ := hr.resolve_left (fun q => h2 q.1)
    have hkl := (List.getElem?_eq_some_iff.1 hp).1
    clear hr
    refine wc_skip ?_
    refine qs_seq ?_
    refine wc_seq ?_
    refine wc_seq ?_
    refine wc_region ?_
    refine wl_move rfl rfl ?_
    refine wl_add rfl rfl (by omega) (by omega) rfl ?_
    refine wl_assign rfl rfl ?_
    refine wl_nil ?_
    refine qs_seq ?_
    refine wc_sub (L' := [(6, _), (5, _), (4, _), (0, _), (1, _)]) (.cons rfl (.cons rfl (.cons rfl (.cons rfl (.cons rfl .nil))))) ?_
    refine wc_block ?_
    refine wc_loop (fun K0 E0 W0 => ∃ (i j : Nat) (R : List (Int × Int)), K0 = Q.length - j ∧ E0 = [(0, qv), (1, .func (.func 55) #[] #[ptrV c 0]), (5, intV (i : Int)), (6, intV (j : Int))] ∧ Sat W0 [ownT qv Q.length 2 (secV R), F] ∧ (Thin f Q R i j)) (L0 := [(0, _), (1, _), (5, _), (6, _)]) (Q.length - (k + 1)) (.cons rfl (.cons rfl (.cons rfl (.cons rfl .nil)))) ⟨k, k + 1, Q, by omega, rfl, hS1, Thin.start hp he hno⟩ ?_
    rintro _ _ w3 ⟨i, j, R, rfl, rfl, hS3, hT⟩
    have hjl := hT.jle
    have hil := hT.le
    have hRl := hT.len
    refine wc_seq ?_
    refine wc_seq ?_
    refine wc_region ?_
    refine wl_move rfl rfl ?_
    refine wl_move rfl rfl ?_
    first | refine wl_lenL Tryd.underlying59 rfl rfl ?_ | refine wl_lenO 0 hS3 Tryd.underlying59 rfl rfl rfl ?_
    refine wl_lss rfl rfl rfl ?_
    refine wl_nil ?_
    refine qs_seq ?_
    refine wc_condD rfl (fun h4 => ?_) (fun h4 => ?_)
    · skip
      obtain ⟨p, hp⟩ : ∃ p, Q[j]? = some p := ⟨_, List.getElem?_eq_getElem (by omega)⟩
      refine wc_skip ?_
      refine qs_seq ?_
      refine wc_seq ?_
      refine wc_block ?_
      refine wc_seq ?_
      refine wc_region ?_
      refine wl_move rfl rfl ?_
      refine wl_move rfl rfl ?_
      refine wl_indexO 0 j hS3 rfl rfl rfl rfl (by omega) es_59 rfl ?_
      intro b cap hv
      refine wl_loadO 0 hS3 rfl hv rfl ag_78 sz_78 (sec_at (by rw [hT.get (by omega)]; exact hp)) rfl rfl ?_
      refine wl_alloc hS3 zr_78 rfl rfl ?_
      intro b5 w5 hS5
      clear hS3
      first | (refine wl_storeA hS5 rfl rfl sz_78 rfl (by first | rfl | (simp [allOne, Value.oneCell']; done) | assumption | exact hone) (i := 0) rfl (by first | decide | exact Nat.le_of_ble_eq_true rfl | (simp; done) | omega) ?_)
      intro w6 hS7; dsimp only [List.set] at hS7
      clear hS5
      refine wl_nil ?_
      refine qs_seq ?_
      refine wc_sub (L' := [(7, _), (0, _), (1, _), (5, _), (6, _)]) (.cons rfl (.cons rfl (.cons rfl (.cons rfl (.cons rfl .nil))))) ?_
      refine wc_seq ?_
      refine wc_region ?_
      refine wl_move rfl rfl ?_
      refine wl_loadA rfl ag_78 sz_78 (by first | exact hS7.blk 0 rfl) (by first | decide | exact Nat.le_of_ble_eq_true rfl | (simp; done) | omega) rfl rfl ?_
      have hC8 := hS7.split [] [false, false, false] rfl; dsimp only [selF, pickA, nthA, List.cons_append, List.nil_append] at hC8
      refine wl_callV rfl cal_55 rfl (clo1_sp hC8 (hc.starL 2 rfl) _ _) rfl ?_
      rintro e w8 ⟨_, rfl, rfl, hS8⟩; refine ⟨_, rfl, ?_⟩
      replace hS8 := hS8.join rfl; dsimp only [List.dropLast, List.cons_append, List.nil_append] at hS8; clear hC8
      clear hS7
      refine wl_not rfl rfl ?_
      refine wl_nil ?_
      refine qs_seq ?_
      refine wc_cond rfl (fun h9 => ?_) (fun h9 => ?_)
      · skip
        have hne : p.1 ≠ f := by simpa using h9
        refine wc_seq ?_
        refine wc_region ?_
        refine wl_move rfl rfl ?_
        refine wl_move rfl rfl ?_
        refine wl_loadA rfl ag_78 sz_78 (by first | exact hS8.blk 0 rfl) (by first | decide | exact Nat.le_of_ble_eq_true rfl | (simp; done) | omega) rfl rfl ?_
        refine wl_indexO 1 i hS8 rfl rfl rfl rfl (by have := hT.le; omega) es_59 rfl ?_
        intro b2 cap2 hv2
        refine wl_storeO 1 hS8 rfl hv2 rfl rfl sz_78 rfl rfl (by rw [secV_length]; have := hT.le; have := hT.len; omega) (secV_set (p := p) (by have := hT.le; have := hT.len; omega)) ?_
        intro w9 hS9; dsimp only [List.set] at hS9
        refine wl_nil ?_
        refine qs_seq ?_
        refine wc_sub (L' := [(0, _), (1, _), (5, _), (6, _)]) (.cons rfl (.cons rfl (.cons rfl (.cons rfl .nil)))) ?_
        refine wc_region ?_
        refine wl_move rfl rfl ?_
        refine wl_add rfl rfl (by omega) (by omega) rfl ?_
        refine wl_assign rfl rfl ?_
        refine wl_nil ?_
        refine qs_block_normal ?_
        refine qs_seq ?_
        refine wc_region ?_
        refine wl_move rfl rfl ?_
        refine wl_add rfl rfl (by omega) (by omega) rfl ?_
        refine wl_assign rfl rfl ?_
        refine wl_nil ?_
        exact qs_round (L1 := [(0, qv), (1, .func (.func 55) #[] #[ptrV c 0]), (5, intV ((i + 1 : Nat) : Int)), (6, intV ((j + 1 : Nat) : Int))]) (.cons rfl (.cons rfl (.cons rfl (.cons rfl .nil)))) (k1 := Q.length - (j + 1)) (by omega) ⟨i + 1, j + 1, R.set i p, by omega, rfl, hS9.tail, hT.keep hp hne⟩
      · skip
        have heq : p.1 = f := by simpa using h9
        refine wc_skip ?_
        refine qs_block_normal ?_
        refine qs_seq ?_
        refine wc_region ?_
        refine wl_move rfl rfl ?_
        refine wl_add rfl rfl (by omega) (by omega) rfl ?_
        refine wl_assign rfl rfl ?_
        refine wl_nil ?_
        exact qs_round (L1 := [(0, qv), (1, .func (.func 55) #[] #[ptrV c 0]), (5, intV (i : Int)), (6, intV ((j + 1 : Nat) : Int))]) (.cons rfl (.cons rfl (.cons rfl (.cons rfl .nil)))) (k1 := Q.length - (j + 1)) (by omega) ⟨i, j + 1, R, by omega, rfl, hS8.tail, hT.skip hp heq⟩
    · skip
      refine wc_exit ?_
      refine qs_then_exit ?_
      refine qs_then_exit ?_
      refine qs_block_exit ?_
      refine qs_seq ?_
      refine wc_seq ?_
      refine wc_region ?_
      refine wl_move rfl rfl ?_
      refine wl_move rfl rfl ?_
      obtain ⟨b, cap, hv, hcap⟩ := hS3.own_at 0 rfl (by omega)
      subst hv
      refine wl_slice i Q.length Tryd.underlying59 sz_78 rfl (bndS i _ rfl rfl) (bndN _) (by omega) (by omega) rfl ?_
      obtain ⟨X, hX, hXl⟩ : ∃ X : List Value, splice (secV R) (if cap = i then 0 else 0 + i * 2) (List.replicate (Q.length - i) (Value.agg #[.int .i64 0, .int .i64 0]).cells.toList).flatten = secV (R.take i) ++ X ∧ True := clearX (by omega) (by omega)
      refine wl_clearO 0 hS3 rfl rfl rfl Tryd.underlying59 zr_78 rfl (by rw [secV_length]; split <;> simp [Value.cells] <;> omega) hX rfl ?_
      intro w11 hS11; dsimp only [List.set, pd] at hS11 ⊢
      refine wl_nil ?_
      refine qs_seq ?_
      refine wc_sub (L' := [(0, _), (5, _)]) (.cons rfl (.cons rfl .nil)) ?_
      refine wc_seq ?_
      refine wc_region ?_
      refine wl_move rfl rfl ?_
      refine wl_move rfl rfl ?_
      refine wl_slice 0 i Tryd.underlying59 sz_78 rfl (bndN _) (bndS i _ rfl rfl) (by omega) (by omega) rfl ?_
      refine wl_assign rfl rfl ?_
      refine wl_nil ?_
      refine qs_seq ?_
      refine wc_ret ?_
      refine fin1 (.inr rfl) rfl rfl ?_
      exact ⟨_, rfl, delEnd hT (by omega) hS11⟩

/-- what is left of a set while the sectors of file f are taken out of it -/
def Out (f : Int) (g0 g : Int × Int → Option Value) (dn : Int × Int → Prop) : Prop := ∀ p, (dn p → g p = if p.1 = f then none else g0 p) ∧ (¬ dn p → g p = g0 p)
theorem Out.next {f : Int} {g0 g : Int × Int → Option Value} {dn : Int × Int → Prop} {k : Int × Int} (h : Out f g0 g dn) (hk : ¬ dn k) (hf : k.1 ≠ f) : Out f g0 g (fun j => dn j ∨ j = k) := by
  intro p
  refine ⟨fun hp => ?_, fun hp => (h p).2 fun q => hp (.inl q)⟩
  rcases hp with hp | rfl
  · exact (h p).1 hp
  · rw [if_neg hf]; exact (h p).2 hk
theorem Out.del {f : Int} {g0 g : Int × Int → Option Value} {dn : Int × Int → Prop} {k : Int × Int} (h : Out f g0 g dn) (hf : k.1 = f) : Out f g0 (upd g k none) (fun j => dn j ∨ j = k) := by
  intro p
  by_cases hp : p = k
  · subst hp; exact ⟨fun _ => by rw [upd_self, if_pos hf], fun q => absurd (.inr rfl) q⟩
  · rw [upd_ne hp]
    exact ⟨fun q => (h p).1 (q.resolve_right hp), fun q => (h p).2 fun r => q (.inl r)⟩
theorem Out.done {f : Int} {Q : List (Int × Int)} {g0 g : Int × Int → Option Value} {dn : Int × Int → Prop} (h : Out f g0 g dn) (hg : ∀ p, g0 p = if p ∈ Q then some (.bool true) else none) (hd : ∀ k v, g k = some v → dn k) : ∀ p, g p = if p ∈ Q.filter (fun p => p.1 ≠ f) then some (.bool true) else none := by
  intro p
  by_cases hp : dn p
  · rw [(h p).1 hp, hg]; by_cases e : p.1 = f <;> simp [e]
  · have h1 := (h p).2 hp
    rw [h1]
    have hn : g p = none := by cases hq : g p with | none => rfl | some v => exact absurd (hd p v hq) hp
    rw [← h1, hn]
    rw [h1, hg] at hn
    split at hn
    · cases hn
    · rename_i hm; rw [if_neg (fun q => hm (List.mem_filter.1 q).1)]
theorem Out.val {f : Int} {Q : List (Int × Int)} {g0 g : Int × Int → Option Value} {dn : Int × Int → Prop} {k : Int × Int} {v : Value} (h : Out f g0 g dn) (hg : ∀ p, g0 p = if p ∈ Q then some (.bool true) else none) (hk : ¬ dn k) (hv : g k = some v) : v = .bool true := by
  rw [(h k).2 hk, hg] at hv
  split at hv
  · exact (Option.some.inj hv).symm
  · cases hv
set_option maxRecDepth 100000 in
theorem mdel_sp {w : World} {F : Th} {bs : Nat} {Q : List (Int × Int)} (hS : Sat w [setT bs Q, F]) {c : Nat} {f : Int} (hc : Ent F (cellIs c f)) :
    Calls Tryd.prog 56 #[.map (some bs), .func (.func 57) #[] #[ptrV c 0]] w (Ret fun v w' => v = .tuple #[] ∧ Sat w' [setT bs (Q.filter fun p => p.1 ≠ f), F]) := by
  obtain ⟨g0, hgs, hS⟩ := setT_open hS
  refine calls_enter Tryd.func56 rfl Tryd.ntmps56 rfl ?_
  refine wc_seq ?_
  refine wc_region ?_
  refine wl_move rfl rfl ?_
  refine wl_range 0 hS Tryd.underlying58 rfl rfl rfl ?_
  intro r1 left1 w1 hS1; dsimp only [List.set] at hS1
  refine wl_nil ?_
  refine qs_seq ?_
  refine wc_block ?_
  refine wc_loop (fun K0 E0 W0 => ∃ (g : Int × Int → Option Value) (dn : Int × Int → Prop) (cur : Option (Int × Int)) (left : Nat), K0 = left ∧ E0 = [(0, .map (some bs)), (1, .func (.func 57) #[] #[ptrV c 0]), (7, ptrV r1 0)] ∧ Sat W0 [rangeT pairK bs r1 g dn cur left, F] ∧ (Out f g0 g dn)) (L0 := [(0, _), (1, _), (7, _)]) (left1) (.cons rfl (.cons rfl (.cons rfl .nil))) ⟨g0, _, _, _, rfl, rfl, hS1, fun p => ⟨fun h => h.elim, fun _ => rfl⟩⟩ ?_
  rintro _ _ w2 ⟨g, dn, cur, left, rfl, rfl, hS2, hout⟩
  refine wc_seq ?_
  refine wc_region ?_
  refine wl_next 0 hS2 keysSec.inj rfl rfl rfl (fun hdone => ?_) (fun k v left2 w2 hleft hgk hnd hS2 => ?_)
  · skip
    refine wl_extract rfl rfl rfl ?_
    refine wl_nil ?_
    refine qs_seq ?_
    refine wc_seq ?_
    refine wc_condF rfl ?_
    refine wc_exit ?_
    refine qs_then_exit ?_
    refine qs_then_exit ?_
    refine qs_block_exit ?_
    refine fin0 (.inl rfl) rfl ?_
    exact ⟨_, rfl, rfl, setT_shut g (hout.done hgs hdone) (range_map hS2)⟩
  · skip
    dsimp only [List.set] at hS2; obtain rfl := hout.val hgs hnd hgk; obtain ⟨k1, k2⟩ := k
    refine wl_extract rfl rfl rfl ?_
    refine wl_nil ?_
    refine qs_seq ?_
    refine wc_seq ?_
    refine wc_condT rfl ?_
    refine wc_skip ?_
    refine qs_seq ?_
    refine wc_block ?_
    refine wc_seq ?_
    refine wc_region ?_
    refine wl_entry 0 hS2 rfl hgk rfl rfl ?_
    refine wl_extract rfl rfl rfl ?_
    refine wl_extract rfl rfl rfl ?_
    refine wl_alloc hS2 zr_78 rfl rfl ?_
    intro b3 w3 hS3
    clear hS2
    first | (refine wl_storeA hS3 rfl rfl sz_78 rfl (by first | rfl | (simp [allOne, Value.oneCell']; done) | assumption | exact hone) (i := 0) rfl (by first | decide | exact Nat.le_of_ble_eq_true rfl | (simp; done) | omega) ?_)
    intro w4 hS5; dsimp only [List.set] at hS5
    clear hS3
    refine wl_assign rfl rfl ?_
    refine wl_nil ?_
    refine qs_seq ?_
    refine wc_seq ?_
    refine wc_region ?_
    refine wl_move rfl rfl ?_
    refine wl_loadA rfl ag_78 sz_78 (by first | exact hS5.blk 0 rfl) (by first | decide | exact Nat.le_of_ble_eq_true rfl | (simp; done) | omega) rfl rfl ?_
    refine wl_move rfl rfl ?_
    have hC6 := hS5.split [] [false, false, false] rfl; dsimp only [selF, pickA, nthA, List.cons_append, List.nil_append] at hC6
    refine wl_callV rfl cal_57 rfl (clo2_sp hC6 (hc.starL 2 rfl) _ _ _) rfl ?_
    rintro e w6 ⟨_, rfl, rfl, hS6⟩; refine ⟨_, rfl, ?_⟩
    replace hS6 := hS6.join rfl; dsimp only [List.dropLast, List.cons_append, List.nil_append] at hS6; clear hC6
    clear hS5
    refine wl_nil ?_
    refine qs_seq ?_
    refine wc_sub (L' := [(16, _), (4, _), (0, _), (1, _), (7, _)]) (.cons rfl (.cons rfl (.cons rfl (.cons rfl (.cons rfl .nil))))) ?_
    refine wc_cond rfl (fun h7 => ?_) (fun h7 => ?_)
    · skip
      have heq : k1 = f := by simpa using h7
      refine wc_region ?_
      refine wl_move rfl rfl ?_
      refine wl_loadA rfl ag_78 sz_78 (by first | exact hS6.blk 0 rfl) (by first | decide | exact Nat.le_of_ble_eq_true rfl | (simp; done) | omega) rfl rfl ?_
      refine wl_deleteR (k := (k1, k2)) 1 hS6 keysSec Tryd.underlying58 rfl (.inr rfl) rfl rfl rfl ?_
      intro w7 hS7; dsimp only [List.set, pd] at hS7 ⊢
      refine wl_nil ?_
      refine qs_block_normal ?_
      exact qs_round (L1 := [(0, .map (some bs)), (1, .func (.func 57) #[] #[ptrV c 0]), (7, ptrV r1 0)]) (.cons rfl (.cons rfl (.cons rfl .nil))) (k1 := left2) (by omega) ⟨_, _, _, _, rfl, rfl, hS7.tail, hout.del heq⟩
    · skip
      have hne : k1 ≠ f := by simpa using h7
      refine wc_skip ?_
      refine qs_block_normal ?_
      exact qs_round (L1 := [(0, .map (some bs)), (1, .func (.func 57) #[] #[ptrV c 0]), (7, ptrV r1 0)]) (.cons rfl (.cons rfl (.cons rfl .nil))) (k1 := left2) (by omega) ⟨_, _, _, _, rfl, rfl, hS6.tail, hout.next hnd hne⟩

theorem ent_blk {As : List Th} {i c : Nat} {cs : List Value} {f : Int} (hi : As[i]? = some (blkT c cs)) (hv : cs[0]? = some (intV f)) : Ent (starL As) (cellIs c f) := fun h => Sat.cell (w := _) ⟨_, h⟩ i hi hv
theorem settle_end {w : World} {p bf bs : Nat} {kp qv : Value} {D : DS} {g : Int → Option Value} {F X : Th} {f : Int} {s : Bytes} (hI : DInv D) (hs : s.length ≤ 16777216) (hg : SaysF g D.F) (h : Sat w [setT bs (D.Q.filter fun p => p.1 ≠ f), ownT qv (D.Q.filter fun p => p.1 ≠ f).length 2 (secV (D.Q.filter fun p => p.1 ≠ f)), X, mapT intK bf (upd g f (some (fileV (s, s)))), blkT p (cellsD ⟨bf, bs, qv⟩ kp D), F]) : Sat w [diskT p kp (settleD D f s), F] := by
  have h1 := filesT_shut (As := [setT bs (D.Q.filter fun p => p.1 ≠ f), ownT qv (D.Q.filter fun p => p.1 ≠ f).length 2 (secV (D.Q.filter fun p => p.1 ≠ f)), X, blkT p (cellsD ⟨bf, bs, qv⟩ kp D), F]) _ (SaysF_set hg f (s, s)) (h.reorder [3, 0, 1, 2, 4, 5] rfl)
  refine diskT_shut ⟨bf, bs, qv⟩ ?_ (((h1.reorder [3, 4, 0, 2, 1, 5] rfl)).tail)
  refine { hI with now := fun k => ?_, last := fun k => ?_, nodup := hI.nodup.filter _, secs := fun p hp => hI.secs p (List.mem_filter.1 hp).1 }
  · simp only [settleD, setF]; split
    · exact hs
    · exact hI.now k
  · simp only [settleD, setF]; split
    · exact hs
    · exact hI.last k
set_option maxRecDepth 100000 in
theorem settle_sp {w : World} {p : Nat} {kp : Value} {D : DS} {F : Th} (hS : Sat w [diskT p kp D, F]) (f : Int) (s : Bytes) (hs : s.length ≤ 16777216) :
    Calls Tryd.prog 52 #[ptrV p 0, intV f, strV s] w (Ret fun v w' => v = .tuple #[] ∧ Sat w' [diskT p kp (settleD D f s), F]) := by
  obtain ⟨⟨bf, bs, qv⟩, hI, hS⟩ := diskT_open hS; dsimp only at hS
  obtain ⟨g, hg, hS⟩ := filesT_open (hS.pull 1 rfl); dsimp only [List.eraseIdx] at hS
  refine calls_enter Tryd.func52 rfl Tryd.ntmps52 rfl ?_
  refine wc_seq ?_
  refine wc_region ?_
  refine wl_box hS rfl rfl rfl ?_
  intro b1 w1 hS1
  refine wl_nil ?_
  refine qs_seq ?_
  refine wc_seq ?_
  have hS2 := hS1.drew
  refine wc_draw [0, 1, 2, 3, 4, 5, 6, 7, 8] [8] mix (by kernel_rfl) ?_
  refine vc_p rfl rfl rfl (fun _ => (ev_move rfl)) ?_
  refine vc_p rfl rfl rfl (fun _ => (ev_nilCheck rfl)) ?_
  refine vc_p rfl rfl rfl (fun _ => (ev_fieldAddr rfl fo_61_0)) ?_
  refine vc_q rfl rfl rfl (ev_load rfl ag_57 (by first | assumption | exact hS2.cell 0 rfl rfl | exact hS2.cell 2 rfl rfl)) ?_
  refine vc_q rfl rfl rfl (ev_load rfl ag_3 (by first | assumption | exact hS2.cell 0 rfl rfl | exact hS2.cell 2 rfl rfl)) ?_
  refine vc_p rfl rfl rfl (fun _ => (ev_move rfl)) ?_
  refine vc_p rfl rfl rfl (fun _ => (ev_move rfl)) ?_
  refine vc_p rfl rfl rfl (fun _ => (ev_buildS rfl pl_80_0_1 asz_80 zr_80 rfl)) ?_
  refine vc_s rfl rfl rfl rfl rfl rfl ?_
  first | refine wl_mapUpdate 1 hS2 keysInt Tryd.underlying57 rfl rfl rfl rfl ?_
  intro w3 hS3; dsimp only [List.set] at hS3
  clear hS2
  refine vc_e0 (.skip (by kernel_rfl) (.skip (by kernel_rfl) .nil)) ?_
  refine VC.nil ?_
  refine qs_seq ?_
  refine wc_sub (L' := [(4, _), (0, _)]) (.cons rfl (.cons rfl .nil)) ?_
  refine wc_seq ?_
  refine wc_region ?_
  refine wl_move rfl rfl ?_
  refine wl_move rfl rfl ?_
  refine wl_nilCheck rfl rfl ?_
  refine wl_fieldAddr rfl fo_61_1 rfl ?_
  refine wl_load rfl ag_59 (by first | assumption | exact hS3.cell 0 rfl rfl | exact hS3.cell 2 rfl rfl) rfl ?_
  refine wl_makeFunc rfl rfl ?_
  have hC4 := hS3.split [3] [false, false, false, true, false, false] rfl; dsimp only [selF, pickA, nthA, List.cons_append, List.nil_append] at hC4
  refine wl_call cal_54 rfl (delfn_sp hC4 (f := f) (ent_blk (i := 0) rfl rfl) (sec_count hI.secs hI.nodup)) rfl ?_
  rintro e w4 ⟨_, rfl, hS4⟩; refine ⟨_, rfl, ?_⟩
  replace hS4 := hS4.join rfl; dsimp only [List.dropLast, List.cons_append, List.nil_append] at hS4; clear hC4
  clear hS3
  have h1q := hS4.own_one 0 rfl
  refine wl_nilCheck rfl rfl ?_
  refine wl_fieldAddr rfl fo_61_1 rfl ?_
  first | (refine wl_store hS4 rfl rfl sz_59 (by first | rfl | assumption | exact hS4.own_one 0 rfl) (i := 1) rfl (by first | decide | exact Nat.le_of_ble_eq_true rfl | (simp; done) | omega) ?_) | (refine wl_store hS4 rfl rfl sz_59 (by first | rfl | assumption | exact hS4.own_one 0 rfl) (i := 3) rfl (by first | decide | exact Nat.le_of_ble_eq_true rfl | (simp; done) | omega) ?_)
  intro w5 hS6; dsimp only [List.set] at hS6
  clear hS4
  refine wl_nil ?_
  refine qs_seq ?_
  refine wc_sub (L' := [(4, _), (0, _)]) (.cons rfl (.cons rfl .nil)) ?_
  refine wc_region ?_
  refine wl_move rfl rfl ?_
  refine wl_nilCheck rfl rfl ?_
  refine wl_fieldAddr rfl fo_61_2 rfl ?_
  refine wl_load rfl ag_58 (by first | assumption | exact hS6.cell 1 rfl rfl | exact hS6.cell 3 rfl rfl) rfl ?_
  refine wl_makeFunc rfl rfl ?_
  have hC7 := hS6.split [4] [false, false, false, false, true, false] rfl; dsimp only [selF, pickA, nthA, List.cons_append, List.nil_append] at hC7
  refine wl_call cal_56 rfl (mdel_sp hC7 (f := f) (ent_blk (i := 1) rfl rfl)) rfl ?_
  rintro e w7 ⟨_, rfl, rfl, hS7⟩; refine ⟨_, rfl, ?_⟩
  replace hS7 := hS7.join rfl; dsimp only [List.dropLast, List.cons_append, List.nil_append] at hS7; clear hC7
  clear hS6
  refine wl_nil ?_
  refine fin0 (.inl rfl) rfl ?_
  exact ⟨_, rfl, rfl, settle_end hI hs hg hS7⟩

end Go.Proofs.YtleaahajkncnpaaDoor
