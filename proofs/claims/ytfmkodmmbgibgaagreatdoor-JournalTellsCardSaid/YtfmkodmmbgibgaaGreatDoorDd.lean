/- disk: slices.DeleteFunc -/
import Derived.Test.YtfmkodmmbgibgaaGreatDoorFx
namespace Go.Proofs.YtfmkodmmbgibgaaGreatDoor
open Go.RowKit M
set_option linter.unusedVariables false
/-- while the list Q is thinned out in place: R is what lies there, i of it are kept, j are done -/
structure Thin (f : Int) (Q R : List (Int × Int)) (i j : Nat) : Prop where
  len : R.length = Q.length
  le : i ≤ j
  jle : j ≤ Q.length
  kept : R.take i = (Q.take j).filter fun p => p.1 ≠ f
  rest : R.drop j = Q.drop j
theorem Thin.start {f : Int} {Q : List (Int × Int)} {k : Nat} {p : Int × Int} (h : Q[k]? = some p) (he : p.1 = f) (hno : ∀ j q, j < k → Q[j]? = some q → q.1 ≠ f) : Thin f Q Q k (k + 1) := by
  have hk := (List.getElem?_eq_some_iff.1 h).1
  refine ⟨rfl, by omega, by omega, ?_, rfl⟩
  rw [List.take_add_one, h, List.filter_append]
  have h1 : (Q.take k).filter (fun p => decide (p.1 ≠ f)) = Q.take k := by
    rw [List.filter_eq_self]
    intro q hq
    obtain ⟨j, hj⟩ := List.mem_iff_getElem?.1 hq
    rw [List.getElem?_take] at hj
    split at hj
    · simpa using hno j q (by assumption) hj
    · cases hj
  rw [h1]
  simp [he]
theorem Thin.get {f : Int} {Q R : List (Int × Int)} {i j : Nat} (h : Thin f Q R i j) (hj : j < Q.length) : R[j]? = Q[j]? := by
  have := congrArg (fun l => l[0]?) h.rest
  simpa using this
theorem Thin.skip {f : Int} {Q R : List (Int × Int)} {i j : Nat} {p : Int × Int} (h : Thin f Q R i j) (hp : Q[j]? = some p) (he : p.1 = f) : Thin f Q R i (j + 1) := by
  have hj := (List.getElem?_eq_some_iff.1 hp).1
  refine ⟨h.len, by have := h.le; omega, by omega, ?_, ?_⟩
  · rw [List.take_add_one, hp, List.filter_append, ← h.kept]; simp [he]
  · rw [← List.drop_drop, ← List.drop_drop, h.rest]
theorem Thin.keep {f : Int} {Q R : List (Int × Int)} {i j : Nat} {p : Int × Int} (h : Thin f Q R i j) (hp : Q[j]? = some p) (he : p.1 ≠ f) : Thin f Q (R.set i p) (i + 1) (j + 1) := by
  have hj := (List.getElem?_eq_some_iff.1 hp).1
  have hle := h.le
  have hil : i < R.length := by rw [h.len]; omega
  refine ⟨by simp [h.len], by omega, by omega, ?_, ?_⟩
  · rw [List.take_add_one (l := Q), hp, List.filter_append, ← h.kept, List.take_add_one]
    simp [he, hil]
    exact List.take_set_of_le (Nat.le_refl _)
  · rw [List.drop_set_of_lt (by omega), ← List.drop_drop, h.rest, List.drop_drop]
theorem secV_set {R : List (Int × Int)} {i : Nat} {p : Int × Int} (h : i < R.length) : splice (secV R) (i * 2) [intV p.1, intV p.2] = secV (R.set i p) := by
  induction R generalizing i with
  | nil => simp at h
  | cons q R ih =>
    cases i with
    | zero => simp [secV, splice]
    | succ i =>
      have := ih (by simpa using h)
      rw [show (i + 1) * 2 = [intV q.1, intV q.2].length + i * 2 by simp; omega]
      have e1 : secV (q :: R) = [intV q.1, intV q.2] ++ secV R := rfl
      rw [e1, splice_append_right, this]
      rfl
theorem secV_take (R : List (Int × Int)) (i : Nat) : (secV R).take (i * 2) = secV (R.take i) := by
  induction R generalizing i with
  | nil => simp [secV]
  | cons q R ih =>
    cases i with
    | zero => simp [secV]
    | succ i =>
      rw [show (i + 1) * 2 = i * 2 + 2 by omega]
      have e1 : secV (q :: R) = intV q.1 :: intV q.2 :: secV R := rfl
      rw [e1]
      simp only [List.take_succ_cons, ih]
      rfl
theorem filter_none {f : Int} {Q : List (Int × Int)} (h : ∀ p ∈ Q, p.1 ≠ f) : (Q.filter fun p => p.1 ≠ f) = Q := List.filter_eq_self.2 fun p hp => by simpa using h p hp
theorem clearX {R : List (Int × Int)} {i n cap : Nat} (hi : i ≤ n) (hn : R.length = n ∧ n ≤ cap) : ∃ X : List Value, splice (secV R) (if cap = i then 0 else 0 + i * 2) (List.replicate (n - i) (Value.agg #[.int .i64 0, .int .i64 0]).cells.toList).flatten = secV (R.take i) ++ X ∧ True := by
  by_cases hc : cap = i
  · have : n - i = 0 := by omega
    rw [if_pos hc, this]
    refine ⟨(secV R).drop (i * 2), ?_, trivial⟩
    rw [← secV_take]
    simp [splice]
  · rw [if_neg hc]
    refine ⟨(List.replicate (n - i) (Value.agg #[.int .i64 0, .int .i64 0]).cells.toList).flatten ++ (secV R).drop (0 + i * 2 + (List.replicate (n - i) (Value.agg #[.int .i64 0, .int .i64 0]).cells.toList).flatten.length), ?_, trivial⟩
    rw [← secV_take]
    simp [splice]
theorem delEnd {w : World} {F : Th} {f : Int} {Q R : List (Int × Int)} {i j b cap : Nat} {X : List Value} (hT : Thin f Q R i j) (hj : ¬ j < Q.length) (h : Sat w [ownT (.slice (some ⟨b, 0, none⟩) Q.length cap) Q.length 2 (secV (R.take i) ++ X), F]) :
    Sat w [ownT (.slice (some ⟨b, if cap = 0 then 0 else 0 + 0 * 2, none⟩) (i - 0) (cap - 0)) (Q.filter fun p => p.1 ≠ f).length 2 (secV (Q.filter fun p => p.1 ≠ f)), F] := by
  have hle := hT.le; have hjl := hT.jle; have hlen := hT.len
  have hjq : j = Q.length := by omega
  have hk := hT.kept
  rw [hjq, List.take_length] at hk
  have hl : (Q.filter fun p => p.1 ≠ f).length = i := by rw [← hk, List.length_take, hlen]; omega
  have := h.own_head 0 rfl rfl (q := i) (by omega)
  dsimp only [List.set] at this
  rw [List.take_append_of_le_length (by rw [secV_length, List.length_take]; omega), secV_take, List.take_take, Nat.min_self, hk] at this
  rw [hl]
  simpa using this
set_option maxRecDepth 100000 in
theorem delfn_sp {w : World} {F : Th} {qv : Value} {Q : List (Int × Int)} (hS : Sat w [ownT qv Q.length 2 (secV Q), F]) {c : Nat} {f : Int} (hc : Ent F (cellIs c f)) (hl : Q.length ≤ 4194320) :
    Calls Tryz.prog 96 #[qv, .func (.func 97) #[] #[ptrV c 0]] w (Ret fun v w' => Sat w' [ownT v (Q.filter fun p => p.1 ≠ f).length 2 (secV (Q.filter fun p => p.1 ≠ f)), F]) := by
 refine calls_enter Tryz.func96 rfl Tryz.ntmps96 rfl ?_
 refine wc_seq (wc_region (wl_assign rfl rfl (wl_nil (qs_seq (wc_seq (wc_region (wl_move rfl rfl (wl_move rfl rfl ?_))))))))
 have hC1 := hS.split [0] [true, false] rfl; dsimp only [selF, pickA, nthA, List.cons_append, List.nil_append] at hC1
 refine wl_call cal_119 rfl (index_sp hC1 (hc.starL 0 rfl) hl) rfl ?_
 rintro e w1 ⟨_, rfl, r, rfl, hr, hS1⟩; refine ⟨_, rfl, ?_⟩
 replace hS1 := hS1.join rfl; dsimp only [List.dropLast, List.cons_append, List.nil_append] at hS1; clear hC1
 refine wl_assign rfl rfl (wl_nil (qs_seq (wc_seq (wc_seq (wc_region (wl_move rfl rfl ?_))))))
 refine wl_eql rfl rfl rfl ?_
 refine wl_nil (qs_seq ?_)
 refine wc_condD rfl (fun h2 => ?_) (fun h2 => ?_)
 ·have hr1 : r = -1 := h2
  refine wc_seq (wc_region (wl_move rfl rfl (wl_assign rfl rfl (wl_nil (qs_seq (wc_ret (qs_then_ret ?_)))))))
  refine fin1 (.inr rfl) rfl rfl ?_
  exact ⟨_, rfl, by rw [filter_none ((hr.resolve_right (by rintro ⟨k, p, h, _⟩; omega)).2)]; exact hS1⟩
 obtain ⟨k, p, rfl, hp, he, hno⟩ := hr.resolve_left (fun q => h2 q.1)
 have hkl := (List.getElem?_eq_some_iff.1 hp).1
 clear hr
 refine wc_skip (qs_seq (wc_seq (wc_seq (wc_region (wl_move rfl rfl ?_)))))
 refine wl_add rfl rfl (by omega) (by omega) rfl ?_
 refine wl_assign rfl rfl (wl_nil (qs_seq ?_))
 refine wc_sub (L' := [(6, _), (5, _), (4, _), (0, _), (1, _)]) (.cons rfl (.cons rfl (.cons rfl (.cons rfl (.cons rfl .nil))))) ?_
 refine wc_block ?_
 refine wc_loop (fun K0 E0 W0 => ∃ (i j : Nat) (R : List (Int × Int)), K0 = Q.length - j ∧ E0 = [(0, qv), (1, .func (.func 97) #[] #[ptrV c 0]), (5, intV (i : Int)), (6, intV (j : Int))] ∧ Sat W0 [ownT qv Q.length 2 (secV R), F] ∧ (Thin f Q R i j)) (L0 := [(0, _), (1, _), (5, _), (6, _)]) (Q.length - (k + 1)) (.cons rfl (.cons rfl (.cons rfl (.cons rfl .nil)))) ⟨k, k + 1, Q, by omega, rfl, hS1, Thin.start hp he hno⟩ ?_
 rintro _ _ w3 ⟨i, j, R, rfl, rfl, hS3, hT⟩
 have hjl := hT.jle
 have hil := hT.le
 have hRl := hT.len
 refine wc_seq (wc_seq (wc_region (wl_move rfl rfl (wl_move rfl rfl ?_))))
 first | refine wl_lenL Tryz.underlying65 rfl rfl ?_ | refine wl_lenO 0 hS3 Tryz.underlying65 rfl rfl rfl ?_
 refine wl_lss rfl rfl rfl ?_
 refine wl_nil (qs_seq ?_)
 refine wc_condD rfl (fun h4 => ?_) (fun h4 => ?_)
 ·obtain ⟨p, hp⟩ : ∃ p, Q[j]? = some p := ⟨_, List.getElem?_eq_getElem (by omega)⟩
  refine wc_skip (qs_seq (wc_seq (wc_block (wc_seq (wc_region (wl_move rfl rfl (wl_move rfl rfl ?_)))))))
  refine wl_indexO 0 j hS3 rfl rfl rfl rfl (by omega) es_65 rfl ?_
  intro b cap hv
  refine wl_loadO 0 hS3 rfl hv rfl ag_85 sz_85 (sec_at (by rw [hT.get (by omega)]; exact hp)) rfl rfl ?_
  refine wl_alloc hS3 zr_85 rfl rfl ?_
  intro b5 w5 hS5
  clear hS3
  first | (refine wl_storeA hS5 rfl rfl sz_85 rfl (by first | rfl | (simp [allOne, Value.oneCell']; done) | assumption | exact hone) (i := 0) rfl (by first | decide | exact Nat.le_of_ble_eq_true rfl | (simp; done) | omega) ?_)
  intro w6 hS7; dsimp only [List.set] at hS7
  clear hS5
  refine wl_nil (qs_seq ?_)
  refine wc_sub (L' := [(7, _), (0, _), (1, _), (5, _), (6, _)]) (.cons rfl (.cons rfl (.cons rfl (.cons rfl (.cons rfl .nil))))) ?_
  refine wc_seq (wc_region (wl_move rfl rfl ?_))
  refine wl_loadA rfl ag_85 sz_85 (by first | exact hS7.blk 0 rfl) (by first | decide | exact Nat.le_of_ble_eq_true rfl | (simp; done) | omega) rfl rfl ?_
  have hC8 := hS7.split [] [false, false, false] rfl; dsimp only [selF, pickA, nthA, List.cons_append, List.nil_append] at hC8
  refine wl_callV rfl cal_97 rfl (clo1_sp hC8 (hc.starL 2 rfl) _ _) rfl ?_
  rintro e w8 ⟨_, rfl, rfl, hS8⟩; refine ⟨_, rfl, ?_⟩
  replace hS8 := hS8.join rfl; dsimp only [List.dropLast, List.cons_append, List.nil_append] at hS8; clear hC8
  clear hS7
  refine wl_not rfl rfl ?_
  refine wl_nil (qs_seq ?_)
  refine wc_cond rfl (fun h9 => ?_) (fun h9 => ?_)
  ·have hne : p.1 ≠ f := by simpa using h9
   refine wc_seq (wc_region (wl_move rfl rfl (wl_move rfl rfl ?_)))
   refine wl_loadA rfl ag_85 sz_85 (by first | exact hS8.blk 0 rfl) (by first | decide | exact Nat.le_of_ble_eq_true rfl | (simp; done) | omega) rfl rfl ?_
   refine wl_indexO 1 i hS8 rfl rfl rfl rfl (by have := hT.le; omega) es_65 rfl ?_
   intro b2 cap2 hv2
   refine wl_storeO 1 hS8 rfl hv2 rfl rfl sz_85 rfl rfl (by rw [secV_length]; have := hT.le; have := hT.len; omega) (secV_set (p := p) (by have := hT.le; have := hT.len; omega)) ?_
   intro w9 hS9; dsimp only [List.set] at hS9
   refine wl_nil (qs_seq ?_)
   refine wc_sub (L' := [(0, _), (1, _), (5, _), (6, _)]) (.cons rfl (.cons rfl (.cons rfl (.cons rfl .nil)))) ?_
   refine wc_region (wl_move rfl rfl ?_)
   refine wl_add rfl rfl (by omega) (by omega) rfl ?_
   refine wl_assign rfl rfl (wl_nil (qs_block_normal (qs_seq (wc_region (wl_move rfl rfl ?_)))))
   refine wl_add rfl rfl (by omega) (by omega) rfl ?_
   refine wl_assign rfl rfl (wl_nil ?_)
   exact qs_round (L1 := [(0, qv), (1, .func (.func 97) #[] #[ptrV c 0]), (5, intV ((i + 1 : Nat) : Int)), (6, intV ((j + 1 : Nat) : Int))]) (.cons rfl (.cons rfl (.cons rfl (.cons rfl .nil)))) (k1 := Q.length - (j + 1)) (by omega) ⟨i + 1, j + 1, R.set i p, by omega, rfl, hS9.tail, hT.keep hp hne⟩
  have heq : p.1 = f := by simpa using h9
  refine wc_skip (qs_block_normal (qs_seq (wc_region (wl_move rfl rfl ?_))))
  refine wl_add rfl rfl (by omega) (by omega) rfl ?_
  refine wl_assign rfl rfl (wl_nil ?_)
  exact qs_round (L1 := [(0, qv), (1, .func (.func 97) #[] #[ptrV c 0]), (5, intV (i : Int)), (6, intV ((j + 1 : Nat) : Int))]) (.cons rfl (.cons rfl (.cons rfl (.cons rfl .nil)))) (k1 := Q.length - (j + 1)) (by omega) ⟨i, j + 1, R, by omega, rfl, hS8.tail, hT.skip hp heq⟩
 refine wc_exit (qs_then_exit (qs_then_exit (qs_block_exit (qs_seq (wc_seq (wc_region (wl_move rfl rfl (wl_move rfl rfl ?_))))))))
 obtain ⟨b, cap, hv, hcap⟩ := hS3.own_at 0 rfl (by omega)
 subst hv
 refine wl_slice i Q.length Tryz.underlying65 sz_85 rfl (bndS i _ rfl rfl) (bndN _) (by omega) (by omega) rfl ?_
 obtain ⟨X, hX, hXl⟩ : ∃ X : List Value, splice (secV R) (if cap = i then 0 else 0 + i * 2) (List.replicate (Q.length - i) (Value.agg #[.int .i64 0, .int .i64 0]).cells.toList).flatten = secV (R.take i) ++ X ∧ True := clearX (by omega) (by omega)
 refine wl_clearO 0 hS3 rfl rfl rfl Tryz.underlying65 zr_85 rfl (by rw [secV_length]; split <;> simp [Value.cells] <;> omega) hX rfl ?_
 intro w11 hS11; dsimp only [List.set, pd] at hS11 ⊢
 refine wl_nil (qs_seq ?_)
 refine wc_sub (L' := [(0, _), (5, _)]) (.cons rfl (.cons rfl .nil)) ?_
 refine wc_seq (wc_region (wl_move rfl rfl (wl_move rfl rfl ?_)))
 refine wl_slice 0 i Tryz.underlying65 sz_85 rfl (bndN _) (bndS i _ rfl rfl) (by omega) (by omega) rfl ?_
 refine wl_assign rfl rfl (wl_nil (qs_seq (wc_ret ?_)))
 refine fin1 (.inr rfl) rfl rfl ?_
 exact ⟨_, rfl, delEnd hT (by omega) hS11⟩
/-- what is left of a set while the sectors of file f are taken out of it -/
def Out (f : Int) (g0 g : Int × Int → Option Value) (dn : Int × Int → Prop) : Prop := ∀ p, (dn p → g p = if p.1 = f then none else g0 p) ∧ (¬ dn p → g p = g0 p)
theorem Out.next {f : Int} {g0 g : Int × Int → Option Value} {dn : Int × Int → Prop} {k : Int × Int} (h : Out f g0 g dn) (hk : ¬ dn k) (hf : k.1 ≠ f) : Out f g0 g (fun j => dn j ∨ j = k) := by
  intro p
  refine ⟨fun hp => ?_, fun hp => (h p).2 fun q => hp (.inl q)⟩
  rcases hp with hp | rfl
  · exact (h p).1 hp
  · rw [if_neg hf]; exact (h p).2 hk
theorem Out.del {f : Int} {g0 g : Int × Int → Option Value} {dn : Int × Int → Prop} {k : Int × Int} (h : Out f g0 g dn) (hf : k.1 = f) : Out f g0 (upd g k none) (fun j => dn j ∨ j = k) := by
  intro p
  by_cases hp : p = k
  · subst hp; exact ⟨fun _ => by rw [upd_self, if_pos hf], fun q => absurd (.inr rfl) q⟩
  · rw [upd_ne hp]
    exact ⟨fun q => (h p).1 (q.resolve_right hp), fun q => (h p).2 fun r => q (.inl r)⟩
theorem Out.done {f : Int} {Q : List (Int × Int)} {g0 g : Int × Int → Option Value} {dn : Int × Int → Prop} (h : Out f g0 g dn) (hg : ∀ p, g0 p = if p ∈ Q then some (.bool true) else none) (hd : ∀ k v, g k = some v → dn k) : ∀ p, g p = if p ∈ Q.filter (fun p => p.1 ≠ f) then some (.bool true) else none := by
  intro p
  by_cases hp : dn p
  · rw [(h p).1 hp, hg]; by_cases e : p.1 = f <;> simp [e]
  · have h1 := (h p).2 hp
    rw [h1]
    have hn : g p = none := by cases hq : g p with | none => rfl | some v => exact absurd (hd p v hq) hp
    rw [← h1, hn]
    rw [h1, hg] at hn
    split at hn
    · cases hn
    · rename_i hm; rw [if_neg (fun q => hm (List.mem_filter.1 q).1)]
theorem Out.val {f : Int} {Q : List (Int × Int)} {g0 g : Int × Int → Option Value} {dn : Int × Int → Prop} {k : Int × Int} {v : Value} (h : Out f g0 g dn) (hg : ∀ p, g0 p = if p ∈ Q then some (.bool true) else none) (hk : ¬ dn k) (hv : g k = some v) : v = .bool true := by
  rw [(h k).2 hk, hg] at hv
  split at hv
  · exact (Option.some.inj hv).symm
  · cases hv
set_option maxRecDepth 100000 in
theorem mdel_sp {w : World} {F : Th} {bs : Nat} {Q : List (Int × Int)} (hS : Sat w [setT bs Q, F]) {c : Nat} {f : Int} (hc : Ent F (cellIs c f)) :
    Calls Tryz.prog 98 #[.map (some bs), .func (.func 99) #[] #[ptrV c 0]] w (Ret fun v w' => v = .tuple #[] ∧ Sat w' [setT bs (Q.filter fun p => p.1 ≠ f), F]) := by
 obtain ⟨g0, hgs, hS⟩ := setT_open hS
 refine calls_enter Tryz.func98 rfl Tryz.ntmps98 rfl ?_
 refine wc_seq (wc_region (wl_move rfl rfl ?_))
 refine wl_range 0 hS Tryz.underlying64 rfl rfl rfl ?_
 intro r1 left1 w1 hS1; dsimp only [List.set] at hS1
 refine wl_nil (qs_seq (wc_block ?_))
 refine wc_loop (fun K0 E0 W0 => ∃ (g : Int × Int → Option Value) (dn : Int × Int → Prop) (cur : Option (Int × Int)) (left : Nat), K0 = left ∧ E0 = [(0, .map (some bs)), (1, .func (.func 99) #[] #[ptrV c 0]), (7, ptrV r1 0)] ∧ Sat W0 [rangeT pairK bs r1 g dn cur left, F] ∧ (Out f g0 g dn)) (L0 := [(0, _), (1, _), (7, _)]) (left1) (.cons rfl (.cons rfl (.cons rfl .nil))) ⟨g0, _, _, _, rfl, rfl, hS1, fun p => ⟨fun h => h.elim, fun _ => rfl⟩⟩ ?_
 rintro _ _ w2 ⟨g, dn, cur, left, rfl, rfl, hS2, hout⟩
 refine wc_seq (wc_region ?_)
 refine wl_next 0 hS2 keysSec.inj rfl rfl rfl (fun hdone => ?_) (fun k v left2 w2 hleft hgk hnd hS2 => ?_)
 ·refine wl_extract rfl rfl rfl (wl_nil (qs_seq (wc_seq ?_)))
  refine wc_condF rfl ?_
  refine wc_exit (qs_then_exit (qs_then_exit (qs_block_exit ?_)))
  refine fin0 (.inl rfl) rfl ?_
  exact ⟨_, rfl, rfl, setT_shut g (hout.done hgs hdone) (range_map hS2)⟩
 dsimp only [List.set] at hS2; obtain rfl := hout.val hgs hnd hgk; obtain ⟨k1, k2⟩ := k
 refine wl_extract rfl rfl rfl (wl_nil (qs_seq (wc_seq ?_)))
 refine wc_condT rfl ?_
 refine wc_skip (qs_seq (wc_block (wc_seq (wc_region ?_))))
 refine wl_entry 0 hS2 rfl hgk rfl rfl ?_
 refine wl_extract rfl rfl rfl (wl_extract rfl rfl rfl ?_)
 refine wl_alloc hS2 zr_85 rfl rfl ?_
 intro b3 w3 hS3
 clear hS2
 first | (refine wl_storeA hS3 rfl rfl sz_85 rfl (by first | rfl | (simp [allOne, Value.oneCell']; done) | assumption | exact hone) (i := 0) rfl (by first | decide | exact Nat.le_of_ble_eq_true rfl | (simp; done) | omega) ?_)
 intro w4 hS5; dsimp only [List.set] at hS5
 clear hS3
 refine wl_assign rfl rfl (wl_nil (qs_seq (wc_seq (wc_region (wl_move rfl rfl ?_)))))
 refine wl_loadA rfl ag_85 sz_85 (by first | exact hS5.blk 0 rfl) (by first | decide | exact Nat.le_of_ble_eq_true rfl | (simp; done) | omega) rfl rfl ?_
 refine wl_move rfl rfl ?_
 have hC6 := hS5.split [] [false, false, false] rfl; dsimp only [selF, pickA, nthA, List.cons_append, List.nil_append] at hC6
 refine wl_callV rfl cal_99 rfl (clo2_sp hC6 (hc.starL 2 rfl) _ _ _) rfl ?_
 rintro e w6 ⟨_, rfl, rfl, hS6⟩; refine ⟨_, rfl, ?_⟩
 replace hS6 := hS6.join rfl; dsimp only [List.dropLast, List.cons_append, List.nil_append] at hS6; clear hC6
 clear hS5
 refine wl_nil (qs_seq ?_)
 refine wc_sub (L' := [(16, _), (4, _), (0, _), (1, _), (7, _)]) (.cons rfl (.cons rfl (.cons rfl (.cons rfl (.cons rfl .nil))))) ?_
 refine wc_cond rfl (fun h7 => ?_) (fun h7 => ?_)
 ·have heq : k1 = f := by simpa using h7
  refine wc_region (wl_move rfl rfl ?_)
  refine wl_loadA rfl ag_85 sz_85 (by first | exact hS6.blk 0 rfl) (by first | decide | exact Nat.le_of_ble_eq_true rfl | (simp; done) | omega) rfl rfl ?_
  refine wl_deleteR (k := (k1, k2)) 1 hS6 keysSec Tryz.underlying64 rfl (.inr rfl) rfl rfl rfl ?_
  intro w7 hS7; dsimp only [List.set, pd] at hS7 ⊢
  refine wl_nil (qs_block_normal ?_)
  exact qs_round (L1 := [(0, .map (some bs)), (1, .func (.func 99) #[] #[ptrV c 0]), (7, ptrV r1 0)]) (.cons rfl (.cons rfl (.cons rfl .nil))) (k1 := left2) (by omega) ⟨_, _, _, _, rfl, rfl, hS7.tail, hout.del heq⟩
 have hne : k1 ≠ f := by simpa using h7
 refine wc_skip (qs_block_normal ?_)
 exact qs_round (L1 := [(0, .map (some bs)), (1, .func (.func 99) #[] #[ptrV c 0]), (7, ptrV r1 0)]) (.cons rfl (.cons rfl (.cons rfl .nil))) (k1 := left2) (by omega) ⟨_, _, _, _, rfl, rfl, hS6.tail, hout.next hnd hne⟩
theorem ent_blk {As : List Th} {i c : Nat} {cs : List Value} {f : Int} (hi : As[i]? = some (blkT c cs)) (hv : cs[0]? = some (intV f)) : Ent (starL As) (cellIs c f) := fun h => Sat.cell (w := _) ⟨_, h⟩ i hi hv
theorem settle_end {w : World} {p bf bs : Nat} {kp qv : Value} {D : DS} {g : Int → Option Value} {F X : Th} {f : Int} {s : Bytes} (hI : DInv D) (hs : s.length ≤ 16777216) (hg : SaysF g D.F) (h : Sat w [setT bs (D.Q.filter fun p => p.1 ≠ f), ownT qv (D.Q.filter fun p => p.1 ≠ f).length 2 (secV (D.Q.filter fun p => p.1 ≠ f)), X, mapT intK bf (upd g f (some (fileV (s, s)))), blkT p (cellsD ⟨bf, bs, qv⟩ kp D), F]) : Sat w [diskT p kp (settleD D f s), F] := by
  have h1 := filesT_shut (As := [setT bs (D.Q.filter fun p => p.1 ≠ f), ownT qv (D.Q.filter fun p => p.1 ≠ f).length 2 (secV (D.Q.filter fun p => p.1 ≠ f)), X, blkT p (cellsD ⟨bf, bs, qv⟩ kp D), F]) _ (SaysF_set hg f (s, s)) (h.reorder [3, 0, 1, 2, 4, 5] rfl)
  refine diskT_shut ⟨bf, bs, qv⟩ ?_ (((h1.reorder [3, 4, 0, 2, 1, 5] rfl)).tail)
  refine { hI with now := fun k => ?_, last := fun k => ?_, nodup := hI.nodup.filter _, secs := fun p hp => hI.secs p (List.mem_filter.1 hp).1 }
  · simp only [settleD, setF]; split
    · exact hs
    · exact hI.now k
  · simp only [settleD, setF]; split
    · exact hs
    · exact hI.last k
set_option maxRecDepth 100000 in
theorem settle_sp {w : World} {p : Nat} {kp : Value} {D : DS} {F : Th} (hS : Sat w [diskT p kp D, F]) (f : Int) (s : Bytes) (hs : s.length ≤ 16777216) :
    Calls Tryz.prog 61 #[ptrV p 0, intV f, strV s] w (Ret fun v w' => v = .tuple #[] ∧ Sat w' [diskT p kp (settleD D f s), F]) := by
 obtain ⟨⟨bf, bs, qv⟩, hI, hS⟩ := diskT_open hS; dsimp only at hS
 obtain ⟨g, hg, hS⟩ := filesT_open (hS.pull 1 rfl); dsimp only [List.eraseIdx] at hS
 refine calls_enter Tryz.func61 rfl Tryz.ntmps61 rfl ?_
 refine wc_seq (wc_region ?_)
 refine wl_box hS rfl rfl rfl ?_
 intro b1 w1 hS1
 refine wl_nil (qs_seq (wc_seq ?_))
 have hS2 := hS1.drew
 refine wc_draw [0, 1, 2, 3, 4, 5, 6, 7, 8] [8] mix (by kernel_rfl) ?_
 refine vc_p rfl rfl rfl (fun _ => (ev_move rfl)) ?_
 refine vc_p rfl rfl rfl (fun _ => (ev_nilCheck rfl)) ?_
 refine vc_p rfl rfl rfl (fun _ => (ev_fieldAddr rfl fo_67_0)) ?_
 refine vc_q rfl rfl rfl (ev_load rfl ag_63 (by first | assumption | exact hS2.cell 0 rfl rfl | exact hS2.cell 2 rfl rfl)) ?_
 refine vc_q rfl rfl rfl (ev_load rfl ag_3 (by first | assumption | exact hS2.cell 0 rfl rfl | exact hS2.cell 2 rfl rfl)) ?_
 refine vc_p rfl rfl rfl (fun _ => (ev_move rfl)) ?_
 refine vc_p rfl rfl rfl (fun _ => (ev_move rfl)) ?_
 refine vc_p rfl rfl rfl (fun _ => (ev_buildS rfl pl_87_0_1 asz_87 zr_87 rfl)) ?_
 refine vc_s rfl rfl rfl rfl rfl rfl ?_
 first | refine wl_mapUpdate 1 hS2 keysInt Tryz.underlying63 rfl rfl rfl rfl ?_
 intro w3 hS3; dsimp only [List.set] at hS3
 clear hS2
 refine vc_e0 (.skip (by kernel_rfl) (.skip (by kernel_rfl) .nil)) ?_
 refine VC.nil (qs_seq ?_)
 refine wc_sub (L' := [(4, _), (0, _)]) (.cons rfl (.cons rfl .nil)) ?_
 refine wc_seq (wc_region (wl_move rfl rfl (wl_move rfl rfl (wl_nilCheck rfl rfl ?_))))
 refine wl_fieldAddr rfl fo_67_1 rfl ?_
 refine wl_load rfl ag_65 (by first | assumption | exact hS3.cell 0 rfl rfl | exact hS3.cell 2 rfl rfl) rfl ?_
 refine wl_makeFunc rfl rfl ?_
 have hC4 := hS3.split [3] [false, false, false, true, false, false] rfl; dsimp only [selF, pickA, nthA, List.cons_append, List.nil_append] at hC4
 refine wl_call cal_96 rfl (delfn_sp hC4 (f := f) (ent_blk (i := 0) rfl rfl) (sec_count hI.secs hI.nodup)) rfl ?_
 rintro e w4 ⟨_, rfl, hS4⟩; refine ⟨_, rfl, ?_⟩
 replace hS4 := hS4.join rfl; dsimp only [List.dropLast, List.cons_append, List.nil_append] at hS4; clear hC4
 clear hS3
 have h1q := hS4.own_one 0 rfl
 refine wl_nilCheck rfl rfl ?_
 refine wl_fieldAddr rfl fo_67_1 rfl ?_
 first | (refine wl_store hS4 rfl rfl sz_65 (by first | rfl | assumption | exact hS4.own_one 0 rfl) (i := 1) rfl (by first | decide | exact Nat.le_of_ble_eq_true rfl | (simp; done) | omega) ?_) | (refine wl_store hS4 rfl rfl sz_65 (by first | rfl | assumption | exact hS4.own_one 0 rfl) (i := 3) rfl (by first | decide | exact Nat.le_of_ble_eq_true rfl | (simp; done) | omega) ?_)
 intro w5 hS6; dsimp only [List.set] at hS6
 clear hS4
 refine wl_nil (qs_seq ?_)
 refine wc_sub (L' := [(4, _), (0, _)]) (.cons rfl (.cons rfl .nil)) ?_
 refine wc_region (wl_move rfl rfl (wl_nilCheck rfl rfl ?_))
 refine wl_fieldAddr rfl fo_67_2 rfl ?_
 refine wl_load rfl ag_64 (by first | assumption | exact hS6.cell 1 rfl rfl | exact hS6.cell 3 rfl rfl) rfl ?_
 refine wl_makeFunc rfl rfl ?_
 have hC7 := hS6.split [4] [false, false, false, false, true, false] rfl; dsimp only [selF, pickA, nthA, List.cons_append, List.nil_append] at hC7
 refine wl_call cal_98 rfl (mdel_sp hC7 (f := f) (ent_blk (i := 1) rfl rfl)) rfl ?_
 rintro e w7 ⟨_, rfl, rfl, hS7⟩; refine ⟨_, rfl, ?_⟩
 replace hS7 := hS7.join rfl; dsimp only [List.dropLast, List.cons_append, List.nil_append] at hS7; clear hC7
 clear hS6
 refine wl_nil ?_
 refine fin0 (.inl rfl) rfl ?_
 exact ⟨_, rfl, rfl, settle_end hI hs hg hS7⟩
end Go.Proofs.YtfmkodmmbgibgaaGreatDoor
/- disk: Crash -/
namespace Go.Proofs.YtfmkodmmbgibgaaGreatDoor
open Go.RowKit M
set_option linter.unusedVariables false
theorem put_sp' {w : World} {F : Th} (hS : Sat w [F]) (s t : Bytes) (a : Nat) {x : Int} (ha : x = a) (h1 : s.length ≤ 16777216) (h2 : a + t.length ≤ 33554432) : Calls Tryz.prog 53 #[strV s, intV x, strV t] w (Ret fun v w' => v = strV (putB s a t) ∧ Sat w' [F]) := by
  subst ha; exact put_sp hS s t a h1 h2
theorem RdI.shape {v : Value} {l : List Int} {w : World} (h : RdI v l w) : ∃ ao cap, v = .slice ao l.length cap ∧ l.length ≤ 9223372036854775807 := by obtain ⟨ao, cap, h1, h2, _⟩ := h; exact ⟨ao, cap, h1, h2⟩
theorem RdI.get {ao : Option Addr} {n cap i : Nat} {l : List Int} {x : Int} {w : World} (h : RdI (.slice ao n cap) l w) (hx : l[i]? = some x) : ∃ b off, ao = some ⟨b, off, none⟩ ∧ w.cell? ⟨b, off + i * 1, none⟩ = some (intV x) := by
  obtain ⟨ao', cap', h1, _, h3⟩ := h
  cases h1
  obtain ⟨b, off, h4, h5⟩ := h3 i x hx
  exact ⟨b, off, h4, by rw [Nat.mul_one]; exact h5⟩
theorem survives_snoc (keep : List Int) (p : Int × Int) : ∀ (Q : List (Int × Int)) (k : Nat) (F : Int → Bytes × Bytes), survives keep k (Q ++ [p]) F = (if keep ≠ [] ∧ (keep.getD ((k + Q.length) % keep.length) 0) % 2 = 1 then survive (survives keep k Q F) p else survives keep k Q F)
  | [], k, F => by simp [survives]
  | q :: Q, k, F => by
    simp only [List.cons_append, survives]
    rw [survives_snoc keep p Q (k + 1)]
    rw [show k + 1 + Q.length = k + (q :: Q).length by simp; omega]
def upto (keep : List Int) (Q : List (Int × Int)) (F : Int → Bytes × Bytes) (i : Nat) : Int → Bytes × Bytes := survives keep 0 (Q.take i) F
theorem upto_step {keep : List Int} {Q : List (Int × Int)} {F : Int → Bytes × Bytes} {i : Nat} {p : Int × Int} (hp : Q[i]? = some p) : upto keep Q F (i + 1) = (if keep ≠ [] ∧ (keep.getD (i % keep.length) 0) % 2 = 1 then survive (upto keep Q F i) p else upto keep Q F i) := by
  have hi := (List.getElem?_eq_some_iff.1 hp).1
  unfold upto
  rw [List.take_add_one, hp]
  simp only [Option.toList_some]
  rw [survives_snoc, List.length_take, Nat.min_eq_left (by omega), Nat.zero_add]
theorem upto_same {keep : List Int} {Q : List (Int × Int)} {F : Int → Bytes × Bytes} {i : Nat} {p : Int × Int} (hp : Q[i]? = some p) (h : ¬ (keep ≠ [] ∧ (keep.getD (i % keep.length) 0) % 2 = 1) ∨ ((upto keep Q F i) p.1).1.length ≤ 64 * p.2) : upto keep Q F (i + 1) = upto keep Q F i := by
  rw [upto_step hp]
  split
  · rename_i hc
    rcases h with h | h
    · exact absurd hc h
    · rw [survive, if_pos h]
  · rfl
def cut64 (s : Bytes) (a : Nat) : Bytes := (s.drop a).take 64
theorem upto_put {keep : List Int} {Q : List (Int × Int)} {F : Int → Bytes × Bytes} {i a : Nat} {p : Int × Int} (hp : Q[i]? = some p) (hk : keep ≠ []) (hb : (keep.getD (i % keep.length) 0) % 2 = 1) (ha : 64 * p.2 = a) (hlt : a < ((upto keep Q F i) p.1).1.length) :
    upto keep Q F (i + 1) = setF (upto keep Q F i) p.1 (((upto keep Q F i) p.1).1, putB ((upto keep Q F i) p.1).2 a (cut64 ((upto keep Q F i) p.1).1 a)) := by
  rw [upto_step hp, if_pos ⟨hk, hb⟩, survive, if_neg (by omega), ha]
  simp [cut64]
structure Small (F : Int → Bytes × Bytes) : Prop where
  now : ∀ k, (F k).1.length ≤ 16777216
  last : ∀ k, (F k).2.length ≤ 16777216
theorem Small.set {F : Int → Bytes × Bytes} (h : Small F) (k : Int) {t : Bytes} (ht : t.length ≤ 16777216) : Small (setF F k ((F k).1, t)) := by
  refine ⟨fun j => ?_, fun j => ?_⟩
  · simp only [setF]; split
    · exact h.now k
    · exact h.now j
  · simp only [setF]; split
    · exact ht
    · exact h.last j
theorem cut_eq {s : Bytes} {a B : Nat} (h : min ((a : Int) + 64) (s.length : Int) = B) : (s.take B).drop a = cut64 s a := by
  unfold cut64
  rw [List.drop_take]
  by_cases hc : a + 64 ≤ s.length
  · rw [show B - a = 64 by omega]
  · rw [List.take_of_length_le (by simp; omega), List.take_of_length_le (by simp; omega)]
theorem cut_le2 (s : Bytes) (a : Nat) (h : a ≤ s.length) : a + (cut64 s a).length ≤ s.length := by simp [cut64]; omega
theorem cut_le (s : Bytes) (a : Nat) : (cut64 s a).length ≤ 64 := by simp [cut64]; omega
/-- the files while each is made what is durable of it -/
def Cr (G : Int → Bytes × Bytes) (g0 g : Int → Option Value) (dn : Int → Prop) : Prop := ∀ k, ((g k = none ↔ g0 k = none)) ∧ (dn k → g0 k ≠ none → g k = some (fileV ((G k).2, (G k).2))) ∧ (¬ dn k → g k = g0 k)
theorem fileV_inj {x y : Bytes × Bytes} (h : fileV x = fileV y) : x = y := by
  obtain ⟨a, b⟩ := x
  obtain ⟨c, d⟩ := y
  simp [fileV] at h
  simp [h]
theorem Cr.val {G : Int → Bytes × Bytes} {g0 g : Int → Option Value} {dn : Int → Prop} {k : Int} {v : Value} (h : Cr G g0 g dn) (hs : SaysF g0 G) (hk : ¬ dn k) (hv : g k = some v) : v = fileV (G k) := by
  have := hs k
  rw [← (h k).2.2 hk, hv] at this
  exact this
theorem Cr.step {G : Int → Bytes × Bytes} {g0 g : Int → Option Value} {dn : Int → Prop} {k : Int} {v : Value} (h : Cr G g0 g dn) (hk : ¬ dn k) (hv : g k = some v) : Cr G g0 (upd g k (some (fileV ((G k).2, (G k).2)))) (fun j => dn j ∨ j = k) := by
  intro j
  by_cases hj : j = k
  · subst hj
    have h0 : g0 j ≠ none := fun q => by have := (h j).1.2 q; rw [hv] at this; cases this
    exact ⟨⟨fun q => (by rw [upd_self] at q; cases q), fun q => absurd q h0⟩, fun _ _ => upd_self, fun q => absurd (.inr rfl) q⟩
  · rw [upd_ne hj]
    exact ⟨(h j).1, fun q => (h j).2.1 (q.resolve_right hj), fun q => (h j).2.2 fun r => q (.inl r)⟩
theorem Cr.done {G : Int → Bytes × Bytes} {g0 g : Int → Option Value} {dn : Int → Prop} (h : Cr G g0 g dn) (hs : SaysF g0 G) (hd : ∀ k v, g k = some v → dn k) : SaysF g (fun k => ((G k).2, (G k).2)) := by
  intro k
  cases hq : g k with
  | none =>
    have := hs k
    rw [(h k).1.1 hq] at this
    have := fileV_inj this
    show _ = fileV ((G k).2, (G k).2)
    rw [← this]; rfl
  | some v =>
    have h0 : g0 k ≠ none := fun q => by have := (h k).1.2 q; rw [hq] at this; cases this
    have := (h k).2.1 (hd k v hq) h0
    rw [hq] at this
    rw [this]; rfl
theorem cr_same {w : World} {p bf bs : Nat} {C : List Value} {qv : Value} {Q : List (Int × Int)} {U U' : Int → Bytes × Bytes} {g : Int → Option Value} {F X Y : Th} (hu : U' = U) (hg : SaysF g U) (h : Sat w [X, mapT intK bf g, Y, blkT p C, ownT qv Q.length 2 (secV Q), setT bs Q, F]) : Sat w [blkT p C, filesT bf U', ownT qv Q.length 2 (secV Q), setT bs Q, F] := by
  rw [hu]
  exact (filesT_shut (As := [Y, blkT p C, ownT qv Q.length 2 (secV Q), setT bs Q, F]) g hg h.tail).drop 1 rfl |>.reorder [1, 0, 2, 3, 4] rfl
theorem cr_put {w : World} {p bf bs : Nat} {C : List Value} {qv : Value} {Q : List (Int × Int)} {U U' : Int → Bytes × Bytes} {g : Int → Option Value} {F X Y : Th} {k : Int} {x : Bytes × Bytes} (hu : U' = setF U k x) (hg : SaysF g U) (h : Sat w [X, mapT intK bf (upd g k (some (fileV x))), Y, blkT p C, ownT qv Q.length 2 (secV Q), setT bs Q, F]) : Sat w [blkT p C, filesT bf U', ownT qv Q.length 2 (secV Q), setT bs Q, F] := by
  rw [hu]
  exact (filesT_shut (As := [Y, blkT p C, ownT qv Q.length 2 (secV Q), setT bs Q, F]) _ (SaysF_set hg k x) h.tail).drop 1 rfl |>.reorder [1, 0, 2, 3, 4] rfl
theorem crash_end {w : World} {p bf bs2 i : Nat} {kp : Value} {D : DS} {ks : List Int} {g : Int → Option Value} {dn : Int → Prop} {cur : Option Int} {left r : Nat} {F X Y : Th} (hI : DInv D) (hd : D.down = false) (hi : i = D.Q.length) (hsm : Small (upto ks D.Q D.F i)) (hg : SaysF g (fun k => ((upto ks D.Q D.F i k).2, (upto ks D.Q D.F i k).2)))
    (h : Sat w [mapT pairK bs2 (fun _ => none), rangeT intK bf r g dn cur left, blkT p [.map (some bf), .slice none 0 0, .map (some bs2), intV D.lost, .bool true, intV 0, kp], X, Y, F]) : Sat w [diskT p kp (crashD D ks), F] := by
  have h1 := setT_shut (Q := []) (fun _ => none) (by simp) h
  have h2 := filesT_shut (F := fun k => ((upto ks D.Q D.F i k).2, (upto ks D.Q D.F i k).2)) g hg (range_map (h1.reorder [1, 0, 2, 3, 4, 5] rfl))
  have h3 := h2.new (Only.refl [] w) (A := ownT (.slice none 0 0) 0 2 []) (F' := fun k => k ∈ ([] : List Nat)) ⟨[], rfl, Own.nil w 2⟩ (by simp)
  have h4 := (h3.drop 4 rfl).drop 4 rfl
  dsimp only [List.eraseIdx] at h4
  have hD : crashD D ks = { D with down := true, armed := 0, F := fun k => ((upto ks D.Q D.F i k).2, (upto ks D.Q D.F i k).2), Q := [] } := by
    rw [crashD, if_neg (by rw [hd]; simp), hi]
    simp [upto]
  rw [hD]
  refine diskT_shut ⟨bf, bs2, .slice none 0 0⟩ ?_ (h4.reorder [3, 1, 0, 2, 4] rfl)
  exact { hI with now := fun k => hsm.last k, last := fun k => hsm.last k, nodup := List.nodup_nil, secs := by simp, armed := by simp }
set_option maxRecDepth 100000 in
theorem crash_sp {w : World} {p : Nat} {kp : Value} {D : DS} {F : Th} (hS : Sat w [diskT p kp D, F]) {kv : Value} {ks : List Int} (hK : Ent F (RdI kv ks)) :
    Calls Tryz.prog 18 #[ptrV p 0, kv] w (Ret fun v w' => v = .tuple #[] ∧ Sat w' [diskT p kp (crashD D ks), F]) := by
 obtain ⟨ao, capk, rfl, hkmax⟩ := (hK.sat hS 1 rfl).shape
 obtain ⟨⟨bf, bs, qv⟩, hI, hS⟩ := diskT_open hS; dsimp only at hS
 refine calls_enter Tryz.func18 rfl Tryz.ntmps18 rfl ?_
 have hcnt := sec_count hI.secs hI.nodup
 refine wc_seq (wc_seq (wc_region (wl_move rfl rfl (wl_nilCheck rfl rfl ?_))))
 refine wl_fieldAddr rfl fo_67_4 rfl ?_
 refine wl_load rfl ag_4 (by first | assumption | exact hS.cell 0 rfl rfl) rfl ?_
 refine wl_nil (qs_seq ?_)
 refine wc_cond rfl (fun h1 => ?_) (fun h1 => ?_)
 ·have hd : D.down = true := h1
  refine wc_ret (qs_then_ret ?_)
  refine fin0 (.inr rfl) rfl ?_
  exact ⟨_, rfl, rfl, by rw [crashD, if_pos hd]; exact diskT_shut ⟨bf, bs, qv⟩ hI hS⟩
 have hd : D.down = false := h1
 refine wc_skip (qs_seq (wc_seq (wc_region (wl_move rfl rfl (wl_move rfl rfl (wl_nilCheck rfl rfl ?_))))))
 refine wl_fieldAddr rfl fo_67_4 rfl ?_
 first | (refine wl_store hS rfl rfl sz_4 (by first | rfl | assumption | exact hS.own_one 2 rfl) (i := 0) rfl (by first | decide | exact Nat.le_of_ble_eq_true rfl | (simp; done) | omega) ?_)
 intro w2 hS3; dsimp only [List.set] at hS3
 refine wl_nilCheck rfl rfl ?_
 refine wl_fieldAddr rfl fo_67_5 rfl ?_
 first | (refine wl_store hS3 rfl rfl sz_3 (by first | rfl | assumption | exact hS3.own_one 2 rfl) (i := 0) rfl (by first | decide | exact Nat.le_of_ble_eq_true rfl | (simp; done) | omega) ?_)
 intro w4 hS5; dsimp only [List.set] at hS5
 clear hS3
 refine wl_nil (qs_seq ?_)
 refine wc_sub (L' := [(0, _), (1, _)]) (.cons rfl (.cons rfl .nil)) ?_
 refine wc_seq (wc_seq (wc_region (wl_move rfl rfl (wl_nilCheck rfl rfl ?_))))
 refine wl_fieldAddr rfl fo_67_1 rfl ?_
 refine wl_load rfl ag_65 (by first | assumption | exact hS5.cell 0 rfl rfl) rfl ?_
 first | refine wl_lenL Tryz.underlying65 rfl rfl ?_ | refine wl_lenO 2 hS5 Tryz.underlying65 rfl rfl rfl ?_
 refine wl_move rfl rfl (wl_nil (qs_seq (wc_block ?_)))
 refine wc_loop (fun K0 E0 W0 => ∃ (i : Nat), K0 = D.Q.length - i ∧ E0 = [(0, ptrV p 0), (1, .slice ao ks.length capk), (23, qv), (24, intV (D.Q.length : Int)), (25, intV (i : Int))] ∧ Sat W0 [blkT p [.map (some bf), qv, .map (some bs), intV D.lost, .bool true, intV 0, kp], filesT bf (upto ks D.Q D.F i), ownT qv D.Q.length 2 (secV D.Q), setT bs D.Q, F] ∧ (i ≤ D.Q.length) ∧ (Small (upto ks D.Q D.F i))) (L0 := [(0, _), (1, _), (23, _), (24, _), (25, _)]) (D.Q.length) (.cons rfl (.cons rfl (.cons rfl (.cons rfl (.cons rfl .nil))))) ⟨0, by omega, rfl, hS5, by omega, ⟨hI.now, hI.last⟩⟩ ?_
 rintro _ _ w6 ⟨i, rfl, rfl, hS6, hi, hsm⟩
 refine wc_seq (wc_region ?_)
 refine wl_lss rfl rfl rfl ?_
 refine wl_nil (qs_seq (wc_seq ?_))
 refine wc_condD rfl (fun h7 => ?_) (fun h7 => ?_)
 ·obtain ⟨⟨q1, q2⟩, hq⟩ : ∃ q, D.Q[i]? = some q := ⟨_, List.getElem?_eq_getElem (by omega)⟩
  have hsec := hI.secs _ (List.mem_of_getElem? hq)
  refine wc_skip (qs_seq (wc_seq (wc_block (wc_seq (wc_region (wl_move rfl rfl ?_))))))
  refine wl_indexO 2 i hS6 rfl rfl rfl rfl (by omega) es_65 rfl ?_
  intro bq capq hv
  refine wl_loadO 2 hS6 rfl hv rfl ag_85 sz_85 (sec_at hq) rfl rfl ?_
  refine wl_alloc hS6 zr_85 rfl rfl ?_
  intro b8 w8 hS8
  clear hS6
  refine wl_assign rfl rfl ?_
  first | (refine wl_storeA hS8 rfl rfl sz_85 rfl (by first | rfl | (simp [allOne, Value.oneCell']; done) | assumption | exact hone) (i := 0) rfl (by first | decide | exact Nat.le_of_ble_eq_true rfl | (simp; done) | omega) ?_) | (refine wl_storeA hS8 rfl rfl sz_85 rfl (by first | rfl | (simp [allOne, Value.oneCell']; done) | assumption | exact hone) (i := 1) rfl (by first | decide | exact Nat.le_of_ble_eq_true rfl | (simp; done) | omega) ?_)
  intro w9 hS10; dsimp only [List.set] at hS10
  clear hS8
  refine wl_nil (qs_seq ?_)
  refine wc_sub (L' := [(4, _), (5, _), (0, _), (1, _), (23, _), (24, _), (25, _)]) (.cons rfl (.cons rfl (.cons rfl (.cons rfl (.cons rfl (.cons rfl (.cons rfl .nil))))))) ?_
  refine wc_seq ?_
  obtain ⟨g, hg, hS10⟩ := filesT_open (hS10.pull 2 rfl); dsimp only [List.eraseIdx] at hS10
  have hS11 := hS10.drew
  refine wc_draw [0, 1, 2, 3, 4, 5, 6, 7, 8, 9, 10, 11, 12] [10, 11] mix (by kernel_rfl) ?_
  refine vc_p rfl rfl rfl (fun _ => (ev_move rfl)) ?_
  refine vc_p rfl rfl rfl (fun _ => (ev_nilCheck rfl)) ?_
  refine vc_p rfl rfl rfl (fun _ => (ev_fieldAddr rfl fo_67_0)) ?_
  refine vc_q rfl rfl rfl (ev_load rfl ag_63 (by first | assumption | exact hS11.cell 1 rfl rfl | exact hS11.cell 2 rfl rfl)) ?_
  refine vc_p rfl rfl rfl (fun _ => (ev_fieldAddr rfl fo_85_0)) ?_
  refine vc_q rfl rfl rfl (ev_load rfl ag_3 (by first | assumption | exact hS11.cell 1 rfl rfl | exact hS11.cell 2 rfl rfl)) ?_
  refine vc_q rfl rfl rfl (ev_lookup 0 hS11 keysInt Tryz.underlying63 rfl rfl rfl zr_87 (hg _)) ?_
  refine vc_p rfl rfl rfl (fun _ => (ev_fieldAddr rfl fo_85_1)) ?_
  refine vc_q rfl rfl rfl (ev_load rfl ag_3 (by first | assumption | exact hS11.cell 1 rfl rfl | exact hS11.cell 2 rfl rfl)) ?_
  refine vc_p rfl rfl rfl (fun _ => (ev_mul rfl rfl (by omega) (by omega))) ?_
  refine vc_s rfl rfl rfl rfl rfl rfl ?_
  refine wl_alloc hS11 zr_87 rfl rfl ?_
  intro b12 w12 hS12
  clear hS11
  refine vc_e (.cons (.inl ⟨rfl, (ev_load rfl ag_3 (by first | assumption | exact hS12.cell 0 rfl rfl | exact hS12.cell 2 rfl rfl | exact hS12.cell 3 rfl rfl))⟩) (.cons (.inl ⟨rfl, (ev_lookup 1 hS12 keysInt Tryz.underlying63 rfl rfl rfl zr_87 (hg _))⟩) (.cons (.inl ⟨rfl, (ev_load rfl ag_3 (by first | assumption | exact hS12.cell 0 rfl rfl | exact hS12.cell 2 rfl rfl | exact hS12.cell 3 rfl rfl))⟩) (.cons (.inl ⟨rfl, (ev_load rfl ag_63 (by first | assumption | exact hS12.cell 0 rfl rfl | exact hS12.cell 2 rfl rfl | exact hS12.cell 3 rfl rfl))⟩) .nil)))) ?_
  refine vc_s rfl rfl rfl rfl rfl rfl ?_
  first | (refine wl_storeA hS12 rfl rfl sz_87 rfl (by first | rfl | (simp [allOne, Value.oneCell']; done) | assumption | exact hone) (i := 0) rfl (by first | decide | exact Nat.le_of_ble_eq_true rfl | (simp; done) | omega) ?_) | (refine wl_storeA hS12 rfl rfl sz_87 rfl (by first | rfl | (simp [allOne, Value.oneCell']; done) | assumption | exact hone) (i := 2) rfl (by first | decide | exact Nat.le_of_ble_eq_true rfl | (simp; done) | omega) ?_) | (refine wl_storeA hS12 rfl rfl sz_87 rfl (by first | rfl | (simp [allOne, Value.oneCell']; done) | assumption | exact hone) (i := 3) rfl (by first | decide | exact Nat.le_of_ble_eq_true rfl | (simp; done) | omega) ?_)
  intro w13 hS14; dsimp only [List.set] at hS14
  clear hS12
  refine vc_e0 (.cons (.inl ⟨rfl, (ev_load rfl ag_3 (by first | assumption | exact hS14.cell 0 rfl rfl | exact hS14.cell 2 rfl rfl | exact hS14.cell 3 rfl rfl))⟩) (.skip (by kernel_rfl) (.skip (by kernel_rfl) (.skip (by kernel_rfl) .nil)))) ?_
  refine vc_p rfl rfl rfl (fun _ => (ev_assign rfl)) ?_
  refine VC.nil (qs_seq ?_)
  refine wc_sub (L' := [(7, _), (6, _), (4, _), (5, _), (0, _), (1, _), (23, _), (24, _), (25, _)]) (.cons rfl (.cons rfl (.cons rfl (.cons rfl (.cons rfl (.cons rfl (.cons rfl (.cons rfl (.cons rfl .nil))))))))) ?_
  refine wc_seq (wc_seq (wc_region (wl_move rfl rfl ?_)))
  first | refine wl_lenL Tryz.underlying40 rfl rfl ?_ | refine wl_lenO 4 hS14 Tryz.underlying40 rfl rfl rfl ?_
  refine wl_eql rfl rfl rfl ?_
  refine wl_move rfl rfl ?_
  refine wl_splitD 43 rfl (fun h15 => ?_) (fun h15 => ?_)
  ·have hk0 : ks = [] := List.length_eq_zero_iff.1 (by omega)
   refine wl_unwanted rfl rfl (decide_eq_true h15) rfl ?_
   refine wl_unwanted rfl rfl (decide_eq_true h15) rfl ?_
   refine wl_unwanted rfl rfl (decide_eq_true h15) rfl ?_
   refine wl_unwanted rfl rfl (decide_eq_true h15) rfl ?_
   refine wl_unwanted rfl rfl (decide_eq_true h15) rfl ?_
   refine wl_unwanted rfl rfl (decide_eq_true h15) rfl ?_
   refine wl_unwanted rfl rfl (decide_eq_true h15) rfl ?_
   refine wl_unwanted rfl rfl (decide_eq_true h15) rfl ?_
   refine wl_unwanted rfl rfl (decide_eq_true h15) rfl ?_
   refine wl_pickT rfl (decide_eq_true h15) rfl rfl ?_
   refine wl_move rfl rfl ?_
   refine wl_unwanted rfl rfl rfl rfl ?_
   refine wl_unwanted rfl rfl rfl rfl ?_
   refine wl_unwanted rfl rfl rfl rfl ?_
   refine wl_unwanted rfl rfl rfl rfl ?_
   refine wl_unwanted rfl rfl rfl rfl ?_
   refine wl_pickT rfl rfl rfl rfl ?_
   refine wl_nil (qs_seq ?_)
   refine wc_sub (L' := [(60, _), (7, _), (6, _), (5, _), (0, _), (1, _), (23, _), (24, _), (25, _)]) (.cons rfl (.cons rfl (.cons rfl (.cons rfl (.cons rfl (.cons rfl (.cons rfl (.cons rfl (.cons rfl .nil))))))))) ?_
   refine wc_condT rfl ?_
   refine wc_exit (qs_then_exit (qs_block_exit (qs_seq (wc_region ?_))))
   refine wl_add rfl rfl (by omega) (by omega) rfl ?_
   refine wl_move rfl rfl (wl_nil ?_)
   have hu := upto_same (keep := ks) (F := D.F) hq (.inl (by simp [hk0]))
   exact qs_round (L1 := [(0, ptrV p 0), (1, _), (23, qv), (24, intV (D.Q.length : Int)), (25, intV ((i + 1 : Nat) : Int))]) (.cons rfl (.cons rfl (.cons rfl (.cons rfl (.cons rfl .nil))))) (k1 := D.Q.length - (i + 1)) (by omega) ⟨i + 1, by omega, rfl, cr_same hu hg hS14, by omega, by rw [hu]; exact hsm⟩
  have hkl : 0 < ks.length := by omega
  obtain ⟨x, hx⟩ : ∃ x, ks[i % ks.length]? = some x := ⟨_, List.getElem?_eq_getElem (Nat.mod_lt _ hkl)⟩
  have hkx : ks.getD (i % ks.length) 0 = x := by simp [List.getD_eq_getElem?_getD, hx]
  obtain ⟨bk, ok, rfl, hcell⟩ := (hK.sat hS14 6 rfl).get hx
  refine wl_guard rfl rfl (decide_eq_false h15) ?_
  refine wl_move rfl rfl ?_
  refine wl_guard rfl rfl (decide_eq_false h15) ?_
  refine wl_move rfl rfl ?_
  refine wl_guard rfl rfl (decide_eq_false h15) ?_
  refine wl_move rfl rfl ?_
  refine wl_guard rfl rfl (decide_eq_false h15) ?_
  first | refine wl_lenL Tryz.underlying40 rfl rfl ?_ | refine wl_lenO 4 hS14 Tryz.underlying40 rfl rfl rfl ?_
  refine wl_guard rfl rfl (decide_eq_false h15) ?_
  refine wl_rem rfl rfl (by omega) (by omega) rfl ?_
  refine wl_guard rfl rfl (decide_eq_false h15) ?_
  refine wl_indexAddr (i % ks.length) rfl rfl (by first | rfl | omega) (by exact Nat.mod_lt _ hkl) es_40 rfl ?_
  refine wl_guard rfl rfl (decide_eq_false h15) ?_
  refine wl_load rfl ag_3 (by first | assumption | exact hS14.cell 0 rfl rfl | exact hS14.cell 2 rfl rfl | exact hS14.cell 3 rfl rfl) rfl ?_
  refine wl_guard rfl rfl (decide_eq_false h15) ?_
  refine wl_mask 1 rfl rfl rfl rfl (q := 2) rfl rfl ?_
  refine wl_guard rfl rfl (decide_eq_false h15) ?_
  refine wl_eql rfl rfl rfl ?_
  refine wl_pickF rfl (decide_eq_false h15) rfl rfl ?_
  refine wl_move rfl rfl ?_
  refine wl_splitD 54 rfl (fun h16 => ?_) (fun h16 => ?_)
  ·refine wl_unwanted rfl rfl (decide_eq_true h16) rfl ?_
   refine wl_unwanted rfl rfl (decide_eq_true h16) rfl ?_
   refine wl_unwanted rfl rfl (decide_eq_true h16) rfl ?_
   refine wl_unwanted rfl rfl (decide_eq_true h16) rfl ?_
   refine wl_unwanted rfl rfl (decide_eq_true h16) rfl ?_
   refine wl_pickT rfl (decide_eq_true h16) rfl rfl ?_
   refine wl_nil (qs_seq ?_)
   refine wc_sub (L' := [(60, _), (7, _), (6, _), (5, _), (0, _), (1, _), (23, _), (24, _), (25, _)]) (.cons rfl (.cons rfl (.cons rfl (.cons rfl (.cons rfl (.cons rfl (.cons rfl (.cons rfl (.cons rfl .nil))))))))) ?_
   refine wc_condT rfl ?_
   refine wc_exit (qs_then_exit (qs_block_exit (qs_seq (wc_region ?_))))
   refine wl_add rfl rfl (by omega) (by omega) rfl ?_
   refine wl_move rfl rfl (wl_nil ?_)
   have hu := upto_same (keep := ks) (F := D.F) hq (.inl (by rw [hkx]; omega))
   exact qs_round (L1 := [(0, ptrV p 0), (1, _), (23, qv), (24, intV (D.Q.length : Int)), (25, intV ((i + 1 : Nat) : Int))]) (.cons rfl (.cons rfl (.cons rfl (.cons rfl (.cons rfl .nil))))) (k1 := D.Q.length - (i + 1)) (by omega) ⟨i + 1, by omega, rfl, cr_same hu hg hS14, by omega, by rw [hu]; exact hsm⟩
  refine wl_guard rfl rfl (decide_eq_false h16) ?_
  refine wl_move rfl rfl ?_
  refine wl_guard rfl rfl (decide_eq_false h16) ?_
  refine wl_fieldAddr rfl fo_87_0 rfl ?_
  refine wl_guard rfl rfl (decide_eq_false h16) ?_
  refine wl_load rfl ag_9 (by first | assumption | exact hS14.cell 0 rfl rfl | exact hS14.cell 2 rfl rfl | exact hS14.cell 3 rfl rfl) rfl ?_
  refine wl_guard rfl rfl (decide_eq_false h16) ?_
  refine wl_lenS Tryz.underlying9 rfl rfl ?_
  refine wl_guard rfl rfl (decide_eq_false h16) ?_
  refine wl_geq rfl rfl rfl ?_
  refine wl_pickF rfl (decide_eq_false h16) rfl rfl ?_
  refine wl_nil (qs_seq ?_)
  refine wc_sub (L' := [(60, _), (7, _), (6, _), (5, _), (0, _), (1, _), (23, _), (24, _), (25, _)]) (.cons rfl (.cons rfl (.cons rfl (.cons rfl (.cons rfl (.cons rfl (.cons rfl (.cons rfl (.cons rfl .nil))))))))) ?_
  refine wc_condD rfl (fun h17 => ?_) (fun h17 => ?_)
  ·refine wc_exit (qs_then_exit (qs_block_exit (qs_seq (wc_region ?_))))
   refine wl_add rfl rfl (by omega) (by omega) rfl ?_
   refine wl_move rfl rfl (wl_nil ?_)
   have hu := upto_same (keep := ks) (F := D.F) hq (.inr (by dsimp only; omega))
   exact qs_round (L1 := [(0, ptrV p 0), (1, _), (23, qv), (24, intV (D.Q.length : Int)), (25, intV ((i + 1 : Nat) : Int))]) (.cons rfl (.cons rfl (.cons rfl (.cons rfl (.cons rfl .nil))))) (k1 := D.Q.length - (i + 1)) (by omega) ⟨i + 1, by omega, rfl, cr_same hu hg hS14, by omega, by rw [hu]; exact hsm⟩
  refine wc_skip (qs_seq (wc_seq ?_))
  have hkn : ks ≠ [] := by intro e; simp [e] at hkl
  obtain ⟨a, ha⟩ : ∃ a : Nat, q2 * 64 = a := ⟨(q2 * 64).toNat, by omega⟩
  obtain ⟨B, hB⟩ : ∃ B : Nat, min (q2 * 64 + 64) ((upto ks D.Q D.F i q1).1.length : Int) = B := ⟨(min (q2 * 64 + 64) ((upto ks D.Q D.F i q1).1.length : Int)).toNat, by omega⟩
  have hcut : ((upto ks D.Q D.F i q1).1.take B).drop a = cut64 (upto ks D.Q D.F i q1).1 a := cut_eq (by omega)
  have hu := upto_put (F := D.F) hq hkn (by rw [hkx]; omega) (a := a) (by simp; omega) (by simp; omega)
  dsimp only at hu; rw [← hcut] at hu
  have hfit := cut_le2 (upto ks D.Q D.F i q1).1 a (by omega)
  have hnow := hsm.now q1
  have hS18 := hS14.drew
  refine wc_draw [0, 1, 2, 3, 4, 5, 6, 7, 8, 9, 10, 11, 12, 13, 14, 15] [13, 15] mix (by kernel_rfl) ?_
  refine vc_p rfl rfl rfl (fun _ => (ev_fieldAddr rfl fo_87_1)) ?_
  refine vc_q rfl rfl rfl (ev_load rfl ag_9 (by first | assumption | exact hS18.cell 0 rfl rfl | exact hS18.cell 2 rfl rfl | exact hS18.cell 3 rfl rfl)) ?_
  refine vc_p rfl rfl rfl (fun _ => (ev_move rfl)) ?_
  refine vc_p rfl rfl rfl (fun _ => (ev_fieldAddr rfl fo_87_0)) ?_
  refine vc_q rfl rfl rfl (ev_load rfl ag_9 (by first | assumption | exact hS18.cell 0 rfl rfl | exact hS18.cell 2 rfl rfl | exact hS18.cell 3 rfl rfl)) ?_
  refine vc_p rfl rfl rfl (fun _ => (ev_move rfl)) ?_
  refine vc_p rfl rfl rfl (fun _ => (ev_move rfl)) ?_
  refine vc_p rfl rfl rfl (fun _ => (ev_add rfl rfl (by omega) (by omega))) ?_
  refine vc_p rfl rfl rfl (fun _ => (ev_fieldAddr rfl fo_87_0)) ?_
  refine vc_q rfl rfl rfl (ev_load rfl ag_9 (by first | assumption | exact hS18.cell 0 rfl rfl | exact hS18.cell 2 rfl rfl | exact hS18.cell 3 rfl rfl)) ?_
  refine vc_p rfl rfl rfl (fun _ => (ev_lenS Tryz.underlying9 rfl)) ?_
  refine vc_p rfl rfl rfl (fun _ => (ev_minI rfl rfl)) ?_
  refine vc_p rfl rfl rfl (fun _ => (ev_sliceS a B Tryz.underlying9 rfl (bndS a _ rfl ha) (bndS B _ rfl hB) (by omega) (by omega))) ?_
  refine vc_s rfl rfl rfl rfl rfl rfl ?_
  have hC19 := hS18.split [] [false, false, false, false, false, false, false] rfl; dsimp only [selF, pickA, nthA, List.cons_append, List.nil_append] at hC19
  refine wl_call cal_53 rfl (put_sp' hC19 _ _ a ha (hsm.last _) (by rw [hcut]; have := cut_le (upto ks D.Q D.F i q1).1 a; omega)) rfl ?_
  rintro e w19 ⟨_, rfl, rfl, hS19⟩; refine ⟨_, rfl, ?_⟩
  replace hS19 := hS19.join rfl; dsimp only [List.dropLast, List.cons_append, List.nil_append] at hS19; clear hC19
  clear hS18
  refine vc_e (.skip (by kernel_rfl) (.skip (by kernel_rfl) (.skip (by kernel_rfl) .nil))) ?_
  refine vc_p rfl rfl rfl (fun _ => (ev_fieldAddr rfl fo_87_1)) ?_
  refine vc_s rfl rfl rfl rfl rfl rfl ?_
  first | (refine wl_store hS19 rfl rfl sz_9 (by first | rfl | assumption | exact hS19.own_one 4 rfl) (i := 0) rfl (by first | decide | exact Nat.le_of_ble_eq_true rfl | (simp; done) | omega) ?_) | (refine wl_store hS19 rfl rfl sz_9 (by first | rfl | assumption | exact hS19.own_one 4 rfl) (i := 2) rfl (by first | decide | exact Nat.le_of_ble_eq_true rfl | (simp; done) | omega) ?_) | (refine wl_store hS19 rfl rfl sz_9 (by first | rfl | assumption | exact hS19.own_one 4 rfl) (i := 3) rfl (by first | decide | exact Nat.le_of_ble_eq_true rfl | (simp; done) | omega) ?_)
  intro w20 hS21; dsimp only [List.set] at hS21
  clear hS19
  refine vc_e0 (.skip (by kernel_rfl) (.skip (by kernel_rfl) (.skip (by kernel_rfl) .nil))) ?_
  refine VC.nil (qs_seq ?_)
  refine wc_sub (L' := [(6, _), (5, _), (0, _), (1, _), (23, _), (24, _), (25, _)]) (.cons rfl (.cons rfl (.cons rfl (.cons rfl (.cons rfl (.cons rfl (.cons rfl .nil))))))) ?_
  have hS22 := hS21.drew
  refine wc_draw [0, 1, 2, 3, 4, 5, 6, 7] [7] mix (by kernel_rfl) ?_
  refine vc_p rfl rfl rfl (fun _ => (ev_move rfl)) ?_
  refine vc_p rfl rfl rfl (fun _ => (ev_nilCheck rfl)) ?_
  refine vc_p rfl rfl rfl (fun _ => (ev_fieldAddr rfl fo_67_0)) ?_
  refine vc_q rfl rfl rfl (ev_load rfl ag_63 (by first | assumption | exact hS22.cell 0 rfl rfl | exact hS22.cell 2 rfl rfl | exact hS22.cell 3 rfl rfl)) ?_
  refine vc_p rfl rfl rfl (fun _ => (ev_fieldAddr rfl fo_85_0)) ?_
  refine vc_q rfl rfl rfl (ev_load rfl ag_3 (by first | assumption | exact hS22.cell 0 rfl rfl | exact hS22.cell 2 rfl rfl | exact hS22.cell 3 rfl rfl)) ?_
  refine vc_q rfl rfl rfl (ev_loadA rfl ag_87 sz_87 (by first | exact hS22.blk 0 rfl | exact hS22.blk 2 rfl | exact hS22.blk 3 rfl) (by first | decide | exact Nat.le_of_ble_eq_true rfl | (simp; done) | omega) rfl) ?_
  refine vc_s rfl rfl rfl rfl rfl rfl ?_
  first | refine wl_mapUpdate 1 hS22 keysInt Tryz.underlying63 rfl rfl rfl rfl ?_
  intro w23 hS23; dsimp only [List.set] at hS23
  clear hS22
  refine vc_e0 (.skip (by kernel_rfl) (.skip (by kernel_rfl) (.skip (by kernel_rfl) .nil))) ?_
  refine VC.nil (qs_block_normal (qs_seq ?_))
  refine wc_sub (L' := [(0, _), (1, _), (23, _), (24, _), (25, _)]) (.cons rfl (.cons rfl (.cons rfl (.cons rfl (.cons rfl .nil))))) ?_
  refine wc_region ?_
  refine wl_add rfl rfl (by omega) (by omega) rfl ?_
  refine wl_move rfl rfl (wl_nil ?_)
  exact qs_round (L1 := [(0, ptrV p 0), (1, _), (23, qv), (24, intV (D.Q.length : Int)), (25, intV ((i + 1 : Nat) : Int))]) (.cons rfl (.cons rfl (.cons rfl (.cons rfl (.cons rfl .nil))))) (k1 := D.Q.length - (i + 1)) (by omega) ⟨i + 1, by omega, rfl, cr_put hu hg hS23, by omega, by rw [hu]; exact hsm.set _ (putB_le (hsm.last _) (by rw [hcut]; omega))⟩
 refine wc_exit (qs_then_exit (qs_then_exit (qs_block_exit (qs_seq (wc_seq (wc_seq ?_))))))
 obtain ⟨g, hg, hS6⟩ := filesT_open (hS6.pull 1 rfl); dsimp only [List.eraseIdx] at hS6
 refine wc_region (wl_move rfl rfl (wl_nilCheck rfl rfl ?_))
 refine wl_fieldAddr rfl fo_67_0 rfl ?_
 refine wl_load rfl ag_63 (by first | assumption | exact hS6.cell 1 rfl rfl) rfl ?_
 refine wl_range 0 hS6 Tryz.underlying63 rfl rfl rfl ?_
 intro r24 left24 w24 hS24; dsimp only [List.set] at hS24
 clear hS6
 refine wl_nil (qs_seq ?_)
 refine wc_sub (L' := [(88, _), (0, _)]) (.cons rfl (.cons rfl .nil)) ?_
 refine wc_block ?_
 have hg0 := hg; obtain ⟨RR, rfl⟩ : ∃ R, R = r24 := ⟨_, rfl⟩; obtain ⟨g0, rfl⟩ : ∃ g0, g0 = g := ⟨_, rfl⟩
 refine wc_loop (fun K0 E0 W0 => ∃ (g : Int → Option Value) (dn : Int → Prop) (cur : Option Int) (left : Nat), K0 = left ∧ E0 = [(0, ptrV p 0), (88, ptrV RR 0)] ∧ Sat W0 [rangeT intK bf RR g dn cur left, blkT p [.map (some bf), qv, .map (some bs), intV D.lost, .bool true, intV 0, kp], ownT qv D.Q.length 2 (secV D.Q), setT bs D.Q, F] ∧ (Cr (upto ks D.Q D.F i) g0 g dn)) (L0 := [(0, _), (88, _)]) (left24) (.cons rfl (.cons rfl .nil)) ⟨g0, _, _, _, rfl, rfl, hS24, fun k => ⟨Iff.rfl, fun h => h.elim, fun _ => rfl⟩⟩ ?_
 rintro _ _ w25 ⟨g, dn, cur, left, rfl, rfl, hS25, hcr⟩
 refine wc_seq (wc_region ?_)
 refine wl_next 0 hS25 keysInt.inj rfl rfl rfl (fun hdone => ?_) (fun k v left2 w2 hleft hgk hnd hS2 => ?_)
 ·refine wl_extract rfl rfl rfl (wl_nil (qs_seq (wc_seq ?_)))
  refine wc_condF rfl ?_
  refine wc_exit (qs_then_exit (qs_then_exit (qs_block_exit (qs_seq (wc_region (wl_move rfl rfl (wl_move rfl rfl ?_)))))))
  refine wl_makeMap pairK hS25 rfl ?_
  intro b26 w26 hS26
  clear hS25
  refine wl_nilCheck rfl rfl ?_
  refine wl_fieldAddr rfl fo_67_1 rfl ?_
  first | (refine wl_store hS26 rfl rfl sz_65 (by first | rfl | assumption | exact hS26.own_one 3 rfl) (i := 2) rfl (by first | decide | exact Nat.le_of_ble_eq_true rfl | (simp; done) | omega) ?_)
  intro w27 hS28; dsimp only [List.set] at hS28
  clear hS26
  refine wl_nilCheck rfl rfl ?_
  refine wl_fieldAddr rfl fo_67_2 rfl ?_
  first | (refine wl_store hS28 rfl rfl sz_64 (by first | rfl | assumption | exact hS28.own_one 3 rfl) (i := 2) rfl (by first | decide | exact Nat.le_of_ble_eq_true rfl | (simp; done) | omega) ?_)
  intro w29 hS30; dsimp only [List.set] at hS30
  clear hS28
  refine wl_nil ?_
  refine fin0 (.inl rfl) rfl ?_
  exact ⟨_, rfl, rfl, crash_end hI hd (by omega) hsm (hcr.done hg0 hdone) hS30⟩
 dsimp only [List.set] at hS2; obtain rfl := hcr.val hg0 hnd hgk
 refine wl_extract rfl rfl rfl (wl_nil (qs_seq (wc_seq ?_)))
 refine wc_condT rfl ?_
 refine wc_skip (qs_seq (wc_block (wc_seq (wc_region ?_))))
 refine wl_entry 0 hS2 rfl hgk rfl rfl ?_
 refine wl_extract rfl rfl rfl (wl_extract rfl rfl rfl ?_)
 refine wl_alloc hS2 zr_87 rfl rfl ?_
 intro b31 w31 hS31
 clear hS2
 refine wl_assign rfl rfl ?_
 first | (refine wl_storeA hS31 rfl rfl sz_87 rfl (by first | rfl | (simp [allOne, Value.oneCell']; done) | assumption | exact hone) (i := 0) rfl (by first | decide | exact Nat.le_of_ble_eq_true rfl | (simp; done) | omega) ?_) | (refine wl_storeA hS31 rfl rfl sz_87 rfl (by first | rfl | (simp [allOne, Value.oneCell']; done) | assumption | exact hone) (i := 2) rfl (by first | decide | exact Nat.le_of_ble_eq_true rfl | (simp; done) | omega) ?_)
 intro w32 hS33; dsimp only [List.set] at hS33
 clear hS31
 refine wl_nil (qs_seq ?_)
 have hS34 := hS33.drew
 refine wc_draw [0, 1, 2, 3, 4, 5, 6, 7, 8, 9, 10] [10] mix (by kernel_rfl) ?_
 refine vc_p rfl rfl rfl (fun _ => (ev_move rfl)) ?_
 refine vc_p rfl rfl rfl (fun _ => (ev_nilCheck rfl)) ?_
 refine vc_p rfl rfl rfl (fun _ => (ev_fieldAddr rfl fo_67_0)) ?_
 refine vc_q rfl rfl rfl (ev_load rfl ag_63 (by first | assumption | exact hS34.cell 0 rfl rfl | exact hS34.cell 2 rfl rfl)) ?_
 refine vc_p rfl rfl rfl (fun _ => (ev_move rfl)) ?_
 refine vc_p rfl rfl rfl (fun _ => (ev_fieldAddr rfl fo_87_1)) ?_
 refine vc_q rfl rfl rfl (ev_load rfl ag_9 (by first | assumption | exact hS34.cell 0 rfl rfl | exact hS34.cell 2 rfl rfl)) ?_
 refine vc_p rfl rfl rfl (fun _ => (ev_fieldAddr rfl fo_87_1)) ?_
 refine vc_q rfl rfl rfl (ev_load rfl ag_9 (by first | assumption | exact hS34.cell 0 rfl rfl | exact hS34.cell 2 rfl rfl)) ?_
 refine vc_p rfl rfl rfl (fun _ => (ev_buildS rfl pl_87_0_1 asz_87 zr_87 rfl)) ?_
 refine vc_s rfl rfl rfl rfl rfl rfl ?_
 refine wl_mapUpdateR (k := k) 1 hS34 keysInt Tryz.underlying63 rfl hgk rfl rfl rfl ?_
 intro w13 hS13; dsimp only [List.set] at hS13
 refine vc_e0 (.skip (by kernel_rfl) (.skip (by kernel_rfl) (.skip (by kernel_rfl) .nil))) ?_
 refine VC.nil (qs_block_normal ?_)
 exact qs_round (L1 := [(0, ptrV p 0), (88, ptrV RR 0)]) (.cons rfl (.cons rfl .nil)) (k1 := left2) (by omega) ⟨_, _, _, _, rfl, rfl, hS13.tail, hcr.step hnd hgk⟩
end Go.Proofs.YtfmkodmmbgibgaaGreatDoor
