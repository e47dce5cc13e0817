/- disk: writing -/
import Derived.Test.YtleaahajkncnpaaDoorDa
namespace Go.Proofs.YtleaahajkncnpaaDoor
open Go.RowKit M
set_option linter.unusedVariables false
theorem secV_length (Q : List (Int × Int)) : (secV Q).length = Q.length * 2 := by
  induction Q with
  | nil => rfl
  | cons p Q ih => simp only [secV, List.flatMap_cons, List.length_append, List.length_cons, List.length_nil] at ih ⊢; omega
theorem secV_snoc (Q : List (Int × Int)) (p : Int × Int) : secV Q ++ [intV p.1, intV p.2] = secV (Q ++ [p]) := by simp [secV]
theorem SaysF_set {g : Int → Option Value} {F : Int → Bytes × Bytes} (h : SaysF g F) (f : Int) (x : Bytes × Bytes) : SaysF (upd g f (some (fileV x))) (setF F f x) := by
  intro k
  by_cases hk : k = f
  · subst hk; simp [upd_self, setF]
  · rw [upd_ne hk, h k]; simp [setF, hk]
theorem pend_step (f : Int) (k : Nat) : ∀ (n : Int) (Q : List (Int × Int)), pend f (k + 1) n Q = (let Q' := pend f k n Q; if (f, n + k) ∈ Q' then Q' else Q' ++ [(f, n + k)]) := by
  induction k with
  | zero => intro n Q; simp [pend]
  | succ k ih =>
    intro n Q
    rw [pend, ih]
    simp only [pend]
    rw [show n + 1 + (k : Int) = n + ((k + 1 : Nat) : Int) by omega]
    rfl
theorem pend_bound (f : Int) (hf : 0 ≤ f ∧ f < 16) : ∀ (k : Nat) (n : Int) (Q : List (Int × Int)), 0 ≤ n → n + k ≤ 262145 → (∀ p ∈ Q, (0 ≤ p.1 ∧ p.1 < 16) ∧ 0 ≤ p.2 ∧ p.2 ≤ 262144) → Q.Nodup → (∀ p ∈ pend f k n Q, (0 ≤ p.1 ∧ p.1 < 16) ∧ 0 ≤ p.2 ∧ p.2 ≤ 262144) ∧ (pend f k n Q).Nodup
  | 0, n, Q, _, _, h1, h2 => ⟨h1, h2⟩
  | k + 1, n, Q, h0, hn, h1, h2 => by
    simp only [pend]
    refine pend_bound f hf k (n + 1) _ (by omega) (by omega) ?_ ?_
    · intro p hp
      split at hp
      · exact h1 p hp
      · rcases List.mem_append.1 hp with hp | hp
        · exact h1 p hp
        · simp only [List.mem_singleton] at hp; subst hp; exact ⟨hf, by simp; omega⟩
    · split
      · exact h2
      · rename_i hn'
        exact List.nodup_append.2 ⟨h2, by simp, by intro a ha b hb; simp only [List.mem_singleton] at hb; subst hb; intro e; subst e; exact hn' ha⟩
/-- no more than 4194320 sectors are pending -/
theorem sec_count {Q : List (Int × Int)} (h : ∀ p ∈ Q, (0 ≤ p.1 ∧ p.1 < 16) ∧ 0 ≤ p.2 ∧ p.2 ≤ 262144) (hn : Q.Nodup) : Q.length ≤ 4194320 := by
  have hm : (Q.map fun p => (p.1 * 262145 + p.2).toNat).Nodup := by
    refine List.pairwise_map.2 (hn.imp_of_mem ?_)
    intro a b ha hb hne e
    apply hne
    have h1 := h a ha; have h2 := h b hb
    have : a.1 * 262145 + a.2 = b.1 * 262145 + b.2 := by omega
    have e1 : a.1 = b.1 := by omega
    have e2 : a.2 = b.2 := by omega
    exact Prod.ext e1 e2
  have hs : ∀ x ∈ Q.map (fun p => (p.1 * 262145 + p.2).toNat), x ∈ List.range 4194320 := by
    intro x hx
    obtain ⟨p, hp, rfl⟩ := List.mem_map.1 hx
    have := h p hp
    simp; omega
  have := List.Nodup.length_le_of_subset hm hs
  simpa using this
theorem may_ok {D : DS} {f : Int} (h : mayE D f = 0) : 0 ≤ f ∧ f < 16 := by
  unfold mayE at h; split at h
  · cases h
  · split at h
    · cases h
    · omega
theorem Dback {w : World} {p bf bs : Nat} {kp qv : Value} {D : DS} {g : Int → Option Value} {F : Th} (hI : DInv D) (hg : SaysF g D.F) (h : Sat w [mapT intK bf g, blkT p (cellsD ⟨bf, bs, qv⟩ kp D), ownT qv D.Q.length 2 (secV D.Q), setT bs D.Q, F]) : Sat w [diskT p kp D, F] :=
  diskT_shut ⟨bf, bs, qv⟩ hI ((filesT_shut g hg h).reorder [1, 0, 2, 3, 4] rfl)
theorem set_val {Q : List (Int × Int)} {gs : Int × Int → Option Value} (hgs : ∀ p, gs p = if p ∈ Q then some (.bool true) else none) (x : Int × Int) : (gs x).getD (.bool false) = .bool (decide (x ∈ Q)) := by
  rw [hgs]; by_cases h : x ∈ Q <;> simp [h]
theorem wfull {w : World} {p bf bs : Nat} {kp qv : Value} {D : DS} {g : Int → Option Value} {F : Th} {f at_ : Int} {s : Bytes} (hI : DInv D) (hg : SaysF g D.F) (hm : mayE D f = 0) (hat : 0 ≤ at_) (hx : 16777216 < at_ ∨ 16777216 - at_ < s.length) (h : Sat w [mapT intK bf g, blkT p (cellsD ⟨bf, bs, qv⟩ kp D), ownT qv D.Q.length 2 (secV D.Q), setT bs D.Q, F]) : Ret (fun v w' => v = intV (writeE D f at_ s) ∧ Sat w' [diskT p kp (writeD D f at_ s), F]) (.returned (intV 6)) w := by
  have e : writeE D f at_ s = 6 := by simp only [writeE]; rw [if_neg (by simp [hm]), if_neg (by omega), if_pos hx]
  exact ⟨_, rfl, by rw [e], by rw [writeD, if_neg (by rw [e]; decide)]; exact Dback hI hg h⟩
theorem wnone {w : World} {p bf bs : Nat} {kp qv : Value} {D : DS} {g : Int → Option Value} {F : Th} {f at_ : Int} {s : Bytes} (hI : DInv D) (hg : SaysF g D.F) (hm : mayE D f = 0) (hat : 0 ≤ at_) (hx : ¬ (16777216 < at_ ∨ 16777216 - at_ < s.length)) (hs : s = []) (h : Sat w [mapT intK bf g, blkT p (cellsD ⟨bf, bs, qv⟩ kp D), ownT qv D.Q.length 2 (secV D.Q), setT bs D.Q, F]) : Ret (fun v w' => v = intV (writeE D f at_ s) ∧ Sat w' [diskT p kp (writeD D f at_ s), F]) (.returned (intV 0)) w := by
  have e : writeE D f at_ s = 0 := by simp only [writeE]; rw [if_neg (by simp [hm]), if_neg (by omega), if_neg hx]
  exact ⟨_, rfl, by rw [e], by rw [writeD, if_pos e, addD, if_pos hs]; exact Dback hI hg h⟩

theorem wstart {w : World} {p bf bs : Nat} {kp qv : Value} {D : DS} {g : Int → Option Value} {F X : Th} {f : Int} {a : Nat} {s : Bytes} (hg : SaysF g D.F) (h : Sat w [X, mapT intK bf (upd g f (some (fileV (putB (D.F f).1 a s, (D.F f).2)))), blkT p (cellsD ⟨bf, bs, qv⟩ kp D), ownT qv D.Q.length 2 (secV D.Q), setT bs D.Q, F]) :
    Sat w [blkT p [.map (some bf), qv, .map (some bs), intV D.lost, .bool D.down, intV D.armed, kp], filesT bf (setF D.F f (putB (D.F f).1 a s, (D.F f).2)), ownT qv (pend f 0 ((a : Int) / 64) D.Q).length 2 (secV (pend f 0 ((a : Int) / 64) D.Q)), setT bs (pend f 0 ((a : Int) / 64) D.Q), F] :=
  (filesT_shut _ (SaysF_set hg f _) h.tail).reorder [1, 0, 2, 3, 4] rfl
theorem wround_old {w : World} {p bf bs : Nat} {C : List Value} {qv : Value} {Q : List (Int × Int)} {G : Int → Bytes × Bytes} {gs : Int × Int → Option Value} {F X : Th} {f n : Int} {j : Nat} (hgs : ∀ p, gs p = if p ∈ pend f j n Q then some (.bool true) else none) (hold : (f, n + j) ∈ pend f j n Q) (h : Sat w [X, mapT pairK bs gs, blkT p C, filesT bf G, ownT qv (pend f j n Q).length 2 (secV (pend f j n Q)), F]) :
    Sat w [blkT p C, filesT bf G, ownT qv (pend f (j + 1) n Q).length 2 (secV (pend f (j + 1) n Q)), setT bs (pend f (j + 1) n Q), F] := by
  rw [pend_step, if_pos hold]
  exact (setT_shut gs hgs h.tail).reorder [1, 2, 3, 0, 4] rfl
theorem wround_new {w : World} {p bf bs : Nat} {C : List Value} {qv : Value} {Q : List (Int × Int)} {G : Int → Bytes × Bytes} {gs : Int × Int → Option Value} {F X Y : Th} {f n : Int} {j : Nat} (hgs : ∀ p, gs p = if p ∈ pend f j n Q then some (.bool true) else none) (hnew : (f, n + j) ∉ pend f j n Q) (h : Sat w [Y, X, mapT pairK bs (upd gs (f, n + j) (some (.bool true))), blkT p C, filesT bf G, ownT qv ((pend f j n Q).length + 1) 2 (secV (pend f j n Q) ++ [intV f, intV (n + j)]), F]) :
    Sat w [blkT p C, filesT bf G, ownT qv (pend f (j + 1) n Q).length 2 (secV (pend f (j + 1) n Q)), setT bs (pend f (j + 1) n Q), F] := by
  rw [pend_step, if_neg hnew, ← secV_snoc, List.length_append]
  refine (setT_shut (Q := pend f j n Q ++ [(f, n + j)]) (upd gs (f, n + j) (some (.bool true))) ?_ h.tail.tail).reorder [1, 2, 3, 0, 4] rfl
  intro x
  by_cases hx : x = (f, n + j)
  · subst hx; simp [upd_self]
  · rw [upd_ne hx, hgs]; simp [hx]
theorem wdone {w : World} {p bf bs N j : Nat} {kp qv : Value} {D : DS} {gs : Int × Int → Option Value} {F : Th} {f : Int} {a : Nat} {s : Bytes} (hI : DInv D) (hm : mayE D f = 0) (hf : 0 ≤ f ∧ f < 16) (hx : ¬ (16777216 < (a : Int) ∨ 16777216 - (a : Int) < s.length)) (hs : s ≠ []) (hput : (putB (D.F f).1 a s).length ≤ 16777216) (hN : N = (((a : Int) + s.length - 1) / 64 - (a : Int) / 64 + 1).toNat) (hj : j ≤ N) (hend : ¬ (a : Int) / 64 + j ≤ ((a : Int) + s.length - 1) / 64)
    (hgs : ∀ p, gs p = if p ∈ pend f j ((a : Int) / 64) D.Q then some (.bool true) else none)
    (h : Sat w [mapT pairK bs gs, blkT p [.map (some bf), qv, .map (some bs), intV D.lost, .bool D.down, intV D.armed, kp], filesT bf (setF D.F f (putB (D.F f).1 a s, (D.F f).2)), ownT qv (pend f j ((a : Int) / 64) D.Q).length 2 (secV (pend f j ((a : Int) / 64) D.Q)), F]) :
    Ret (fun v w' => v = intV (writeE D f a s) ∧ Sat w' [diskT p kp (writeD D f a s), F]) (.returned (intV 0)) w := by
  have hlen : 0 < s.length := List.length_pos_iff.2 hs
  have hjN : j = N := by omega
  subst hjN
  have e : writeE D f a s = 0 := by simp only [writeE]; rw [if_neg (by simp [hm]), if_neg (by omega), if_neg hx]
  have hpb := pend_bound f hf j ((a : Int) / 64) D.Q (by omega) (by omega) hI.secs hI.nodup
  have eD : writeD D f a s = { D with F := setF D.F f (putB (D.F f).1 a s, (D.F f).2), Q := pend f j ((a : Int) / 64) D.Q } := by
    rw [writeD, if_pos e, addD, if_neg hs, hN]; simp
  refine ⟨_, rfl, by rw [e], ?_⟩
  rw [eD]
  refine diskT_shut ⟨bf, bs, qv⟩ ?_ ((setT_shut gs hgs h).reorder [1, 2, 3, 0, 4] rfl)
  refine { hI with now := fun k => ?_, last := fun k => ?_, nodup := hpb.2, secs := hpb.1 }
  · simp only [setF]; split
    · exact hput
    · exact hI.now k
  · simp only [setF]; split
    · exact hI.last f
    · exact hI.last k

set_option maxRecDepth 100000 in
theorem write_sp {w : World} {p : Nat} {kp : Value} {D : DS} {F : Th} (hS : Sat w [diskT p kp D, F]) (f at_ : Int) (s : Bytes) :
    Calls Tryd.prog 35 #[ptrV p 0, intV f, intV at_, strV s] w (Ret fun v w' => v = intV (writeE D f at_ s) ∧ Sat w' [diskT p kp (writeD D f at_ s), F]) := by
  have hS0 := hS
  obtain ⟨⟨bf, bs, qv⟩, hI, hS⟩ := diskT_open hS; dsimp only at hS
  obtain ⟨g, hg, hS⟩ := filesT_open (hS.pull 1 rfl); dsimp only [List.eraseIdx] at hS
  refine calls_enter Tryd.func35 rfl Tryd.ntmps35 rfl ?_
  refine wc_seq ?_
  refine wc_region ?_
  refine wl_assign rfl rfl ?_
  refine wl_nil ?_
  refine qs_seq ?_
  refine wc_seq ?_
  refine wc_seq ?_
  refine wc_region ?_
  refine wl_move rfl rfl ?_
  refine wl_move rfl rfl ?_
  refine wl_call cal_47 rfl (may_sp (hS0) f) rfl ?_
  rintro e _ ⟨_, rfl, rfl, rfl⟩; refine ⟨_, rfl, ?_⟩
  refine wl_assign rfl rfl ?_
  refine wl_nil ?_
  refine qs_seq ?_
  refine wc_seq ?_
  refine wc_region ?_
  refine wl_move rfl rfl ?_
  refine wl_neq rfl rfl rfl ?_
  refine wl_nil ?_
  refine qs_seq ?_
  refine wc_sub (L' := [(17, _), (9, _), (8, _), (0, _), (1, _), (2, _), (3, _)]) (.cons rfl (.cons rfl (.cons rfl (.cons rfl (.cons rfl (.cons rfl (.cons rfl .nil))))))) ?_
  refine wc_condD rfl (fun h2 => ?_) (fun h2 => ?_)
  · skip
    have hm : mayE D f ≠ 0 := h2
    refine wc_seq ?_
    refine wc_region ?_
    refine wl_move rfl rfl ?_
    refine wl_assign rfl rfl ?_
    refine wl_nil ?_
    refine qs_seq ?_
    refine wc_ret ?_
    refine qs_then_ret ?_
    refine fin1 (.inr rfl) rfl rfl ?_
    exact ⟨_, rfl, by simp [writeE, hm], by rw [show writeD D f at_ s = D by simp [writeD, writeE, hm]]; exact Dback hI hg hS⟩
  · skip
    have hm : mayE D f = 0 := Decidable.not_not.1 h2
    have hf16 := may_ok hm
    refine wc_skip ?_
    refine qs_seq ?_
    refine wc_seq ?_
    refine wc_block ?_
    refine wc_seq ?_
    refine wc_region ?_
    refine wl_move rfl rfl ?_
    refine wl_lss rfl rfl rfl ?_
    refine wl_assign rfl rfl ?_
    refine wl_nil ?_
    refine qs_seq ?_
    refine wc_condD rfl (fun h3 => ?_) (fun h3 => ?_)
    · skip
      have hat : at_ < 0 := h3
      refine wc_seq ?_
      refine wc_region ?_
      refine wl_assign rfl rfl ?_
      refine wl_nil ?_
      refine qs_seq ?_
      refine wc_ret ?_
      refine qs_block_ret ?_
      refine qs_then_ret ?_
      refine fin1 (.inr rfl) rfl rfl ?_
      exact ⟨_, rfl, by simp [writeE, hm, hat], by rw [show writeD D f at_ s = D by simp [writeD, writeE, hm, hat]]; exact Dback hI hg hS⟩
    · skip
      have hat : 0 ≤ at_ := by omega
      refine wc_seq ?_
      refine wc_region ?_
      refine wl_move rfl rfl ?_
      refine wl_gtr rfl rfl rfl ?_
      refine wl_move rfl rfl ?_
      refine wl_splitD 25 rfl (fun h4 => ?_) (fun h4 => ?_)
      · skip
        refine wl_unwanted rfl rfl (decide_eq_true h4) rfl ?_
        refine wl_unwanted rfl rfl (decide_eq_true h4) rfl ?_
        refine wl_unwanted rfl rfl (decide_eq_true h4) rfl ?_
        refine wl_unwanted rfl rfl (decide_eq_true h4) rfl ?_
        refine wl_unwanted rfl rfl (decide_eq_true h4) rfl ?_
        refine wl_pickT rfl (decide_eq_true h4) rfl rfl ?_
        refine wl_assign rfl rfl ?_
        refine wl_nil ?_
        refine qs_seq ?_
        refine wc_sub (L' := [(22, _), (8, _), (0, _), (1, _), (2, _), (3, _)]) (.cons rfl (.cons rfl (.cons rfl (.cons rfl (.cons rfl (.cons rfl .nil)))))) ?_
        refine wc_condT rfl ?_
        refine wc_seq ?_
        refine wc_region ?_
        refine wl_assign rfl rfl ?_
        refine wl_nil ?_
        refine qs_seq ?_
        refine wc_ret ?_
        refine qs_block_ret ?_
        refine qs_then_ret ?_
        refine fin1 (.inr rfl) rfl rfl ?_
        exact wfull hI hg hm hat (by omega) hS
      · skip
        refine wl_guard rfl rfl (decide_eq_false h4) ?_
        refine wl_move rfl rfl ?_
        refine wl_guard rfl rfl (decide_eq_false h4) ?_
        refine wl_lenS Tryd.underlying9 rfl rfl ?_
        refine wl_guard rfl rfl (decide_eq_false h4) ?_
        refine wl_move rfl rfl ?_
        refine wl_guard rfl rfl (decide_eq_false h4) ?_
        refine wl_sub' rfl rfl (by omega) (by omega) rfl ?_
        refine wl_guard rfl rfl (decide_eq_false h4) ?_
        refine wl_gtr rfl rfl rfl ?_
        refine wl_pickF rfl (decide_eq_false h4) rfl rfl ?_
        refine wl_assign rfl rfl ?_
        refine wl_nil ?_
        refine qs_seq ?_
        refine wc_sub (L' := [(22, _), (8, _), (0, _), (1, _), (2, _), (3, _)]) (.cons rfl (.cons rfl (.cons rfl (.cons rfl (.cons rfl (.cons rfl .nil)))))) ?_
        refine wc_condD rfl (fun h5 => ?_) (fun h5 => ?_)
        · skip
          refine wc_seq ?_
          refine wc_region ?_
          refine wl_assign rfl rfl ?_
          refine wl_nil ?_
          refine qs_seq ?_
          refine wc_ret ?_
          refine qs_block_ret ?_
          refine qs_then_ret ?_
          refine fin1 (.inr rfl) rfl rfl ?_
          exact wfull hI hg hm hat (by omega) hS
        · skip
          refine wc_seq ?_
          refine wc_region ?_
          refine wl_move rfl rfl ?_
          refine wl_eqlS rfl rfl rfl ?_
          refine wl_assign rfl rfl ?_
          refine wl_nil ?_
          refine qs_seq ?_
          refine wc_condD rfl (fun h6 => ?_) (fun h6 => ?_)
          · skip
            have hs0 : s = [] := h6
            refine wc_seq ?_
            refine wc_region ?_
            refine wl_assign rfl rfl ?_
            refine wl_nil ?_
            refine qs_seq ?_
            refine wc_ret ?_
            refine qs_block_ret ?_
            refine qs_then_ret ?_
            refine fin1 (.inr rfl) rfl rfl ?_
            exact wnone hI hg hm hat (by omega) hs0 hS
          · skip
            have hs0 : s ≠ [] := h6
            have hlen : 0 < s.length := List.length_pos_iff.2 hs0
            obtain ⟨a, rfl⟩ := Int.eq_ofNat_of_zero_le hat
            have hnow := hI.now f
            refine wc_skip ?_
            refine qs_block_normal ?_
            refine qs_seq ?_
            refine wc_seq ?_
            refine wc_region ?_
            refine wl_move rfl rfl ?_
            refine wl_nilCheck rfl rfl ?_
            refine wl_fieldAddr rfl fo_61_0 rfl ?_
            refine wl_load rfl ag_57 (by first | assumption | exact hS.cell 1 rfl rfl) rfl ?_
            refine wl_move rfl rfl ?_
            refine wl_lookup 0 hS keysInt Tryd.underlying57 rfl rfl rfl zr_80 (hg _) rfl ?_
            refine wl_alloc hS zr_80 rfl rfl ?_
            intro b7 w7 hS7
            first | (refine wl_storeA hS7 rfl rfl sz_80 rfl (by first | rfl | (simp [allOne, Value.oneCell']; done) | assumption | exact hone) (i := 0) rfl (by first | decide | exact Nat.le_of_ble_eq_true rfl | (simp; done) | omega) ?_) | (refine wl_storeA hS7 rfl rfl sz_80 rfl (by first | rfl | (simp [allOne, Value.oneCell']; done) | assumption | exact hone) (i := 2) rfl (by first | decide | exact Nat.le_of_ble_eq_true rfl | (simp; done) | omega) ?_)
            intro w8 hS9; dsimp only [List.set] at hS9
            clear hS7
            refine wl_nil ?_
            refine qs_seq ?_
            refine wc_sub (L' := [(10, _), (8, _), (0, _), (1, _), (2, _), (3, _)]) (.cons rfl (.cons rfl (.cons rfl (.cons rfl (.cons rfl (.cons rfl .nil)))))) ?_
            refine wc_seq ?_
            refine wc_region ?_
            refine wl_fieldAddr rfl fo_80_0 rfl ?_
            refine wl_load rfl ag_9 (by first | assumption | exact hS9.cell 0 rfl rfl | exact hS9.cell 2 rfl rfl) rfl ?_
            refine wl_move rfl rfl ?_
            refine wl_move rfl rfl ?_
            have hC10 := hS9.split [] [false, false, false, false, false, false] rfl; dsimp only [selF, pickA, nthA, List.cons_append, List.nil_append] at hC10
            refine wl_call cal_44 rfl (put_sp hC10 _ s a hnow (by omega)) rfl ?_
            rintro e w10 ⟨_, rfl, rfl, hS10⟩; refine ⟨_, rfl, ?_⟩
            replace hS10 := hS10.join rfl; dsimp only [List.dropLast, List.cons_append, List.nil_append] at hS10; clear hC10
            clear hS9
            refine wl_fieldAddr rfl fo_80_0 rfl ?_
            first | (refine wl_store hS10 rfl rfl sz_9 (by first | rfl | assumption | exact hS10.own_one 3 rfl) (i := 0) rfl (by first | decide | exact Nat.le_of_ble_eq_true rfl | (simp; done) | omega) ?_) | (refine wl_store hS10 rfl rfl sz_9 (by first | rfl | assumption | exact hS10.own_one 3 rfl) (i := 2) rfl (by first | decide | exact Nat.le_of_ble_eq_true rfl | (simp; done) | omega) ?_)
            intro w11 hS12; dsimp only [List.set] at hS12
            clear hS10
            refine wl_nil ?_
            have hput := putB_le (m := 16777216) hnow (show a + s.length ≤ 16777216 by omega)
            refine qs_seq ?_
            refine wc_sub (L' := [(10, _), (8, _), (0, _), (1, _), (2, _), (3, _)]) (.cons rfl (.cons rfl (.cons rfl (.cons rfl (.cons rfl (.cons rfl .nil)))))) ?_
            refine wc_seq ?_
            have hS13 := hS12.drew
            refine wc_draw [0, 1, 2, 3, 4, 5, 6] [6] mix (by kernel_rfl) ?_
            refine vc_p rfl rfl rfl (fun _ => (ev_move rfl)) ?_
            refine vc_p rfl rfl rfl (fun _ => (ev_nilCheck rfl)) ?_
            refine vc_p rfl rfl rfl (fun _ => (ev_fieldAddr rfl fo_61_0)) ?_
            refine vc_q rfl rfl rfl (ev_load rfl ag_57 (by first | assumption | exact hS13.cell 0 rfl rfl | exact hS13.cell 2 rfl rfl)) ?_
            refine vc_p rfl rfl rfl (fun _ => (ev_move rfl)) ?_
            refine vc_q rfl rfl rfl (ev_loadA rfl ag_80 sz_80 (by first | exact hS13.blk 0 rfl | exact hS13.blk 2 rfl) (by first | decide | exact Nat.le_of_ble_eq_true rfl | (simp; done) | omega) rfl) ?_
            refine vc_s rfl rfl rfl rfl rfl rfl ?_
            first | refine wl_mapUpdate 1 hS13 keysInt Tryd.underlying57 rfl rfl rfl rfl ?_
            intro w14 hS14; dsimp only [List.set] at hS14
            clear hS13
            refine vc_e0 (.skip (by kernel_rfl) (.skip (by kernel_rfl) .nil)) ?_
            refine VC.nil ?_
            refine qs_seq ?_
            refine wc_sub (L' := [(8, _), (0, _), (1, _), (2, _), (3, _)]) (.cons rfl (.cons rfl (.cons rfl (.cons rfl (.cons rfl .nil))))) ?_
            refine wc_seq ?_
            refine wc_seq ?_
            refine wc_region ?_
            refine wl_move rfl rfl ?_
            refine wl_quo rfl rfl (by omega) (by omega) (by omega) rfl ?_
            refine wl_assign rfl rfl ?_
            refine wl_nil ?_
            refine qs_seq ?_
            refine wc_block ?_
            obtain ⟨N, hN⟩ : ∃ N : Nat, N = (((a : Int) + s.length - 1) / 64 - (a : Int) / 64 + 1).toNat := ⟨_, rfl⟩
            refine wc_loop (fun K0 E0 W0 => ∃ (j : Nat) (qv : Value), K0 = N - j ∧ E0 = [(0, ptrV p 0), (1, intV f), (2, intV (a : Int)), (3, strV s), (11, intV ((a : Int) / 64 + (j : Int)))] ∧ Sat W0 [blkT p [.map (some bf), qv, .map (some bs), intV D.lost, .bool D.down, intV D.armed, kp], filesT bf (setF D.F f (putB (D.F f).1 a s, (D.F f).2)), ownT qv (pend f j ((a : Int) / 64) D.Q).length 2 (secV (pend f j ((a : Int) / 64) D.Q)), setT bs (pend f j ((a : Int) / 64) D.Q), F] ∧ (j ≤ N)) (L0 := [(0, _), (1, _), (2, _), (3, _), (11, _)]) (N) (.cons rfl (.cons rfl (.cons rfl (.cons rfl (.cons rfl .nil))))) ⟨0, qv, by omega, by simp, wstart hg hS14, by omega⟩ ?_
            rintro _ _ w15 ⟨j, qv, rfl, rfl, hS15, hj⟩
            obtain ⟨gs, hgs, hS15⟩ := setT_open (hS15.pull 3 rfl); dsimp only [List.eraseIdx] at hS15
            have hpb := pend_bound f hf16 j ((a : Int) / 64) D.Q (by omega) (by omega) hI.secs hI.nodup
            have hcnt := sec_count hpb.1 hpb.2
            refine wc_seq ?_
            refine wc_seq ?_
            refine wc_region ?_
            refine wl_move rfl rfl ?_
            refine wl_move rfl rfl ?_
            refine wl_move rfl rfl ?_
            refine wl_lenS Tryd.underlying9 rfl rfl ?_
            refine wl_add rfl rfl (by omega) (by omega) rfl ?_
            refine wl_sub' rfl rfl (by omega) (by omega) rfl ?_
            refine wl_quo rfl rfl (by omega) (by omega) (by omega) rfl ?_
            refine wl_leq rfl rfl rfl ?_
            refine wl_nil ?_
            refine qs_seq ?_
            refine wc_sub (L' := [(62, _), (0, _), (1, _), (2, _), (3, _), (11, _)]) (.cons rfl (.cons rfl (.cons rfl (.cons rfl (.cons rfl (.cons rfl .nil)))))) ?_
            refine wc_condD rfl (fun h16 => ?_) (fun h16 => ?_)
            · skip
              refine wc_skip ?_
              refine qs_seq ?_
              refine wc_seq ?_
              refine wc_block ?_
              refine wc_seq ?_
              refine wc_region ?_
              refine wl_move rfl rfl ?_
              refine wl_move rfl rfl ?_
              refine wl_buildS rfl pl_78_0_1 asz_78 zr_78 rfl rfl ?_
              refine wl_alloc hS15 zr_78 rfl rfl ?_
              intro b17 w17 hS17
              clear hS15
              first | (refine wl_storeA hS17 rfl rfl sz_78 rfl (by first | rfl | (simp [allOne, Value.oneCell']; done) | assumption | exact hone) (i := 0) rfl (by first | decide | exact Nat.le_of_ble_eq_true rfl | (simp; done) | omega) ?_) | (refine wl_storeA hS17 rfl rfl sz_78 rfl (by first | rfl | (simp [allOne, Value.oneCell']; done) | assumption | exact hone) (i := 2) rfl (by first | decide | exact Nat.le_of_ble_eq_true rfl | (simp; done) | omega) ?_)
              intro w18 hS19; dsimp only [List.set] at hS19
              clear hS17
              refine wl_nil ?_
              refine qs_seq ?_
              refine wc_seq ?_
              have hS20 := hS19.drew
              refine wc_draw [0, 1, 2, 3, 4, 5, 6] [] mix (by kernel_rfl) ?_
              refine vc_p rfl rfl rfl (fun _ => (ev_move rfl)) ?_
              refine vc_p rfl rfl rfl (fun _ => (ev_nilCheck rfl)) ?_
              refine vc_p rfl rfl rfl (fun _ => (ev_fieldAddr rfl fo_61_2)) ?_
              refine vc_q rfl rfl rfl (ev_load rfl ag_58 (by first | assumption | exact hS20.cell 0 rfl rfl | exact hS20.cell 2 rfl rfl)) ?_
              refine vc_q rfl rfl rfl (ev_loadA rfl ag_78 sz_78 (by first | exact hS20.blk 0 rfl | exact hS20.blk 2 rfl) (by first | decide | exact Nat.le_of_ble_eq_true rfl | (simp; done) | omega) rfl) ?_
              refine vc_q rfl rfl rfl (ev_lookup (k := (f, (a : Int) / 64 + (j : Int))) 1 hS20 keysSec Tryd.underlying58 rfl rfl rfl zr_4 (set_val hgs _)) ?_
              refine vc_p rfl rfl rfl (fun _ => (ev_not rfl)) ?_
              refine VC.nil ?_
              refine qs_seq ?_
              refine wc_sub (L' := [(74, _), (12, _), (0, _), (1, _), (2, _), (3, _), (11, _)]) (.cons rfl (.cons rfl (.cons rfl (.cons rfl (.cons rfl (.cons rfl (.cons rfl .nil))))))) ?_
              refine wc_cond rfl (fun h21 => ?_) (fun h21 => ?_)
              · skip
                have hnew : (f, (a : Int) / 64 + (j : Int)) ∉ pend f j ((a : Int) / 64) D.Q := by simpa using h21
                have hS22 := hS20.drew
                refine wc_draw [0, 1, 2, 3, 4, 5, 6, 7, 8, 9, 10, 11, 12, 13, 14, 15, 16, 17, 18] [11, 12, 15, 16, 18] mix (by kernel_rfl) ?_
                refine vc_p rfl rfl rfl (fun _ => (ev_move rfl)) ?_
                refine vc_p rfl rfl rfl (fun _ => (ev_move rfl)) ?_
                refine vc_p rfl rfl rfl (fun _ => (ev_nilCheck rfl)) ?_
                refine vc_p rfl rfl rfl (fun _ => (ev_fieldAddr rfl fo_61_2)) ?_
                refine vc_q rfl rfl rfl (ev_load rfl ag_58 (by first | assumption | exact hS22.cell 0 rfl rfl | exact hS22.cell 2 rfl rfl)) ?_
                refine vc_q rfl rfl rfl (ev_loadA rfl ag_78 sz_78 (by first | exact hS22.blk 0 rfl | exact hS22.blk 2 rfl) (by first | decide | exact Nat.le_of_ble_eq_true rfl | (simp; done) | omega) rfl) ?_
                refine vc_p rfl rfl rfl (fun _ => (ev_move rfl)) ?_
                refine vc_p rfl rfl rfl (fun _ => (ev_nilCheck rfl)) ?_
                refine vc_p rfl rfl rfl (fun _ => (ev_fieldAddr rfl fo_61_1)) ?_
                refine vc_q rfl rfl rfl (ev_load rfl ag_59 (by first | assumption | exact hS22.cell 0 rfl rfl | exact hS22.cell 2 rfl rfl)) ?_
                refine vc_q rfl rfl rfl (ev_loadA rfl ag_78 sz_78 (by first | exact hS22.blk 0 rfl | exact hS22.blk 2 rfl) (by first | decide | exact Nat.le_of_ble_eq_true rfl | (simp; done) | omega) rfl) ?_
                refine vc_s rfl rfl rfl rfl rfl rfl ?_
                refine wl_buildSlice hS22 rfl Tryd.underlying59 ifz_78 rfl rfl rfl rfl ?_
                intro b23 w23 hS23
                clear hS22
                refine vc_e (.skip (by kernel_rfl) (.cons (.inl ⟨rfl, (ev_load rfl ag_59 (by first | assumption | exact hS23.cell 1 rfl rfl | exact hS23.cell 3 rfl rfl))⟩) (.cons (.inl ⟨rfl, (ev_loadA rfl ag_78 sz_78 (by first | exact hS23.blk 1 rfl | exact hS23.blk 3 rfl) (by first | decide | exact Nat.le_of_ble_eq_true rfl | (simp; done) | omega) rfl)⟩) (.cons (.inl ⟨rfl, (ev_load rfl ag_58 (by first | assumption | exact hS23.cell 1 rfl rfl | exact hS23.cell 3 rfl rfl))⟩) .nil)))) ?_
                refine vc_s rfl rfl rfl rfl rfl rfl ?_
                first | refine wl_append 0 hS23 rfl rfl rfl Tryd.underlying59 Tryd.underlying59 (by intro k hk; cases hk) ifo_78 rfl (by decide) (lenOf_own hS23 5 rfl) (firstCells_own hS23 5 rfl) (by first | rfl | simp) (by first | rfl | (simp [allOne, Value.oneCell']; done) | assumption | exact hone) (by omega) (by omega) rfl ?_ | refine wl_append 5 hS23 rfl rfl rfl Tryd.underlying59 Tryd.underlying59 (by intro k hk; cases hk) ifo_78 rfl (by decide) (lenOf_own hS23 0 rfl) (firstCells_own hS23 0 rfl) (by first | rfl | simp) (by first | rfl | (simp [allOne, Value.oneCell']; done) | assumption | exact hone) (by omega) (by omega) rfl ?_
                intro v24 w24 hS24; dsimp only [List.set] at hS24
                clear hS23
                have h1v24 : v24.oneCell' = true := by first | exact hS24.own_one 0 rfl | exact hS24.own_one 5 rfl
                refine vc_e (.skip (by kernel_rfl) (.skip (by kernel_rfl) (.cons (.inl ⟨rfl, (ev_loadA rfl ag_78 sz_78 (by first | exact hS24.blk 1 rfl | exact hS24.blk 3 rfl) (by first | decide | exact Nat.le_of_ble_eq_true rfl | (simp; done) | omega) rfl)⟩) (.cons (.inl ⟨rfl, (ev_load rfl ag_58 (by first | assumption | exact hS24.cell 1 rfl rfl | exact hS24.cell 3 rfl rfl))⟩) .nil)))) ?_
                refine vc_p rfl rfl rfl (fun _ => (ev_nilCheck rfl)) ?_
                refine vc_p rfl rfl rfl (fun _ => (ev_fieldAddr rfl fo_61_1)) ?_
                refine vc_s rfl rfl rfl rfl rfl rfl ?_
                first | (refine wl_store hS24 rfl rfl sz_59 (by first | rfl | assumption | exact hS24.own_one 0 rfl | exact hS24.own_one 5 rfl) (i := 1) rfl (by first | decide | exact Nat.le_of_ble_eq_true rfl | (simp; done) | omega) ?_) | (refine wl_store hS24 rfl rfl sz_59 (by first | rfl | assumption | exact hS24.own_one 0 rfl | exact hS24.own_one 5 rfl) (i := 3) rfl (by first | decide | exact Nat.le_of_ble_eq_true rfl | (simp; done) | omega) ?_)
                intro w25 hS26; dsimp only [List.set] at hS26
                clear hS24
                refine vc_e0 (.skip (by kernel_rfl) (.skip (by kernel_rfl) (.cons (.inl ⟨rfl, (ev_loadA rfl ag_78 sz_78 (by first | exact hS26.blk 1 rfl | exact hS26.blk 3 rfl) (by first | decide | exact Nat.le_of_ble_eq_true rfl | (simp; done) | omega) rfl)⟩) (.skip (by kernel_rfl) .nil)))) ?_
                refine vc_s rfl rfl rfl rfl rfl rfl ?_
                refine wl_mapEntry (k := (f, (a : Int) / 64 + (j : Int))) 2 hS26 keysSec Tryd.underlying58 rfl rfl rfl (by rw [hgs, if_neg hnew]) zr_4 rfl ?_
                intro c27 w27 hS27; dsimp only [List.set] at hS27
                clear hS26
                refine vc_e (.skip (by kernel_rfl) (.skip (by kernel_rfl) (.skip (by kernel_rfl) (.skip (by kernel_rfl) .nil)))) ?_
                refine vc_p rfl rfl rfl (fun _ => (ev_extract rfl rfl)) ?_
                refine vc_s rfl rfl rfl rfl rfl rfl ?_
                refine wl_entryStore 2 hS27 keysSec rfl rfl rfl rfl ?_
                intro w28 hS28; dsimp only [List.set] at hS28
                clear hS27
                refine vc_e0 (.skip (by kernel_rfl) (.skip (by kernel_rfl) (.skip (by kernel_rfl) (.skip (by kernel_rfl) .nil)))) ?_
                refine VC.nil ?_
                refine qs_block_normal ?_
                refine qs_seq ?_
                refine wc_sub (L' := [(0, _), (1, _), (2, _), (3, _), (11, _)]) (.cons rfl (.cons rfl (.cons rfl (.cons rfl (.cons rfl .nil))))) ?_
                refine wc_region ?_
                refine wl_move rfl rfl ?_
                refine wl_add rfl rfl (by omega) (by omega) rfl ?_
                refine wl_assign rfl rfl ?_
                refine wl_nil ?_
                exact qs_round (L1 := [(0, ptrV p 0), (1, intV f), (2, intV (a : Int)), (3, strV s), (11, intV ((a : Int) / 64 + ((j + 1 : Nat) : Int)))]) (.cons rfl (.cons rfl (.cons rfl (.cons rfl (.cons rfl .nil))))) (k1 := N - (j + 1)) (by omega) ⟨j + 1, _, by omega, rfl, wround_new hgs hnew hS28, by omega⟩
              · skip
                have hold : (f, (a : Int) / 64 + (j : Int)) ∈ pend f j ((a : Int) / 64) D.Q := by simpa using h21
                refine wc_skip ?_
                refine qs_block_normal ?_
                refine qs_seq ?_
                refine wc_region ?_
                refine wl_move rfl rfl ?_
                refine wl_add rfl rfl (by omega) (by omega) rfl ?_
                refine wl_assign rfl rfl ?_
                refine wl_nil ?_
                exact qs_round (L1 := [(0, ptrV p 0), (1, intV f), (2, intV (a : Int)), (3, strV s), (11, intV ((a : Int) / 64 + ((j + 1 : Nat) : Int)))]) (.cons rfl (.cons rfl (.cons rfl (.cons rfl (.cons rfl .nil))))) (k1 := N - (j + 1)) (by omega) ⟨j + 1, _, by omega, rfl, wround_old hgs hold hS20, by omega⟩
            · skip
              refine wc_exit ?_
              refine qs_then_exit ?_
              refine qs_then_exit ?_
              refine qs_block_exit ?_
              refine qs_seq ?_
              refine wc_seq ?_
              refine wc_region ?_
              refine wl_assign rfl rfl ?_
              refine wl_nil ?_
              refine qs_seq ?_
              refine wc_ret ?_
              refine fin1 (.inr rfl) rfl rfl ?_
              exact wdone hI hm hf16 (by omega) hs0 hput hN hj (by assumption) hgs hS15

end Go.Proofs.YtleaahajkncnpaaDoor
