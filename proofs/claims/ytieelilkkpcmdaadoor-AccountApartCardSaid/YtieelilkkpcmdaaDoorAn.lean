/- laws of account: AccountApart -/
import Derived.Test.YtieelilkkpcmdaaDoorAl
import Derived.Test.YtieelilkkpcmdaaDoorWp
namespace Go.Proofs.YtieelilkkpcmdaaDoor
open Go.RowKit M
set_option linter.unusedVariables false
structure AccJ (k0 v0 : Bs) (W : WS) (u : Int) : Prop where
  acc : AccI W u
  oth : ∀ k, k ≠ [122] → W.cells k = if k = k0 then v0 else []
  obj : ∀ n q, W.objs n q = none
theorem AccJ.start {k0 v0 : Bs} (h : k0 ≠ [122]) : AccJ k0 v0 (putS emptyW k0 v0) 0 := by
  refine ⟨⟨?_, by omega, by omega⟩, fun k hk => ?_, fun n q => rfl⟩
  · simp only [putS, updC, emptyW]; rw [if_neg (fun e => h e.symm)]; rfl
  · simp only [putS, updC, emptyW]
theorem AccJ.set {k0 v0 : Bs} {W : WS} {u n : Int} (h : AccJ k0 v0 W u) (hn : 0 ≤ n ∧ n ≤ 1024) : AccJ k0 v0 (setA W n) n := by
  refine ⟨AccI.set hn, fun k hk => ?_, h.obj⟩
  simp only [setA, putS, updC]; rw [if_neg hk, h.oth k hk]
theorem AccJ.charge {k0 v0 : Bs} {W : WS} {u : Int} (h : AccJ k0 v0 W u) (n : Int) : ∃ u', AccJ k0 v0 (chargeS W n) u' := by
  have hlo := h.acc.lo
  unfold chargeS
  rw [h.acc.uA]
  split
  · exact ⟨u, h⟩
  split
  · exact ⟨u, h⟩
  · exact ⟨_, h.set (by omega)⟩
theorem AccJ.release {k0 v0 : Bs} {W : WS} {u : Int} (h : AccJ k0 v0 W u) (n : Int) : ∃ u', AccJ k0 v0 (releaseS W n) u' := by
  have hlo := h.acc.lo
  have hhi := h.acc.hi
  unfold releaseS
  rw [h.acc.uA]
  split
  · exact ⟨_, h.set (by omega)⟩
  · exact ⟨u, h⟩
theorem AccJ.keys {k0 v0 : Bs} {W : WS} {u : Int} (h : AccJ k0 v0 W u) (hk : k0.length ≤ 40) : KeysIn W.cells 1000000 := by
  have hm : ∀ k, W.cells k ≠ [] → k = [122] ∨ k = k0 := fun k hc => by
    by_cases e : k = [122]
    · exact .inl e
    · rw [h.oth k e] at hc
      split at hc
      · rename_i e2; exact .inr e2
      · exact absurd rfl hc
  refine ⟨⟨[[122], k0], by simp, fun k hc => ?_⟩, fun k hc => ?_⟩
  · rcases hm k hc with rfl | rfl <;> simp
  · rcases hm k hc with rfl | rfl
    · simp
    · omega
theorem keysOf_mem {c : Bs → Bs} {pre : Bs} {l : List Bs} {s : Bs} (h : KeysOf c pre l) (hs : s ∈ l) : c s ≠ [] := by
  obtain ⟨l0, rfl, _, hm⟩ := h
  exact ((hm s).1 ((sortS_perm l0).mem_iff.1 hs)).1
theorem keysOf_len {c : Bs → Bs} {pre : Bs} {l : List Bs} {n : Nat} (h : KeysOf c pre l) (hk : KeysIn c n) : l.length ≤ n := by
  obtain ⟨l0, rfl, hn, hm⟩ := h
  obtain ⟨ks, h1, h2⟩ := hk.few
  rw [sortS_len]
  exact Nat.le_trans (List.Nodup.length_le_of_subset hn fun k hk => h2 k ((hm k).1 hk).1) h1
theorem AccJ.key {k0 v0 : Bs} {W : WS} {u : Int} {l : List Bs} {s : Bs} {j : Nat} (h : AccJ k0 v0 W u) (hl : KeysOf W.cells [] l) (hs : l[j]? = some s) : s = [122] ∨ s = k0 := by
  have hc := keysOf_mem hl (List.mem_of_getElem? hs)
  by_cases e : s = [122]
  · exact .inl e
  · rw [h.oth s e] at hc
    split at hc
    · rename_i e2; exact .inr e2
    · exact absurd rfl hc
theorem AccJ.objs {k0 v0 : Bs} {W : WS} {u : Int} (h : AccJ k0 v0 W u) : ObjsIn W.objs 1000000 := ⟨[], by simp, fun k ⟨q, hq⟩ => absurd (h.obj k q) hq⟩
theorem AccJ.names {k0 v0 : Bs} {W : WS} {u : Int} {l : List Bs} (h : AccJ k0 v0 W u) (hl : NamesOf W.objs l) : l = [] := by
  obtain ⟨l0, rfl, _, hm⟩ := hl
  have : l0 = [] := List.eq_nil_iff_forall_not_mem.2 fun k hk => by
    obtain ⟨q, hq⟩ := (hm k).1 hk
    exact hq (h.obj k q)
  subst this; simp [sortS]
section
variable {w : World} {p : Nat} {W : WS} {F : Th} {u : Int} {k0 v0 : Bs} (hS : Sat w [worldT p W, F]) (hG : Ent F WireG) (hJ : AccJ k0 v0 W u)
include hS hG hJ
theorem chargeJ (n : Int) : Calls Tryd.prog 28 #[.iface 26 (ptrV p 0), intV n] w (Ret fun v w' => ∃ W' u', AccJ k0 v0 W' u' ∧ Sat w' [worldT p W', F]) :=
  (charge_sp hS hG hJ.acc.z n).mono fun e w' h => h.mono fun v w' ⟨h1, h2⟩ => let ⟨u', h3⟩ := hJ.charge n; ⟨_, u', h3, h2⟩
theorem releaseJ (n : Int) : Calls Tryd.prog 29 #[.iface 26 (ptrV p 0), intV n] w (Ret fun v w' => ∃ W' u', AccJ k0 v0 W' u' ∧ Sat w' [worldT p W', F]) :=
  (release_sp hS hG hJ.acc.z n).mono fun e w' h => h.mono fun v w' ⟨h1, h2⟩ => let ⟨u', h3⟩ := hJ.release n; ⟨_, u', h3, h2⟩
theorem release0 (n : Int) (hn : n < 1) : Calls Tryd.prog 29 #[.iface 26 (ptrV p 0), intV n] w (Ret fun v w' => v = .tuple #[] ∧ Sat w' [worldT p W, F]) :=
  (release_sp hS hG hJ.acc.z n).mono fun e w' h => h.mono fun v w' ⟨h1, h2⟩ => ⟨h1, by unfold releaseS at h2; rw [if_neg (by omega)] at h2; exact h2⟩
theorem charge0 : Calls Tryd.prog 28 #[.iface 26 (ptrV p 0), intV 0] w (Ret fun v w' => v = intV 0 ∧ ∃ W', AccJ k0 v0 W' u ∧ Sat w' [worldT p W', F]) :=
  (charge_sp hS hG hJ.acc.z 0).mono fun e w' h => h.mono fun v w' ⟨h1, h2⟩ => by
    have hlo := hJ.acc.lo
    have hhi := hJ.acc.hi
    unfold chargeV at h1; unfold chargeS at h2
    rw [hJ.acc.uA, if_neg (by omega), if_neg (by omega)] at h1 h2
    exact ⟨h1, _, by have := hJ.set (n := u + 0) (by omega); rwa [Int.add_zero] at this ⊢, h2⟩
end
set_option maxRecDepth 100000 in
theorem aapart_law {w : World} {F : Th} (hS : Sat w [F]) (hG : Ent F WireG) {lv : Value} {l : List OpA} (hL : Ent F (RdL aC lv l)) (k0 v0 : Bs) :
    Calls Tryd.prog 8 #[lv, strV k0, strV v0] w (Ret fun v w' => v = .bool true ∧ Sat w' [F]) := by
  obtain ⟨ao, cap, rfl, hmax⟩ := (hL.sat hS 0 rfl).shape
  refine calls_enter Tryd.func8 rfl Tryd.ntmps8 rfl ?_
  refine wc_seq ?_
  refine wc_region ?_
  refine wl_assign rfl rfl ?_
  refine wl_nil ?_
  refine qs_seq ?_
  refine wc_seq ?_
  refine wc_region ?_
  have hC1 := hS.split [] [false] rfl; dsimp only [selF, pickA, nthA, List.cons_append, List.nil_append] at hC1
  refine wl_call cal_25 rfl (asmall_sp hC1 (hG.starL 0 rfl)) rfl ?_
  rintro e w1 ⟨_, rfl, rfl, hS1⟩; refine ⟨_, rfl, ?_⟩
  replace hS1 := hS1.join rfl; dsimp only [List.dropLast, List.cons_append, List.nil_append] at hS1; clear hC1
  refine wl_assign rfl rfl ?_
  refine wl_nil ?_
  refine qs_seq ?_
  refine wc_seq ?_
  refine wc_region ?_
  have hC2 := hS1.split [] [false] rfl; dsimp only [selF, pickA, nthA, List.cons_append, List.nil_append] at hC2
  refine wl_call cal_26 rfl (new_sp hC2) rfl ?_
  rintro e w2 ⟨_, rfl, p, rfl, hS2⟩; refine ⟨_, rfl, ?_⟩
  replace hS2 := hS2.join rfl; dsimp only [List.dropLast, List.cons_append, List.nil_append] at hS2; clear hC2
  clear hS1
  refine wl_assign rfl rfl ?_
  refine wl_nil ?_
  refine qs_seq ?_
  refine wc_seq ?_
  refine wc_seq ?_
  refine wc_region ?_
  refine wl_move rfl rfl ?_
  have hC3 := hS2.split [] [false, false] rfl; dsimp only [selF, pickA, nthA, List.cons_append, List.nil_append] at hC3
  refine wl_call cal_27 rfl (afew_sp hC3 (hL.starL 1 rfl)) rfl ?_
  rintro e w3 ⟨_, rfl, rfl, hS3⟩; refine ⟨_, rfl, ?_⟩
  replace hS3 := hS3.join rfl; dsimp only [List.dropLast, List.cons_append, List.nil_append] at hS3; clear hC3
  clear hS2
  refine wl_not rfl rfl ?_
  refine wl_move rfl rfl ?_
  refine wl_split 18 rfl (fun h4 => ?_) (fun h4 => ?_)
  · skip
    refine wl_unwanted rfl rfl h4 rfl ?_
    refine wl_unwanted rfl rfl h4 rfl ?_
    refine wl_pickT rfl h4 rfl rfl ?_
    refine wl_move rfl rfl ?_
    refine wl_unwanted rfl rfl rfl rfl ?_
    refine wl_unwanted rfl rfl rfl rfl ?_
    refine wl_unwanted rfl rfl rfl rfl ?_
    refine wl_pickT rfl rfl rfl rfl ?_
    refine wl_move rfl rfl ?_
    refine wl_unwanted rfl rfl rfl rfl ?_
    refine wl_unwanted rfl rfl rfl rfl ?_
    refine wl_unwanted rfl rfl rfl rfl ?_
    refine wl_pickT rfl rfl rfl rfl ?_
    refine wl_move rfl rfl ?_
    refine wl_unwanted rfl rfl rfl rfl ?_
    refine wl_unwanted rfl rfl rfl rfl ?_
    refine wl_pickT rfl rfl rfl rfl ?_
    refine wl_nil ?_
    refine qs_seq ?_
    refine wc_sub (L' := [(35, _), (8, _), (7, _), (6, _), (0, _), (1, _), (2, _)]) (.cons rfl (.cons rfl (.cons rfl (.cons rfl (.cons rfl (.cons rfl (.cons rfl .nil))))))) ?_
    refine wc_condT rfl ?_
    refine wc_seq ?_
    refine wc_region ?_
    refine wl_move rfl rfl ?_
    refine wl_move rfl rfl ?_
    refine wl_guard rfl rfl rfl ?_
    refine wl_move rfl rfl ?_
    refine wl_guard rfl rfl rfl ?_
    refine wl_neqNil Tryd.underlying26 rfl rfl rfl ?_
    refine wl_pickT rfl rfl rfl rfl ?_
    refine wl_assign rfl rfl ?_
    refine wl_nil ?_
    refine qs_seq ?_
    refine wc_sub (L' := [(6, _), (8, _), (7, _), (0, _), (1, _), (2, _)]) (.cons rfl (.cons rfl (.cons rfl (.cons rfl (.cons rfl (.cons rfl .nil)))))) ?_
    refine wc_ret ?_
    refine qs_then_ret ?_
    refine fin1 (.inr rfl) rfl rfl ?_
    exact ⟨_, rfl, rfl, hS3.pick [1] rfl⟩
  · skip
    refine wl_guard rfl rfl h4 ?_
    refine wl_move rfl rfl ?_
    refine wl_guard rfl rfl h4 ?_
    refine wl_eqlS rfl rfl rfl ?_
    refine wl_pickF rfl h4 rfl rfl ?_
    refine wl_move rfl rfl ?_
    refine wl_splitD 22 rfl (fun h5 => ?_) (fun h5 => ?_)
    · skip
      refine wl_unwanted rfl rfl (decide_eq_true h5) rfl ?_
      refine wl_unwanted rfl rfl (decide_eq_true h5) rfl ?_
      refine wl_unwanted rfl rfl (decide_eq_true h5) rfl ?_
      refine wl_pickT rfl (decide_eq_true h5) rfl rfl ?_
      refine wl_move rfl rfl ?_
      refine wl_unwanted rfl rfl rfl rfl ?_
      refine wl_unwanted rfl rfl rfl rfl ?_
      refine wl_unwanted rfl rfl rfl rfl ?_
      refine wl_pickT rfl rfl rfl rfl ?_
      refine wl_move rfl rfl ?_
      refine wl_unwanted rfl rfl rfl rfl ?_
      refine wl_unwanted rfl rfl rfl rfl ?_
      refine wl_pickT rfl rfl rfl rfl ?_
      refine wl_nil ?_
      refine qs_seq ?_
      refine wc_sub (L' := [(35, _), (8, _), (7, _), (6, _), (0, _), (1, _), (2, _)]) (.cons rfl (.cons rfl (.cons rfl (.cons rfl (.cons rfl (.cons rfl (.cons rfl .nil))))))) ?_
      refine wc_condT rfl ?_
      refine wc_seq ?_
      refine wc_region ?_
      refine wl_move rfl rfl ?_
      refine wl_move rfl rfl ?_
      refine wl_guard rfl rfl rfl ?_
      refine wl_move rfl rfl ?_
      refine wl_guard rfl rfl rfl ?_
      refine wl_neqNil Tryd.underlying26 rfl rfl rfl ?_
      refine wl_pickT rfl rfl rfl rfl ?_
      refine wl_assign rfl rfl ?_
      refine wl_nil ?_
      refine qs_seq ?_
      refine wc_sub (L' := [(6, _), (8, _), (7, _), (0, _), (1, _), (2, _)]) (.cons rfl (.cons rfl (.cons rfl (.cons rfl (.cons rfl (.cons rfl .nil)))))) ?_
      refine wc_ret ?_
      refine qs_then_ret ?_
      refine fin1 (.inr rfl) rfl rfl ?_
      exact ⟨_, rfl, rfl, hS3.pick [1] rfl⟩
    · skip
      have hkz : k0 ≠ [122] := h5
      refine wl_guard rfl rfl (decide_eq_false h5) ?_
      refine wl_move rfl rfl ?_
      refine wl_guard rfl rfl (decide_eq_false h5) ?_
      refine wl_lenS Tryd.underlying9 rfl rfl ?_
      refine wl_guard rfl rfl (decide_eq_false h5) ?_
      refine wl_gtr rfl rfl rfl ?_
      refine wl_pickF rfl (decide_eq_false h5) rfl rfl ?_
      refine wl_move rfl rfl ?_
      refine wl_splitD 27 rfl (fun h6 => ?_) (fun h6 => ?_)
      · skip
        refine wl_unwanted rfl rfl (decide_eq_true h6) rfl ?_
        refine wl_unwanted rfl rfl (decide_eq_true h6) rfl ?_
        refine wl_unwanted rfl rfl (decide_eq_true h6) rfl ?_
        refine wl_pickT rfl (decide_eq_true h6) rfl rfl ?_
        refine wl_move rfl rfl ?_
        refine wl_unwanted rfl rfl rfl rfl ?_
        refine wl_unwanted rfl rfl rfl rfl ?_
        refine wl_pickT rfl rfl rfl rfl ?_
        refine wl_nil ?_
        refine qs_seq ?_
        refine wc_sub (L' := [(35, _), (8, _), (7, _), (6, _), (0, _), (1, _), (2, _)]) (.cons rfl (.cons rfl (.cons rfl (.cons rfl (.cons rfl (.cons rfl (.cons rfl .nil))))))) ?_
        refine wc_condT rfl ?_
        refine wc_seq ?_
        refine wc_region ?_
        refine wl_move rfl rfl ?_
        refine wl_move rfl rfl ?_
        refine wl_guard rfl rfl rfl ?_
        refine wl_move rfl rfl ?_
        refine wl_guard rfl rfl rfl ?_
        refine wl_neqNil Tryd.underlying26 rfl rfl rfl ?_
        refine wl_pickT rfl rfl rfl rfl ?_
        refine wl_assign rfl rfl ?_
        refine wl_nil ?_
        refine qs_seq ?_
        refine wc_sub (L' := [(6, _), (8, _), (7, _), (0, _), (1, _), (2, _)]) (.cons rfl (.cons rfl (.cons rfl (.cons rfl (.cons rfl (.cons rfl .nil)))))) ?_
        refine wc_ret ?_
        refine qs_then_ret ?_
        refine fin1 (.inr rfl) rfl rfl ?_
        exact ⟨_, rfl, rfl, hS3.pick [1] rfl⟩
      · skip
        refine wl_guard rfl rfl (decide_eq_false h6) ?_
        refine wl_move rfl rfl ?_
        refine wl_guard rfl rfl (decide_eq_false h6) ?_
        refine wl_lenS Tryd.underlying9 rfl rfl ?_
        refine wl_guard rfl rfl (decide_eq_false h6) ?_
        refine wl_gtr rfl rfl rfl ?_
        refine wl_pickF rfl (decide_eq_false h6) rfl rfl ?_
        refine wl_move rfl rfl ?_
        refine wl_splitD 32 rfl (fun h7 => ?_) (fun h7 => ?_)
        · skip
          refine wl_unwanted rfl rfl (decide_eq_true h7) rfl ?_
          refine wl_unwanted rfl rfl (decide_eq_true h7) rfl ?_
          refine wl_pickT rfl (decide_eq_true h7) rfl rfl ?_
          refine wl_nil ?_
          refine qs_seq ?_
          refine wc_sub (L' := [(35, _), (8, _), (7, _), (6, _), (0, _), (1, _), (2, _)]) (.cons rfl (.cons rfl (.cons rfl (.cons rfl (.cons rfl (.cons rfl (.cons rfl .nil))))))) ?_
          refine wc_condT rfl ?_
          refine wc_seq ?_
          refine wc_region ?_
          refine wl_move rfl rfl ?_
          refine wl_move rfl rfl ?_
          refine wl_guard rfl rfl rfl ?_
          refine wl_move rfl rfl ?_
          refine wl_guard rfl rfl rfl ?_
          refine wl_neqNil Tryd.underlying26 rfl rfl rfl ?_
          refine wl_pickT rfl rfl rfl rfl ?_
          refine wl_assign rfl rfl ?_
          refine wl_nil ?_
          refine qs_seq ?_
          refine wc_sub (L' := [(6, _), (8, _), (7, _), (0, _), (1, _), (2, _)]) (.cons rfl (.cons rfl (.cons rfl (.cons rfl (.cons rfl (.cons rfl .nil)))))) ?_
          refine wc_ret ?_
          refine qs_then_ret ?_
          refine fin1 (.inr rfl) rfl rfl ?_
          exact ⟨_, rfl, rfl, hS3.pick [1] rfl⟩
        · skip
          refine wl_guard rfl rfl (decide_eq_false h7) ?_
          refine wl_move rfl rfl ?_
          refine wl_guard rfl rfl (decide_eq_false h7) ?_
          refine wl_eqlNil Tryd.underlying26 rfl rfl rfl ?_
          refine wl_pickF rfl (decide_eq_false h7) rfl rfl ?_
          refine wl_nil ?_
          refine qs_seq ?_
          refine wc_sub (L' := [(35, _), (8, _), (7, _), (6, _), (0, _), (1, _), (2, _)]) (.cons rfl (.cons rfl (.cons rfl (.cons rfl (.cons rfl (.cons rfl (.cons rfl .nil))))))) ?_
          refine wc_condF rfl ?_
          refine wc_skip ?_
          refine qs_seq ?_
          refine wc_seq ?_
          refine wc_region ?_
          refine wl_move rfl rfl ?_
          refine wl_move rfl rfl ?_
          refine wl_move rfl rfl ?_
          have hC8 := hS3.split [0] [true, false] rfl; dsimp only [selF, pickA, nthA, List.cons_append, List.nil_append] at hC8
          refine wl_call cal_36 rfl (put_sp hC8 k0 v0 (by omega) (by omega)) rfl ?_
          rintro e w8 ⟨_, rfl, rfl, hS8⟩; refine ⟨_, rfl, ?_⟩
          replace hS8 := hS8.join rfl; dsimp only [List.dropLast, List.cons_append, List.nil_append] at hS8; clear hC8
          clear hS3
          refine wl_nil ?_
          refine qs_seq ?_
          refine wc_sub (L' := [(8, _), (7, _), (6, _), (0, _), (1, _), (2, _)]) (.cons rfl (.cons rfl (.cons rfl (.cons rfl (.cons rfl (.cons rfl .nil)))))) ?_
          refine wc_seq ?_
          refine wc_seq ?_
          refine wc_region ?_
          refine wl_assign rfl rfl ?_
          refine wl_nil ?_
          refine qs_seq ?_
          refine wc_block ?_
          refine wc_loop (fun K0 E0 W0 => ∃ (i : Nat) (u : Int) (W : WS), K0 = l.length - i ∧ E0 = [(0, .slice ao l.length cap), (1, strV k0), (2, strV v0), (7, .bool true), (8, ptrV p 0), (9, intV (i : Int))] ∧ Sat W0 [worldT p W, F] ∧ (i ≤ l.length) ∧ (AccJ k0 v0 W u)) (L0 := [(0, _), (1, _), (2, _), (7, _), (8, _), (9, _)]) (l.length - 0) (.cons rfl (.cons rfl (.cons rfl (.cons rfl (.cons rfl (.cons rfl .nil)))))) ⟨0, 0, _, rfl, rfl, hS8, by omega, AccJ.start hkz⟩ ?_
          rintro _ _ w9 ⟨i, u, W, rfl, rfl, hS9, hi, hJ⟩
          refine wc_seq ?_
          refine wc_seq ?_
          refine wc_region ?_
          refine wl_move rfl rfl ?_
          refine wl_move rfl rfl ?_
          refine wl_lenL Tryd.underlying44 rfl rfl ?_
          refine wl_lss rfl rfl rfl ?_
          refine wl_nil ?_
          refine qs_seq ?_
          refine wc_condD rfl (fun h10 => ?_) (fun h10 => ?_)
          · skip
            obtain ⟨o, ho⟩ : ∃ o, l[i]? = some o := ⟨_, List.getElem?_eq_getElem (by omega)⟩
            obtain ⟨b, off, rfl, hc⟩ := (hL.sat hS9 1 rfl).get ho
            refine wc_skip ?_
            refine qs_seq ?_
            refine wc_seq ?_
            refine wc_block ?_
            refine wc_seq ?_
            refine wc_seq ?_
            refine wc_region ?_
            refine wl_move rfl rfl ?_
            refine wl_move rfl rfl ?_
            refine wl_indexAddr i rfl rfl (by first | rfl | omega) (by omega) es_44 rfl ?_
            refine wl_fieldAddr rfl fo_47_0 rfl ?_
            refine wl_load rfl ag_3 (hc 0 _ rfl) rfl ?_
            refine wl_mask 2 rfl rfl rfl rfl (q := 4) rfl rfl ?_
            refine wl_eql rfl rfl rfl ?_
            refine wl_nil ?_
            refine qs_seq ?_
            refine wc_sub (L' := [(57, _), (0, _), (1, _), (2, _), (7, _), (8, _), (9, _)]) (.cons rfl (.cons rfl (.cons rfl (.cons rfl (.cons rfl (.cons rfl (.cons rfl .nil))))))) ?_
            refine wc_condD rfl (fun h11 => ?_) (fun h11 => ?_)
            · skip
              refine wc_region ?_
              refine wl_move rfl rfl ?_
              refine wl_makeIface nif_26 rfl rfl ?_
              refine wl_move rfl rfl ?_
              refine wl_move rfl rfl ?_
              refine wl_indexAddr i rfl rfl (by first | rfl | omega) (by omega) es_44 rfl ?_
              refine wl_fieldAddr rfl fo_47_1 rfl ?_
              refine wl_load rfl ag_3 (hc 1 _ rfl) rfl ?_
              have hC12 := hS9.split [0] [true, false] rfl; dsimp only [selF, pickA, nthA, List.cons_append, List.nil_append] at hC12
              refine wl_call cal_29 rfl (releaseJ hC12 (hG.starL 0 rfl) hJ o.n) rfl ?_
              rintro e w12 ⟨_, rfl, W2, u2, hJ2, hS12⟩; refine ⟨_, rfl, ?_⟩
              replace hS12 := hS12.join rfl; dsimp only [List.dropLast, List.cons_append, List.nil_append] at hS12; clear hC12
              clear hS9
              refine wl_nil ?_
              refine qs_seq ?_
              refine wc_sub (L' := [(0, _), (1, _), (2, _), (7, _), (8, _), (9, _)]) (.cons rfl (.cons rfl (.cons rfl (.cons rfl (.cons rfl (.cons rfl .nil)))))) ?_
              refine wc_seq ?_
              refine wc_region ?_
              refine wl_move rfl rfl ?_
              refine wl_makeIface nif_26 rfl rfl ?_
              have hC13 := hS12.split [0] [true, false] rfl; dsimp only [selF, pickA, nthA, List.cons_append, List.nil_append] at hC13
              refine wl_call cal_30 rfl (used3 hC13 (hG.starL 0 rfl) hJ2.acc) rfl ?_
              rintro e w13 ⟨_, rfl, rfl, hS13⟩; refine ⟨_, rfl, ?_⟩
              replace hS13 := hS13.join rfl; dsimp only [List.dropLast, List.cons_append, List.nil_append] at hS13; clear hC13
              clear hS12
              refine wl_assign rfl rfl ?_
              refine wl_nil ?_
              refine qs_seq ?_
              refine wc_seq ?_
              refine wc_region ?_
              refine wl_move rfl rfl ?_
              refine wl_makeIface nif_26 rfl rfl ?_
              have hC14 := hS13.split [0] [true, false] rfl; dsimp only [selF, pickA, nthA, List.cons_append, List.nil_append] at hC14
              refine wl_call cal_29 rfl (release0 hC14 (hG.starL 0 rfl) hJ2 0 (by omega)) rfl ?_
              rintro e w14 ⟨_, rfl, rfl, hS14⟩; refine ⟨_, rfl, ?_⟩
              replace hS14 := hS14.join rfl; dsimp only [List.dropLast, List.cons_append, List.nil_append] at hS14; clear hC14
              clear hS13
              refine wl_nil ?_
              refine qs_seq ?_
              refine wc_sub (L' := [(10, _), (0, _), (1, _), (2, _), (7, _), (8, _), (9, _)]) (.cons rfl (.cons rfl (.cons rfl (.cons rfl (.cons rfl (.cons rfl (.cons rfl .nil))))))) ?_
              refine wc_seq ?_
              refine wc_region ?_
              refine wl_move rfl rfl ?_
              refine wl_makeIface nif_26 rfl rfl ?_
              have hC15 := hS14.split [0] [true, false] rfl; dsimp only [selF, pickA, nthA, List.cons_append, List.nil_append] at hC15
              refine wl_call cal_29 rfl (release0 hC15 (hG.starL 0 rfl) hJ2 (-7) (by omega)) rfl ?_
              rintro e w15 ⟨_, rfl, rfl, hS15⟩; refine ⟨_, rfl, ?_⟩
              replace hS15 := hS15.join rfl; dsimp only [List.dropLast, List.cons_append, List.nil_append] at hS15; clear hC15
              clear hS14
              refine wl_nil ?_
              refine qs_seq ?_
              refine wc_seq ?_
              refine wc_region ?_
              refine wl_move rfl rfl ?_
              refine wl_makeIface nif_26 rfl rfl ?_
              have hC16 := hS15.split [0] [true, false] rfl; dsimp only [selF, pickA, nthA, List.cons_append, List.nil_append] at hC16
              refine wl_call cal_28 rfl (charge0 hC16 (hG.starL 0 rfl) hJ2) rfl ?_
              rintro e w16 ⟨_, rfl, rfl, W4, hJ4, hS16⟩; refine ⟨_, rfl, ?_⟩
              replace hS16 := hS16.join rfl; dsimp only [List.dropLast, List.cons_append, List.nil_append] at hS16; clear hC16
              clear hS15
              refine wl_neq rfl rfl rfl ?_
              refine wl_move rfl rfl ?_
              refine wl_splitD 87 rfl (fun h17 => ?_) (fun h17 => ?_)
              · skip
                exact absurd h17 (by omega)
              · skip
                refine wl_guard rfl rfl (decide_eq_false h17) ?_
                refine wl_move rfl rfl ?_
                refine wl_guard rfl rfl (decide_eq_false h17) ?_
                refine wl_makeIface nif_26 rfl rfl ?_
                refine wl_guard rfl rfl (decide_eq_false h17) ?_
                have hC18 := hS16.split [0] [true, false] rfl; dsimp only [selF, pickA, nthA, List.cons_append, List.nil_append] at hC18
                refine wl_call cal_30 rfl (used3 hC18 (hG.starL 0 rfl) hJ4.acc) rfl ?_
                rintro e w18 ⟨_, rfl, rfl, hS18⟩; refine ⟨_, rfl, ?_⟩
                replace hS18 := hS18.join rfl; dsimp only [List.dropLast, List.cons_append, List.nil_append] at hS18; clear hC18
                clear hS16
                refine wl_guard rfl rfl (decide_eq_false h17) ?_
                refine wl_move rfl rfl ?_
                refine wl_guard rfl rfl (decide_eq_false h17) ?_
                refine wl_neq rfl rfl rfl ?_
                refine wl_pickF rfl (decide_eq_false h17) rfl rfl ?_
                refine wl_move rfl rfl ?_
                refine wl_splitD 94 rfl (fun h19 => ?_) (fun h19 => ?_)
                · skip
                  exact absurd h19 (by omega)
                · skip
                  refine wl_guard rfl rfl (decide_eq_false h19) ?_
                  refine wl_move rfl rfl ?_
                  refine wl_guard rfl rfl (decide_eq_false h19) ?_
                  refine wl_move rfl rfl ?_
                  refine wl_guard rfl rfl (decide_eq_false h19) ?_
                  have hC20 := hS18.split [0] [true, false] rfl; dsimp only [selF, pickA, nthA, List.cons_append, List.nil_append] at hC20
                  refine wl_call cal_13 rfl (get_sp hC20 k0) rfl ?_
                  rintro e w20 ⟨_, rfl, rfl, hS20⟩; refine ⟨_, rfl, ?_⟩
                  replace hS20 := hS20.join rfl; dsimp only [List.dropLast, List.cons_append, List.nil_append] at hS20; clear hC20
                  clear hS18
                  refine wl_guard rfl rfl (decide_eq_false h19) ?_
                  refine wl_move rfl rfl ?_
                  refine wl_guard rfl rfl (decide_eq_false h19) ?_
                  refine wl_neqS rfl rfl rfl ?_
                  refine wl_pickF rfl (decide_eq_false h19) rfl rfl ?_
                  refine wl_nil ?_
                  refine qs_seq ?_
                  refine wc_sub (L' := [(100, _), (0, _), (1, _), (2, _), (7, _), (8, _), (9, _)]) (.cons rfl (.cons rfl (.cons rfl (.cons rfl (.cons rfl (.cons rfl (.cons rfl .nil))))))) ?_
                  refine wc_condD rfl (fun h21 => ?_) (fun h21 => ?_)
                  · skip
                    exact absurd (by rw [hJ4.oth k0 hkz, if_pos rfl]) h21
                  · skip
                    refine wc_skip ?_
                    refine qs_block_normal ?_
                    refine qs_seq ?_
                    refine wc_region ?_
                    refine wl_move rfl rfl ?_
                    refine wl_add rfl rfl (by omega) (by omega) rfl ?_
                    refine wl_assign rfl rfl ?_
                    refine wl_nil ?_
                    exact qs_round (L1 := [(0, _), (1, _), (2, _), (7, _), (8, _), (9, intV ((i + 1 : Nat) : Int))]) (.cons rfl (.cons rfl (.cons rfl (.cons rfl (.cons rfl (.cons rfl .nil)))))) (k1 := l.length - (i + 1)) (by omega) ⟨i + 1, _, _, rfl, rfl, hS20, by omega, hJ4⟩
            · skip
              refine wc_region ?_
              refine wl_move rfl rfl ?_
              refine wl_makeIface nif_26 rfl rfl ?_
              refine wl_move rfl rfl ?_
              refine wl_move rfl rfl ?_
              refine wl_indexAddr i rfl rfl (by first | rfl | omega) (by omega) es_44 rfl ?_
              refine wl_fieldAddr rfl fo_47_1 rfl ?_
              refine wl_load rfl ag_3 (hc 1 _ rfl) rfl ?_
              have hC22 := hS9.split [0] [true, false] rfl; dsimp only [selF, pickA, nthA, List.cons_append, List.nil_append] at hC22
              refine wl_call cal_28 rfl (chargeJ hC22 (hG.starL 0 rfl) hJ o.n) rfl ?_
              rintro e w22 ⟨_, rfl, W2, u2, hJ2, hS22⟩; refine ⟨_, rfl, ?_⟩
              replace hS22 := hS22.join rfl; dsimp only [List.dropLast, List.cons_append, List.nil_append] at hS22; clear hC22
              clear hS9
              refine wl_nil ?_
              refine qs_seq ?_
              refine wc_sub (L' := [(0, _), (1, _), (2, _), (7, _), (8, _), (9, _)]) (.cons rfl (.cons rfl (.cons rfl (.cons rfl (.cons rfl (.cons rfl .nil)))))) ?_
              refine wc_seq ?_
              refine wc_region ?_
              refine wl_move rfl rfl ?_
              refine wl_makeIface nif_26 rfl rfl ?_
              have hC23 := hS22.split [0] [true, false] rfl; dsimp only [selF, pickA, nthA, List.cons_append, List.nil_append] at hC23
              refine wl_call cal_30 rfl (used3 hC23 (hG.starL 0 rfl) hJ2.acc) rfl ?_
              rintro e w23 ⟨_, rfl, rfl, hS23⟩; refine ⟨_, rfl, ?_⟩
              replace hS23 := hS23.join rfl; dsimp only [List.dropLast, List.cons_append, List.nil_append] at hS23; clear hC23
              clear hS22
              refine wl_assign rfl rfl ?_
              refine wl_nil ?_
              refine qs_seq ?_
              refine wc_seq ?_
              refine wc_region ?_
              refine wl_move rfl rfl ?_
              refine wl_makeIface nif_26 rfl rfl ?_
              have hC24 := hS23.split [0] [true, false] rfl; dsimp only [selF, pickA, nthA, List.cons_append, List.nil_append] at hC24
              refine wl_call cal_29 rfl (release0 hC24 (hG.starL 0 rfl) hJ2 0 (by omega)) rfl ?_
              rintro e w24 ⟨_, rfl, rfl, hS24⟩; refine ⟨_, rfl, ?_⟩
              replace hS24 := hS24.join rfl; dsimp only [List.dropLast, List.cons_append, List.nil_append] at hS24; clear hC24
              clear hS23
              refine wl_nil ?_
              refine qs_seq ?_
              refine wc_sub (L' := [(10, _), (0, _), (1, _), (2, _), (7, _), (8, _), (9, _)]) (.cons rfl (.cons rfl (.cons rfl (.cons rfl (.cons rfl (.cons rfl (.cons rfl .nil))))))) ?_
              refine wc_seq ?_
              refine wc_region ?_
              refine wl_move rfl rfl ?_
              refine wl_makeIface nif_26 rfl rfl ?_
              have hC25 := hS24.split [0] [true, false] rfl; dsimp only [selF, pickA, nthA, List.cons_append, List.nil_append] at hC25
              refine wl_call cal_29 rfl (release0 hC25 (hG.starL 0 rfl) hJ2 (-7) (by omega)) rfl ?_
              rintro e w25 ⟨_, rfl, rfl, hS25⟩; refine ⟨_, rfl, ?_⟩
              replace hS25 := hS25.join rfl; dsimp only [List.dropLast, List.cons_append, List.nil_append] at hS25; clear hC25
              clear hS24
              refine wl_nil ?_
              refine qs_seq ?_
              refine wc_seq ?_
              refine wc_region ?_
              refine wl_move rfl rfl ?_
              refine wl_makeIface nif_26 rfl rfl ?_
              have hC26 := hS25.split [0] [true, false] rfl; dsimp only [selF, pickA, nthA, List.cons_append, List.nil_append] at hC26
              refine wl_call cal_28 rfl (charge0 hC26 (hG.starL 0 rfl) hJ2) rfl ?_
              rintro e w26 ⟨_, rfl, rfl, W4, hJ4, hS26⟩; refine ⟨_, rfl, ?_⟩
              replace hS26 := hS26.join rfl; dsimp only [List.dropLast, List.cons_append, List.nil_append] at hS26; clear hC26
              clear hS25
              refine wl_neq rfl rfl rfl ?_
              refine wl_move rfl rfl ?_
              refine wl_splitD 87 rfl (fun h27 => ?_) (fun h27 => ?_)
              · skip
                exact absurd h27 (by omega)
              · skip
                refine wl_guard rfl rfl (decide_eq_false h27) ?_
                refine wl_move rfl rfl ?_
                refine wl_guard rfl rfl (decide_eq_false h27) ?_
                refine wl_makeIface nif_26 rfl rfl ?_
                refine wl_guard rfl rfl (decide_eq_false h27) ?_
                have hC28 := hS26.split [0] [true, false] rfl; dsimp only [selF, pickA, nthA, List.cons_append, List.nil_append] at hC28
                refine wl_call cal_30 rfl (used3 hC28 (hG.starL 0 rfl) hJ4.acc) rfl ?_
                rintro e w28 ⟨_, rfl, rfl, hS28⟩; refine ⟨_, rfl, ?_⟩
                replace hS28 := hS28.join rfl; dsimp only [List.dropLast, List.cons_append, List.nil_append] at hS28; clear hC28
                clear hS26
                refine wl_guard rfl rfl (decide_eq_false h27) ?_
                refine wl_move rfl rfl ?_
                refine wl_guard rfl rfl (decide_eq_false h27) ?_
                refine wl_neq rfl rfl rfl ?_
                refine wl_pickF rfl (decide_eq_false h27) rfl rfl ?_
                refine wl_move rfl rfl ?_
                refine wl_splitD 94 rfl (fun h29 => ?_) (fun h29 => ?_)
                · skip
                  exact absurd h29 (by omega)
                · skip
                  refine wl_guard rfl rfl (decide_eq_false h29) ?_
                  refine wl_move rfl rfl ?_
                  refine wl_guard rfl rfl (decide_eq_false h29) ?_
                  refine wl_move rfl rfl ?_
                  refine wl_guard rfl rfl (decide_eq_false h29) ?_
                  have hC30 := hS28.split [0] [true, false] rfl; dsimp only [selF, pickA, nthA, List.cons_append, List.nil_append] at hC30
                  refine wl_call cal_13 rfl (get_sp hC30 k0) rfl ?_
                  rintro e w30 ⟨_, rfl, rfl, hS30⟩; refine ⟨_, rfl, ?_⟩
                  replace hS30 := hS30.join rfl; dsimp only [List.dropLast, List.cons_append, List.nil_append] at hS30; clear hC30
                  clear hS28
                  refine wl_guard rfl rfl (decide_eq_false h29) ?_
                  refine wl_move rfl rfl ?_
                  refine wl_guard rfl rfl (decide_eq_false h29) ?_
                  refine wl_neqS rfl rfl rfl ?_
                  refine wl_pickF rfl (decide_eq_false h29) rfl rfl ?_
                  refine wl_nil ?_
                  refine qs_seq ?_
                  refine wc_sub (L' := [(100, _), (0, _), (1, _), (2, _), (7, _), (8, _), (9, _)]) (.cons rfl (.cons rfl (.cons rfl (.cons rfl (.cons rfl (.cons rfl (.cons rfl .nil))))))) ?_
                  refine wc_condD rfl (fun h31 => ?_) (fun h31 => ?_)
                  · skip
                    exact absurd (by rw [hJ4.oth k0 hkz, if_pos rfl]) h31
                  · skip
                    refine wc_skip ?_
                    refine qs_block_normal ?_
                    refine qs_seq ?_
                    refine wc_region ?_
                    refine wl_move rfl rfl ?_
                    refine wl_add rfl rfl (by omega) (by omega) rfl ?_
                    refine wl_assign rfl rfl ?_
                    refine wl_nil ?_
                    exact qs_round (L1 := [(0, _), (1, _), (2, _), (7, _), (8, _), (9, intV ((i + 1 : Nat) : Int))]) (.cons rfl (.cons rfl (.cons rfl (.cons rfl (.cons rfl (.cons rfl .nil)))))) (k1 := l.length - (i + 1)) (by omega) ⟨i + 1, _, _, rfl, rfl, hS30, by omega, hJ4⟩
          · skip
            refine wc_exit ?_
            refine qs_then_exit ?_
            refine qs_then_exit ?_
            refine qs_block_exit ?_
            refine qs_seq ?_
            refine wc_seq ?_
            refine wc_region ?_
            refine wl_move rfl rfl ?_
            have hC32 := hS9.split [0] [true, false] rfl; dsimp only [selF, pickA, nthA, List.cons_append, List.nil_append] at hC32
            refine wl_call cal_23 rfl (keys_sp hC32 [] (hJ.keys (by omega))) rfl ?_
            rintro e w32 ⟨_, rfl, lk, hlk, hS32⟩; refine ⟨_, rfl, ?_⟩
            replace hS32 := hS32.join rfl; dsimp only [List.dropLast, List.cons_append, List.nil_append] at hS32; clear hC32
            clear hS9
            have hlkl := keysOf_len hlk (hJ.keys (by omega))
            refine wl_assign rfl rfl ?_
            refine wl_nil ?_
            refine qs_seq ?_
            refine wc_sub (L' := [(11, _), (1, _), (7, _), (8, _)]) (.cons rfl (.cons rfl (.cons rfl (.cons rfl .nil)))) ?_
            refine wc_seq ?_
            refine wc_seq ?_
            refine wc_region ?_
            refine wl_assign rfl rfl ?_
            refine wl_nil ?_
            refine qs_seq ?_
            refine wc_block ?_
            refine wc_loop (fun K0 E0 W0 => ∃ (j : Nat) (kv : Value), K0 = lk.length - j ∧ E0 = [(1, strV k0), (7, .bool true), (8, ptrV p 0), (11, kv), (12, intV (j : Int))] ∧ Sat W0 [rowT stC kv lk, worldT p W, F] ∧ (j ≤ lk.length)) (L0 := [(1, _), (7, _), (8, _), (11, _), (12, _)]) (lk.length - 0) (.cons rfl (.cons rfl (.cons rfl (.cons rfl (.cons rfl .nil))))) ⟨0, _, rfl, rfl, hS32, by omega⟩ ?_
            rintro _ _ w33 ⟨j, kv, rfl, rfl, hS33, hj⟩
            refine wc_seq ?_
            refine wc_seq ?_
            refine wc_region ?_
            refine wl_move rfl rfl ?_
            refine wl_move rfl rfl ?_
            first | refine wl_lenL Tryd.underlying40 rfl rfl ?_ | refine wl_lenO 0 hS33 Tryd.underlying40 rfl rfl rfl ?_
            refine wl_lss rfl rfl rfl ?_
            refine wl_nil ?_
            refine qs_seq ?_
            refine wc_condD rfl (fun h34 => ?_) (fun h34 => ?_)
            · skip
              obtain ⟨s, hsj⟩ : ∃ s, lk[j]? = some s := ⟨_, List.getElem?_eq_getElem (by omega)⟩
              have hks := hJ.key hlk hsj
              refine wc_skip ?_
              refine qs_seq ?_
              refine wc_seq ?_
              refine wc_block ?_
              refine wc_seq ?_
              refine wc_region ?_
              refine wl_move rfl rfl ?_
              refine wl_move rfl rfl ?_
              refine wl_rowIdx stC 0 j hS33 rfl rfl rfl (by first | rfl | omega) hsj es_40 rfl ?_
              intro bx35 capx35 hvx35
              refine wl_rowLoad 0 j 0 hS33 rfl hvx35 rfl rfl hsj ag_9 rfl rfl ?_
              refine wl_neqS rfl rfl rfl ?_
              refine wl_move rfl rfl ?_
              refine wl_splitD 114 rfl (fun h36 => ?_) (fun h36 => ?_)
              · skip
                refine wl_guard rfl rfl (decide_eq_true h36) ?_
                refine wl_move rfl rfl ?_
                refine wl_guard rfl rfl (decide_eq_true h36) ?_
                refine wl_move rfl rfl ?_
                refine wl_guard rfl rfl (decide_eq_true h36) ?_
                refine wl_rowIdx stC 0 j hS33 rfl rfl rfl (by first | rfl | omega) hsj es_40 rfl ?_
                intro bx37 capx37 hvx37
                refine wl_guard rfl rfl (decide_eq_true h36) ?_
                refine wl_rowLoad 0 j 0 hS33 rfl hvx37 rfl rfl hsj ag_9 rfl rfl ?_
                refine wl_guard rfl rfl (decide_eq_true h36) ?_
                refine wl_move rfl rfl ?_
                refine wl_guard rfl rfl (decide_eq_true h36) ?_
                refine wl_neqS rfl rfl rfl ?_
                refine wl_pickT rfl (decide_eq_true h36) rfl rfl ?_
                refine wl_nil ?_
                refine qs_seq ?_
                refine wc_sub (L' := [(121, _), (1, _), (7, _), (8, _), (11, _), (12, _)]) (.cons rfl (.cons rfl (.cons rfl (.cons rfl (.cons rfl (.cons rfl .nil)))))) ?_
                refine wc_condD rfl (fun h38 => ?_) (fun h38 => ?_)
                · skip
                  exact hks.elim (fun e => absurd e (by assumption)) (fun e => absurd e h38)
                · skip
                  refine wc_skip ?_
                  refine qs_block_normal ?_
                  refine qs_seq ?_
                  refine wc_region ?_
                  refine wl_move rfl rfl ?_
                  refine wl_add rfl rfl (by omega) (by omega) rfl ?_
                  refine wl_assign rfl rfl ?_
                  refine wl_nil ?_
                  exact qs_round (L1 := [(1, _), (7, _), (8, _), (11, _), (12, intV ((j + 1 : Nat) : Int))]) (.cons rfl (.cons rfl (.cons rfl (.cons rfl (.cons rfl .nil))))) (k1 := lk.length - (j + 1)) (by omega) ⟨j + 1, _, rfl, rfl, hS33, by omega⟩
              · skip
                refine wl_unwanted rfl rfl (decide_eq_false h36) rfl ?_
                refine wl_unwanted rfl rfl (decide_eq_false h36) rfl ?_
                refine wl_unwanted rfl rfl (decide_eq_false h36) rfl ?_
                refine wl_unwanted rfl rfl (decide_eq_false h36) rfl ?_
                refine wl_unwanted rfl rfl (decide_eq_false h36) rfl ?_
                refine wl_unwanted rfl rfl (decide_eq_false h36) rfl ?_
                refine wl_pickF rfl (decide_eq_false h36) rfl rfl ?_
                refine wl_nil ?_
                refine qs_seq ?_
                refine wc_sub (L' := [(121, _), (1, _), (7, _), (8, _), (11, _), (12, _)]) (.cons rfl (.cons rfl (.cons rfl (.cons rfl (.cons rfl (.cons rfl .nil)))))) ?_
                refine wc_condF rfl ?_
                refine wc_skip ?_
                refine qs_block_normal ?_
                refine qs_seq ?_
                refine wc_region ?_
                refine wl_move rfl rfl ?_
                refine wl_add rfl rfl (by omega) (by omega) rfl ?_
                refine wl_assign rfl rfl ?_
                refine wl_nil ?_
                exact qs_round (L1 := [(1, _), (7, _), (8, _), (11, _), (12, intV ((j + 1 : Nat) : Int))]) (.cons rfl (.cons rfl (.cons rfl (.cons rfl (.cons rfl .nil))))) (k1 := lk.length - (j + 1)) (by omega) ⟨j + 1, _, rfl, rfl, hS33, by omega⟩
            · skip
              refine wc_exit ?_
              refine qs_then_exit ?_
              refine qs_then_exit ?_
              refine qs_block_exit ?_
              refine qs_seq ?_
              refine wc_seq ?_
              refine wc_region ?_
              refine wl_move rfl rfl ?_
              refine wl_move rfl rfl ?_
              refine wl_guard rfl rfl rfl ?_
              refine wl_move rfl rfl ?_
              refine wl_guard rfl rfl rfl ?_
              have hC39 := hS33.split [1] [false, true, false] rfl; dsimp only [selF, pickA, nthA, List.cons_append, List.nil_append] at hC39
              refine wl_call cal_24 rfl (objects_sp hC39 hJ.objs) rfl ?_
              rintro e w39 ⟨_, rfl, ln, hln, hS39⟩; refine ⟨_, rfl, ?_⟩
              replace hS39 := hS39.join rfl; dsimp only [List.dropLast, List.cons_append, List.nil_append] at hS39; clear hC39
              clear hS33
              obtain rfl := hJ.names hln
              refine wl_guard rfl rfl rfl ?_
              refine wl_lenO 0 hS39 Tryd.underlying40 rfl rfl rfl ?_
              refine wl_guard rfl rfl rfl ?_
              refine wl_eql rfl rfl rfl ?_
              refine wl_pickT rfl rfl rfl rfl ?_
              refine wl_assign rfl rfl ?_
              refine wl_nil ?_
              refine qs_seq ?_
              refine wc_sub (L' := [(6, _)]) (.cons rfl .nil) ?_
              refine wc_ret ?_
              refine fin1 (.inr rfl) rfl rfl ?_
              exact ⟨_, rfl, rfl, hS39.pick [3] rfl⟩

end Go.Proofs.YtieelilkkpcmdaaDoor
