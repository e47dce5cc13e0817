/- laws of account: small, few -/
import Derived.Test.YtieelilkkpcmdaaDoorAc
namespace Go.Proofs.YtieelilkkpcmdaaDoor
open Go.RowKit M
set_option linter.unusedVariables false
structure OpA where
  k : Int
  n : Int
  s : Bs
def aV (o : OpA) : List Value := [intV o.k, intV o.n, strV o.s]
def aC : RowC OpA := ⟨aV, 3, by decide, fun _ => rfl, fun _ => rfl⟩
def fewA (l : List OpA) : Bool := (l.all fun o => decide (o.s.length ≤ 40)) && decide (l.length ≤ 100)
structure AccI (W : WS) (u : Int) : Prop where
  cell : W.cells [122] = encA u
  lo : 0 ≤ u
  hi : u ≤ 1024
theorem AccI.empty : AccI emptyW 0 := ⟨by simp [emptyW, encA], by omega, by omega⟩
theorem AccI.uA {W : WS} {u : Int} (h : AccI W u) : uA W = u := by rw [Go.Proofs.YtieelilkkpcmdaaDoor.uA, h.cell, usedB_enc ⟨h.lo, h.hi⟩]
theorem AccI.z {W : WS} {u : Int} (h : AccI W u) : (W.cells [122]).length ≤ 1000000 := by rw [h.cell]; have := encA_len h.hi; omega
theorem setA_cell (W : WS) (n : Int) : (setA W n).cells [122] = encA n := by simp [setA, putS, updC]
theorem AccI.set {W : WS} {n : Int} (h : 0 ≤ n ∧ n ≤ 1024) : AccI (setA W n) n := ⟨setA_cell W n, h.1, h.2⟩
theorem used3 {w : World} {p : Nat} {W : WS} {F : Th} {u : Int} (hS : Sat w [worldT p W, F]) (hG : Ent F WireG) (hA : AccI W u) :
    Calls Tryd.prog 30 #[.iface 26 (ptrV p 0)] w (Ret fun v w' => v = intV u ∧ Sat w' [worldT p W, F]) := by
  exact (used_sp hS hG hA.z).mono fun e w' h => h.mono fun v w' ⟨h1, h2⟩ => ⟨by rw [h1, hA.uA], h2⟩

theorem charge3 {w : World} {p : Nat} {W : WS} {F : Th} {u : Int} (hS : Sat w [worldT p W, F]) (hG : Ent F WireG) (hA : AccI W u) (n : Int) :
    Calls Tryd.prog 28 #[.iface 26 (ptrV p 0), intV n] w (Ret fun v w' => (n < 0 ∧ v = intV 1 ∧ Sat w' [worldT p W, F]) ∨ (0 ≤ n ∧ 1024 - u < n ∧ v = intV 24 ∧ Sat w' [worldT p W, F]) ∨ (0 ≤ n ∧ n ≤ 1024 - u ∧ v = intV 0 ∧ ∃ W', AccI W' (u + n) ∧ Sat w' [worldT p W', F])) := by
  refine (charge_sp hS hG hA.z n).mono fun e w' h => h.mono fun v w' ⟨h1, h2⟩ => ?_
  unfold chargeV at h1; unfold chargeS at h2
  have hlo := hA.lo
  rw [hA.uA] at h1 h2
  by_cases c1 : n < 0
  · rw [if_pos c1] at h1 h2; exact .inl ⟨c1, h1, h2⟩
  · rw [if_neg c1] at h1 h2
    by_cases c2 : 1024 - u < n
    · rw [if_pos c2] at h1 h2; exact .inr (.inl ⟨by omega, c2, h1, h2⟩)
    · rw [if_neg c2] at h1 h2; exact .inr (.inr ⟨by omega, by omega, h1, _, AccI.set (by omega), h2⟩)

theorem chargeOk {w : World} {p : Nat} {W : WS} {F : Th} {u : Int} (hS : Sat w [worldT p W, F]) (hG : Ent F WireG) (hA : AccI W u) (n : Int) (hn : 0 ≤ n ∧ n ≤ 1024 - u) :
    Calls Tryd.prog 28 #[.iface 26 (ptrV p 0), intV n] w (Ret fun v w' => v = intV 0 ∧ ∃ W', AccI W' (u + n) ∧ Sat w' [worldT p W', F]) := by
  refine (charge3 hS hG hA n).mono fun e w' h => h.mono fun v w' h => ?_
  rcases h with ⟨h, _⟩ | ⟨_, h, _⟩ | ⟨_, _, h1, h2⟩
  · omega
  · omega
  · exact ⟨h1, h2⟩

theorem chargeMem {w : World} {p : Nat} {W : WS} {F : Th} {u : Int} (hS : Sat w [worldT p W, F]) (hG : Ent F WireG) (hA : AccI W u) (n : Int) (hn : 1024 - u < n) :
    Calls Tryd.prog 28 #[.iface 26 (ptrV p 0), intV n] w (Ret fun v w' => v = intV 24 ∧ Sat w' [worldT p W, F]) := by
  have hlo := hA.hi
  refine (charge3 hS hG hA n).mono fun e w' h => h.mono fun v w' h => ?_
  rcases h with ⟨h, _⟩ | ⟨_, _, h1, h2⟩ | ⟨_, h, _⟩
  · omega
  · exact ⟨h1, h2⟩
  · omega

theorem release3 {w : World} {p : Nat} {W : WS} {F : Th} {u : Int} (hS : Sat w [worldT p W, F]) (hG : Ent F WireG) (hA : AccI W u) (n : Int) :
    Calls Tryd.prog 29 #[.iface 26 (ptrV p 0), intV n] w (Ret fun v w' => v = .tuple #[] ∧ ∃ W', AccI W' (u - max (min n u) 0) ∧ Sat w' [worldT p W', F]) := by
  refine (release_sp hS hG hA.z n).mono fun e w' h => h.mono fun v w' ⟨h1, h2⟩ => ⟨h1, ?_⟩
  unfold releaseS at h2
  have hlo := hA.lo
  have hhi := hA.hi
  rw [hA.uA] at h2
  by_cases c1 : 1 ≤ n
  · rw [if_pos c1] at h2
    rw [show u - max (min n u) 0 = u - min n u by omega]
    exact ⟨_, AccI.set (by omega), h2⟩
  · rw [if_neg c1] at h2
    rw [show u - max (min n u) 0 = u by omega]
    exact ⟨_, hA, h2⟩

set_option maxRecDepth 100000 in
theorem asmall_sp {w : World} {F : Th} (hS : Sat w [F]) (hG : Ent F WireG) :
    Calls Tryd.prog 25 #[] w (Ret fun v w' => v = .bool true ∧ Sat w' [F]) := by
  refine calls_enter Tryd.func25 rfl Tryd.ntmps25 rfl ?_
  refine wc_seq ?_
  refine wc_region ?_
  refine wl_assign rfl rfl ?_
  refine wl_nil ?_
  refine qs_seq ?_
  refine wc_seq ?_
  refine wc_region ?_
  have hC1 := hS.split [] [false] rfl; dsimp only [selF, pickA, nthA, List.cons_append, List.nil_append] at hC1
  refine wl_call cal_26 rfl (new_sp hC1) rfl ?_
  rintro e w1 ⟨_, rfl, p, rfl, hS1⟩; refine ⟨_, rfl, ?_⟩
  replace hS1 := hS1.join rfl; dsimp only [List.dropLast, List.cons_append, List.nil_append] at hS1; clear hC1
  refine wl_assign rfl rfl ?_
  refine wl_nil ?_
  refine qs_seq ?_
  refine wc_seq ?_
  refine wc_seq ?_
  refine wc_region ?_
  refine wl_move rfl rfl ?_
  refine wl_eqlNil Tryd.underlying26 rfl rfl rfl ?_
  refine wl_nil ?_
  refine qs_seq ?_
  refine wc_condF rfl ?_
  refine wc_skip ?_
  refine qs_seq ?_
  refine wc_seq ?_
  refine wc_region ?_
  refine wl_move rfl rfl ?_
  refine wl_makeIface nif_26 rfl rfl ?_
  have hC2 := hS1.split [0] [true, false] rfl; dsimp only [selF, pickA, nthA, List.cons_append, List.nil_append] at hC2
  refine wl_call cal_28 rfl (chargeOk hC2 (hG.starL 0 rfl) AccI.empty 1000 (by omega)) rfl ?_
  rintro e w2 ⟨_, rfl, rfl, W1, hA1, hS2⟩; refine ⟨_, rfl, ?_⟩
  replace hS2 := hS2.join rfl; dsimp only [List.dropLast, List.cons_append, List.nil_append] at hS2; clear hC2
  clear hS1
  refine wl_assign rfl rfl ?_
  refine wl_nil ?_
  refine qs_seq ?_
  refine wc_seq ?_
  refine wc_region ?_
  refine wl_move rfl rfl ?_
  refine wl_makeIface nif_26 rfl rfl ?_
  have hC3 := hS2.split [0] [true, false] rfl; dsimp only [selF, pickA, nthA, List.cons_append, List.nil_append] at hC3
  refine wl_call cal_28 rfl (chargeMem hC3 (hG.starL 0 rfl) hA1 25 (by omega)) rfl ?_
  rintro e w3 ⟨_, rfl, rfl, hS3⟩; refine ⟨_, rfl, ?_⟩
  replace hS3 := hS3.join rfl; dsimp only [List.dropLast, List.cons_append, List.nil_append] at hS3; clear hC3
  clear hS2
  refine wl_assign rfl rfl ?_
  refine wl_nil ?_
  refine qs_seq ?_
  refine wc_sub (L' := [(3, _), (2, _), (1, _), (0, _)]) (.cons rfl (.cons rfl (.cons rfl (.cons rfl .nil)))) ?_
  refine wc_seq ?_
  refine wc_region ?_
  refine wl_move rfl rfl ?_
  refine wl_makeIface nif_26 rfl rfl ?_
  have hC4 := hS3.split [0] [true, false] rfl; dsimp only [selF, pickA, nthA, List.cons_append, List.nil_append] at hC4
  refine wl_call cal_28 rfl (chargeOk hC4 (hG.starL 0 rfl) hA1 24 (by omega)) rfl ?_
  rintro e w4 ⟨_, rfl, rfl, W2, hA2, hS4⟩; refine ⟨_, rfl, ?_⟩
  replace hS4 := hS4.join rfl; dsimp only [List.dropLast, List.cons_append, List.nil_append] at hS4; clear hC4
  clear hS3
  refine wl_assign rfl rfl ?_
  refine wl_nil ?_
  refine qs_seq ?_
  refine wc_seq ?_
  refine wc_region ?_
  refine wl_move rfl rfl ?_
  refine wl_makeIface nif_26 rfl rfl ?_
  have hC5 := hS4.split [0] [true, false] rfl; dsimp only [selF, pickA, nthA, List.cons_append, List.nil_append] at hC5
  refine wl_call cal_30 rfl (used3 hC5 (hG.starL 0 rfl) hA2) rfl ?_
  rintro e w5 ⟨_, rfl, rfl, hS5⟩; refine ⟨_, rfl, ?_⟩
  replace hS5 := hS5.join rfl; dsimp only [List.dropLast, List.cons_append, List.nil_append] at hS5; clear hC5
  clear hS4
  refine wl_assign rfl rfl ?_
  refine wl_nil ?_
  refine qs_seq ?_
  refine wc_sub (L' := [(5, _), (4, _), (3, _), (2, _), (1, _), (0, _)]) (.cons rfl (.cons rfl (.cons rfl (.cons rfl (.cons rfl (.cons rfl .nil)))))) ?_
  refine wc_seq ?_
  refine wc_region ?_
  refine wl_move rfl rfl ?_
  refine wl_makeIface nif_26 rfl rfl ?_
  have hC6 := hS5.split [0] [true, false] rfl; dsimp only [selF, pickA, nthA, List.cons_append, List.nil_append] at hC6
  refine wl_call cal_29 rfl (release3 hC6 (hG.starL 0 rfl) hA2 1023) rfl ?_
  rintro e w6 ⟨_, rfl, rfl, W3, hA3, hS6⟩; refine ⟨_, rfl, ?_⟩
  replace hS6 := hS6.join rfl; dsimp only [List.dropLast, List.cons_append, List.nil_append] at hS6; clear hC6
  clear hS5
  refine wl_nil ?_
  refine qs_seq ?_
  refine wc_seq ?_
  refine wc_region ?_
  refine wl_move rfl rfl ?_
  refine wl_makeIface nif_26 rfl rfl ?_
  have hC7 := hS6.split [0] [true, false] rfl; dsimp only [selF, pickA, nthA, List.cons_append, List.nil_append] at hC7
  refine wl_call cal_30 rfl (used3 hC7 (hG.starL 0 rfl) hA3) rfl ?_
  rintro e w7 ⟨_, rfl, rfl, hS7⟩; refine ⟨_, rfl, ?_⟩
  replace hS7 := hS7.join rfl; dsimp only [List.dropLast, List.cons_append, List.nil_append] at hS7; clear hC7
  clear hS6
  refine wl_assign rfl rfl ?_
  refine wl_nil ?_
  refine qs_seq ?_
  refine wc_sub (L' := [(6, _), (5, _), (4, _), (3, _), (2, _), (1, _), (0, _)]) (.cons rfl (.cons rfl (.cons rfl (.cons rfl (.cons rfl (.cons rfl (.cons rfl .nil))))))) ?_
  refine wc_seq ?_
  refine wc_region ?_
  refine wl_move rfl rfl ?_
  refine wl_makeIface nif_26 rfl rfl ?_
  have hC8 := hS7.split [0] [true, false] rfl; dsimp only [selF, pickA, nthA, List.cons_append, List.nil_append] at hC8
  refine wl_call cal_29 rfl (release3 hC8 (hG.starL 0 rfl) hA3 5) rfl ?_
  rintro e w8 ⟨_, rfl, rfl, W4, hA4, hS8⟩; refine ⟨_, rfl, ?_⟩
  replace hS8 := hS8.join rfl; dsimp only [List.dropLast, List.cons_append, List.nil_append] at hS8; clear hC8
  clear hS7
  refine wl_nil ?_
  refine qs_seq ?_
  refine wc_seq ?_
  refine wc_region ?_
  refine wl_move rfl rfl ?_
  refine wl_eql rfl rfl rfl ?_
  refine wl_move rfl rfl ?_
  refine wl_splitD 33 rfl (fun h9 => ?_) (fun h9 => ?_)
  · skip
    refine wl_guard rfl rfl (decide_eq_true h9) ?_
    refine wl_move rfl rfl ?_
    refine wl_guard rfl rfl (decide_eq_true h9) ?_
    refine wl_eql rfl rfl rfl ?_
    refine wl_pickT rfl (decide_eq_true h9) rfl rfl ?_
    refine wl_move rfl rfl ?_
    refine wl_splitD 37 rfl (fun h10 => ?_) (fun h10 => ?_)
    · skip
      refine wl_guard rfl rfl (decide_eq_true h10) ?_
      refine wl_move rfl rfl ?_
      refine wl_guard rfl rfl (decide_eq_true h10) ?_
      refine wl_eql rfl rfl rfl ?_
      refine wl_pickT rfl (decide_eq_true h10) rfl rfl ?_
      refine wl_move rfl rfl ?_
      refine wl_splitD 41 rfl (fun h11 => ?_) (fun h11 => ?_)
      · skip
        refine wl_guard rfl rfl (decide_eq_true h11) ?_
        refine wl_move rfl rfl ?_
        refine wl_guard rfl rfl (decide_eq_true h11) ?_
        refine wl_eql rfl rfl rfl ?_
        refine wl_pickT rfl (decide_eq_true h11) rfl rfl ?_
        refine wl_move rfl rfl ?_
        refine wl_splitD 45 rfl (fun h12 => ?_) (fun h12 => ?_)
        · skip
          refine wl_guard rfl rfl (decide_eq_true h12) ?_
          refine wl_move rfl rfl ?_
          refine wl_guard rfl rfl (decide_eq_true h12) ?_
          refine wl_eql rfl rfl rfl ?_
          refine wl_pickT rfl (decide_eq_true h12) rfl rfl ?_
          refine wl_move rfl rfl ?_
          refine wl_splitD 49 rfl (fun h13 => ?_) (fun h13 => ?_)
          · skip
            refine wl_guard rfl rfl (decide_eq_true h13) ?_
            refine wl_move rfl rfl ?_
            refine wl_guard rfl rfl (decide_eq_true h13) ?_
            refine wl_makeIface nif_26 rfl rfl ?_
            refine wl_guard rfl rfl (decide_eq_true h13) ?_
            have hC14 := hS8.split [0] [true, false] rfl; dsimp only [selF, pickA, nthA, List.cons_append, List.nil_append] at hC14
            refine wl_call cal_30 rfl (used3 hC14 (hG.starL 0 rfl) hA4) rfl ?_
            rintro e w14 ⟨_, rfl, rfl, hS14⟩; refine ⟨_, rfl, ?_⟩
            replace hS14 := hS14.join rfl; dsimp only [List.dropLast, List.cons_append, List.nil_append] at hS14; clear hC14
            clear hS8
            refine wl_guard rfl rfl (decide_eq_true h13) ?_
            refine wl_eql rfl rfl rfl ?_
            refine wl_pickT rfl (decide_eq_true h13) rfl rfl ?_
            refine wl_assign rfl rfl ?_
            refine wl_nil ?_
            refine qs_seq ?_
            refine wc_sub (L' := [(0, _)]) (.cons rfl .nil) ?_
            refine wc_ret ?_
            refine fin1 (.inr rfl) rfl rfl ?_
            exact ⟨_, rfl, rfl, hS14.pick [1] rfl⟩
          · skip
            exact absurd (by decide) h13
        · skip
          exact absurd (by decide) h12
      · skip
        exact absurd (by decide) h11
    · skip
      exact absurd (by decide) h10
  · skip
    exact absurd (by decide) h9

theorem fewA_bad {l : List OpA} {i : Nat} {o : OpA} (ho : l[i]? = some o) (h : 40 < (o.s.length : Int)) : fewA l = false := by
  have : (l.all fun o => decide (o.s.length ≤ 40)) = false := by
    rw [List.all_eq_false]; exact ⟨o, List.mem_of_getElem? ho, by simp; omega⟩
  simp [fewA, this]
theorem fewA_end {l : List OpA} {i : Nat} (hok : ∀ j o, j < i → l[j]? = some o → o.s.length ≤ 40) (hi : i = l.length) : decide ((l.length : Int) ≤ 100) = fewA l := by
  have : (l.all fun o => decide (o.s.length ≤ 40)) = true := by
    rw [List.all_eq_true]; intro o ho
    obtain ⟨j, hj⟩ := List.mem_iff_getElem?.1 ho
    exact decide_eq_true (hok j o (by have := (List.getElem?_eq_some_iff.1 hj).1; omega) hj)
  simp only [fewA, this, Bool.true_and]
  congr 1; exact propext (by omega)
set_option maxRecDepth 100000 in
theorem afew_sp {w : World} {F : Th} (hS : Sat w [F]) {lv : Value} {l : List OpA} (hL : Ent F (RdL aC lv l)) :
    Calls Tryd.prog 27 #[lv] w (Ret fun v w' => v = .bool (fewA l) ∧ Sat w' [F]) := by
  obtain ⟨ao, cap, rfl, hmax⟩ := (hL.sat hS 0 rfl).shape
  refine calls_enter Tryd.func27 rfl Tryd.ntmps27 rfl ?_
  refine wc_seq ?_
  refine wc_region ?_
  refine wl_assign rfl rfl ?_
  refine wl_nil ?_
  refine qs_seq ?_
  refine wc_seq ?_
  refine wc_seq ?_
  refine wc_region ?_
  refine wl_assign rfl rfl ?_
  refine wl_nil ?_
  refine qs_seq ?_
  refine wc_block ?_
  refine wc_loop (fun K0 E0 W0 => ∃ (i : Nat), K0 = l.length - i ∧ E0 = [(0, .slice ao l.length cap), (3, intV (i : Int))] ∧ Sat W0 [F] ∧ (i ≤ l.length) ∧ (∀ j o, j < i → l[j]? = some o → o.s.length ≤ 40)) (L0 := [(0, _), (3, _)]) (l.length - 0) (.cons rfl (.cons rfl .nil)) ⟨0, rfl, rfl, hS, by omega, by omega⟩ ?_
  rintro _ _ w1 ⟨i, rfl, rfl, hS1, hi, hok⟩
  refine wc_seq ?_
  refine wc_seq ?_
  refine wc_region ?_
  refine wl_move rfl rfl ?_
  refine wl_move rfl rfl ?_
  refine wl_lenL Tryd.underlying44 rfl rfl ?_
  refine wl_lss rfl rfl rfl ?_
  refine wl_nil ?_
  refine qs_seq ?_
  refine wc_condD rfl (fun h2 => ?_) (fun h2 => ?_)
  · skip
    obtain ⟨o, ho⟩ : ∃ o, l[i]? = some o := ⟨_, List.getElem?_eq_getElem (by omega)⟩
    obtain ⟨b, off, rfl, hc⟩ := (hL.sat hS1 0 rfl).get ho
    refine wc_skip ?_
    refine qs_seq ?_
    refine wc_seq ?_
    refine wc_block ?_
    refine wc_seq ?_
    refine wc_region ?_
    refine wl_move rfl rfl ?_
    refine wl_move rfl rfl ?_
    refine wl_indexAddr i rfl rfl (by first | rfl | omega) (by omega) es_44 rfl ?_
    refine wl_fieldAddr rfl fo_47_2 rfl ?_
    refine wl_load rfl ag_9 (hc 2 _ rfl) rfl ?_
    refine wl_lenS Tryd.underlying9 rfl rfl ?_
    refine wl_gtr rfl rfl rfl ?_
    refine wl_nil ?_
    refine qs_seq ?_
    refine wc_sub (L' := [(16, _), (0, _), (3, _)]) (.cons rfl (.cons rfl (.cons rfl .nil))) ?_
    refine wc_condD rfl (fun h3 => ?_) (fun h3 => ?_)
    · skip
      refine wc_seq ?_
      refine wc_region ?_
      refine wl_assign rfl rfl ?_
      refine wl_nil ?_
      refine qs_seq ?_
      refine wc_ret ?_
      refine qs_block_ret ?_
      refine qs_then_ret ?_
      refine qs_then_ret ?_
      refine qs_block_ret ?_
      refine qs_then_ret ?_
      refine fin1 (.inr rfl) rfl rfl ?_
      exact ⟨_, rfl, by rw [fewA_bad ho (by assumption)], hS1⟩
    · skip
      refine wc_skip ?_
      refine qs_block_normal ?_
      refine qs_seq ?_
      refine wc_region ?_
      refine wl_move rfl rfl ?_
      refine wl_add rfl rfl (by omega) (by omega) rfl ?_
      refine wl_assign rfl rfl ?_
      refine wl_nil ?_
      exact qs_round (L1 := [(0, _), (3, intV ((i + 1 : Nat) : Int))]) (.cons rfl (.cons rfl .nil)) (k1 := l.length - (i + 1)) (by omega) ⟨i + 1, rfl, rfl, hS1, by omega, fun j q hj hq => by by_cases e : j = i; (subst e; rw [ho] at hq; cases hq; omega); exact hok j q (by omega) hq⟩
  · skip
    refine wc_exit ?_
    refine qs_then_exit ?_
    refine qs_then_exit ?_
    refine qs_block_exit ?_
    refine qs_seq ?_
    refine wc_seq ?_
    refine wc_region ?_
    refine wl_move rfl rfl ?_
    refine wl_lenL Tryd.underlying44 rfl rfl ?_
    refine wl_leq rfl rfl rfl ?_
    refine wl_assign rfl rfl ?_
    refine wl_nil ?_
    refine qs_seq ?_
    refine wc_ret ?_
    refine fin1 (.inr rfl) rfl rfl ?_
    exact ⟨_, rfl, by rw [fewA_end hok (by omega)], hS1⟩

end Go.Proofs.YtieelilkkpcmdaaDoor
