/- laws of procs: light, few, pick, do -/
import Derived.Test.YtcbdclhoekokpaaGreatDoorPd2
namespace Go.Proofs.YtcbdclhoekokpaaGreatDoor
open Go.RowKit M
set_option linter.unusedVariables false
section
variable {P : Program} {n : Nat} {ops : Array Oper} {Q : Exit → Act → World → Prop} {rest : List Oper} {L : Env} {w : World} {d : Nat} {ty : TypeId} {pos : String} {aft : Array Edge} {x y : Operand} {t t2 : TypeId}
theorem wl_remT {a b : Int} (hx : M.look L x = some (.int .i64 a)) (hy : M.look L y = some (.int .i64 b)) (hb : 0 < b ∧ b ≤ 1000) (hd : Nat.blt d n = true) (hk : wl P n ops Q rest ((d, .int .i64 (a.tmod b)) :: L) w) : wl P n ops Q (⟨some d, .binOp .rem t x y t2, ty, pos, aft, none⟩ :: rest) L w :=
  wl_val hd (fun ρ hρ => by
    have hb' : b ≠ 0 := by omega
    have h1 := Int.tmod_lt_of_pos a hb.1
    have h2 := Int.lt_tmod_of_pos a hb.1
    have e : IntKind.i64.wrap (a.tmod b) = a.tmod b := wrap64 (by omega) (by omega)
    simp [execOp, hρ _ _ hx, hρ _ _ hy, eqGuard, binOp, Op.intDiv, hb', e]) hk
end
theorem pick_eq {n m : Int} (hm : 0 < m) : n % m = if n.tmod m < 0 then n.tmod m + m else n.tmod m := by
  have h1 := Int.emod_nonneg n (show m ≠ 0 by omega)
  have h2 := Int.emod_lt_of_pos n hm
  rcases Int.le_total 0 n with h | h
  · rw [Int.tmod_eq_emod_of_nonneg h, if_neg (by omega)]
  · have h7 : (-n).tmod m = -(n.tmod m) := Int.neg_tmod n m
    rw [Int.tmod_eq_emod_of_nonneg (show 0 ≤ -n by omega)] at h7
    have h8 := Int.emod_nonneg (-n) (show m ≠ 0 by omega)
    have h9 := Int.emod_lt_of_pos (-n) hm
    have h10 : n.tmod m = -((-n) % m) := by omega
    rw [h10]
    by_cases h0 : (-n) % m = 0
    · rw [h0, if_neg (by omega)]
      have h11 : m ∣ n := Int.dvd_neg.1 (Int.dvd_of_emod_eq_zero h0)
      rw [Int.emod_eq_zero_of_dvd h11]; rfl
    · rw [if_pos (by omega)]
      have e : n = (-((-n) % m) + m) + m * (-((-n) / m) - 1) := by
        have h12 := Int.emod_add_mul_ediv (-n) m
        rw [Int.mul_sub, Int.mul_neg, Int.mul_one]; omega
      have e3 : n % m = (-((-n) % m) + m) % m := by
        conv => lhs; rw [e]
        rw [Int.add_mul_emod_self_left]
      rw [e3]
      exact Int.emod_eq_of_lt (by omega) (by omega)
theorem pick_sp {w : World} {F : Th} (hS : Sat w [F]) (n m : Int) (hm : 0 < m ∧ m ≤ 1000) :
    Calls Tryz.prog 13 #[intV n, intV m] w (Ret fun v w' => v = intV (n % m) ∧ Sat w' [F]) := by
  refine calls_enter Tryz.func13 rfl Tryz.ntmps13 rfl ?_
  have hm1 := Int.tmod_lt_of_pos n hm.1
  have hm2 := Int.lt_tmod_of_pos n hm.1
  refine wc_seq ?_
  refine wc_region ?_
  refine wl_assign rfl rfl ?_
  refine wl_nil ?_
  refine qs_seq ?_
  refine wc_seq ?_
  refine wc_region ?_
  refine wl_move rfl rfl ?_
  refine wl_move rfl rfl ?_
  refine wl_remT rfl rfl hm rfl ?_
  refine wl_assign rfl rfl ?_
  refine wl_nil ?_
  refine qs_seq ?_
  refine wc_mid (fun E0 W0 => E0 = [(0, intV (n % m))] ∧ Sat W0 [F]) ?_ ?_
  · skip
    refine wc_seq ?_
    refine wc_region ?_
    refine wl_move rfl rfl ?_
    refine wl_lss rfl rfl rfl ?_
    refine wl_nil ?_
    refine qs_seq ?_
    refine wc_condD rfl (fun h2 => ?_) (fun h2 => ?_)
    · skip
      refine wc_region ?_
      refine wl_move rfl rfl ?_
      refine wl_move rfl rfl ?_
      refine wl_add rfl rfl (by omega) (by omega) rfl ?_
      refine wl_assign rfl rfl ?_
      refine wl_nil ?_
      exact qs_mid (L' := [(0, _)]) (.cons rfl .nil) ⟨by rw [pick_eq (n := n) hm.1, if_pos (by assumption)], hS⟩
    refine wc_skip ?_
    exact qs_mid (L' := [(0, _)]) (.cons rfl .nil) ⟨by rw [pick_eq (n := n) hm.1, if_neg (by assumption)], hS⟩
  rintro _ w1 ⟨rfl, hS1⟩
  refine wc_seq ?_
  refine wc_region ?_
  refine wl_move rfl rfl ?_
  refine wl_assign rfl rfl ?_
  refine wl_nil ?_
  refine qs_seq ?_
  refine wc_ret ?_
  refine fin1 (.inr rfl) rfl rfl ?_
  exact ⟨_, rfl, rfl, hS1⟩
structure OpR where
  k : Int
  x : ProcD
  av : Value
  fv : Value
def opV (o : OpR) : List Value := intV o.k :: procV o.x o.av o.fv
abbrev OrRd (v : Value) (l : List OpR) (w : World) : Prop := RdX opV 62 (fun o w => RdL arC o.av o.x.ar w ∧ RdL stC o.fv o.x.fds w ∧ Wf0 o.x) v l w
def FewR (m : Int) (l : List OpR) : Prop := (l.length : Int) ≤ m ∧ ∀ o ∈ l, Light o.x
def DoP (W : WS) (o : OpR) (W' : WS) : Prop := (o.k % 4 = 2 ∧ W' = rmW W (hq o.x 0)) ∨ (o.k % 4 = 3 ∧ RepP W (hq o.x 0) W') ∨ (o.k % 4 < 2 ∧ W' = putW W o.x)
theorem PInv.do {W W' : WS} {n : Nat} {o : OpR} (h : PInv W n) (hl : (encR o.x).length ≤ 1000000) (hd : DoP W o W') : PInv W' (n + 1) := by
  rcases hd with ⟨_, rfl⟩ | ⟨_, h2⟩ | ⟨_, rfl⟩
  · exact h.rm _
  · exact (h.rep h2).mono (by omega)
  · exact h.put hl
set_option maxRecDepth 100000 in
set_option maxHeartbeats 1000000 in
theorem light_sp {w : World} {F : Th} (hS : Sat w [F]) {x : ProcD} {av fv : Value} (hA : Ent F (RdL arC av x.ar)) (hF : Ent F (RdL stC fv x.fds)) :
    Calls Tryz.prog 20 #[.agg (procV x av fv).toArray] w (Ret fun v w' => ∃ b, v = .bool b ∧ (b = true → Light x) ∧ Sat w' [F]) := by
  obtain ⟨aa, ac, rfl, hmax⟩ := (hA.sat hS 0 rfl).shape
  obtain ⟨fa, fc, rfl, hmax2⟩ := (hF.sat hS 0 rfl).shape
  refine calls_enter Tryz.func20 rfl Tryz.ntmps20 rfl ?_
  refine wc_seq ?_
  refine wc_region ?_
  refine wl_box hS rfl rfl rfl ?_
  intro bp wp hSp0
  have hSp : Sat wp [blkT bp (procV x (.slice aa x.ar.length ac) (.slice fa x.fds.length fc)), F] := hSp0
  refine wl_assign rfl rfl ?_
  refine wl_nil ?_
  refine qs_seq ?_
  refine wc_seq ?_
  refine wc_seq ?_
  refine wc_region ?_
  refine wl_assign rfl rfl ?_
  refine wl_nil ?_
  refine qs_seq ?_
  refine wc_block ?_
  refine wc_loop (fun K0 E0 W0 => ∃ (i : Nat), K0 = x.ar.length - i ∧ E0 = [(1, ptrV bp 0), (3, intV (i : Int))] ∧ Sat W0 [blkT bp (procV x (.slice aa x.ar.length ac) (.slice fa x.fds.length fc)), F] ∧ (i ≤ x.ar.length) ∧ (∀ j y, j < i → x.ar[j]? = some y → y.o.length ≤ 100)) (L0 := [(1, _), (3, _)]) (x.ar.length - 0) (.cons rfl (.cons rfl .nil)) ⟨0, rfl, rfl, hSp.pick [0, 1] rfl, by omega, by omega⟩ ?_
  rintro _ _ w1 ⟨i, rfl, rfl, hS1, hi, hok⟩
  refine wc_seq ?_
  refine wc_seq ?_
  refine wc_region ?_
  refine wl_move rfl rfl ?_
  refine wl_fieldAddr rfl fo_38_11 rfl ?_
  refine wl_load rfl ag_30 (by first | assumption | exact hS1.cell 0 rfl rfl) rfl ?_
  refine wl_lenL Tryz.underlying30 rfl rfl ?_
  refine wl_lss rfl rfl rfl ?_
  refine wl_nil ?_
  refine qs_seq ?_
  refine wc_condD rfl (fun h2 => ?_) (fun h2 => ?_)
  · skip
    obtain ⟨y, hy⟩ : ∃ y, x.ar[i]? = some y := ⟨_, List.getElem?_eq_getElem (by omega)⟩
    obtain ⟨b, off, rfl, hc⟩ := (hA.sat hS1 1 rfl).get hy
    refine wc_skip ?_
    refine qs_seq ?_
    refine wc_seq ?_
    refine wc_block ?_
    refine wc_seq ?_
    refine wc_region ?_
    refine wl_fieldAddr rfl fo_38_11 rfl ?_
    refine wl_load rfl ag_30 (by first | assumption | exact hS1.cell 0 rfl rfl) rfl ?_
    refine wl_move rfl rfl ?_
    refine wl_indexAddr i rfl rfl (by first | rfl | omega) (by omega) es_30 rfl ?_
    refine wl_fieldAddr rfl fo_89_2 rfl ?_
    refine wl_load rfl ag_9 (hc 2 _ rfl) rfl ?_
    refine wl_lenS Tryz.underlying9 rfl rfl ?_
    refine wl_gtr rfl rfl rfl ?_
    refine wl_nil ?_
    refine qs_seq ?_
    refine wc_sub (L' := [(19, _), (1, _), (3, _)]) (.cons rfl (.cons rfl (.cons rfl .nil))) ?_
    refine wc_condD rfl (fun h3 => ?_) (fun h3 => ?_)
    · skip
      refine wc_seq ?_
      refine wc_region ?_
      refine wl_assign rfl rfl ?_
      refine wl_nil ?_
      refine qs_seq ?_
      refine wc_ret ?_
      refine qs_block_ret ?_
      refine qs_then_ret ?_
      refine qs_then_ret ?_
      refine qs_block_ret ?_
      refine qs_then_ret ?_
      refine fin1 (.inr rfl) rfl rfl ?_
      exact ⟨_, rfl, false, rfl, fun q => (by cases q), hS1.pick [1] rfl⟩
    refine wc_skip ?_
    refine qs_block_normal ?_
    refine qs_seq ?_
    refine wc_region ?_
    refine wl_move rfl rfl ?_
    refine wl_add rfl rfl (by first | omega | (simp; omega)) (by first | omega | (simp; omega)) rfl ?_
    refine wl_assign rfl rfl ?_
    refine wl_nil ?_
    exact qs_round (L1 := [(1, _), (3, intV ((i + 1 : Nat) : Int))]) (.cons rfl (.cons rfl .nil)) (k1 := x.ar.length - (i + 1)) (by omega) ⟨i + 1, rfl, rfl, hS1.pick [0, 1] rfl, by omega, fun j q hj hq => by by_cases e : j = i; (subst e; rw [hy] at hq; cases hq; omega); exact hok j q (by omega) hq⟩
  refine wc_exit ?_
  refine qs_then_exit ?_
  refine qs_then_exit ?_
  refine qs_block_exit ?_
  refine qs_seq ?_
  refine wc_seq ?_
  refine wc_seq ?_
  refine wc_region ?_
  refine wl_assign rfl rfl ?_
  refine wl_nil ?_
  refine qs_seq ?_
  refine wc_block ?_
  refine wc_loop (fun K0 E0 W0 => ∃ (k : Nat), K0 = x.fds.length - k ∧ E0 = [(1, ptrV bp 0), (4, intV (k : Int))] ∧ Sat W0 [blkT bp (procV x (.slice aa x.ar.length ac) (.slice fa x.fds.length fc)), F] ∧ (k ≤ x.fds.length) ∧ (∀ j s, j < k → x.fds[j]? = some s → s.length ≤ 100)) (L0 := [(1, _), (4, _)]) (x.fds.length - 0) (.cons rfl (.cons rfl .nil)) ⟨0, rfl, rfl, hS1.pick [0, 1] rfl, by omega, by omega⟩ ?_
  rintro _ _ w4 ⟨k, rfl, rfl, hS4, hk, hok2⟩
  refine wc_seq ?_
  refine wc_seq ?_
  refine wc_region ?_
  refine wl_move rfl rfl ?_
  refine wl_fieldAddr rfl fo_38_12 rfl ?_
  refine wl_load rfl ag_31 (by first | assumption | exact hS4.cell 0 rfl rfl) rfl ?_
  refine wl_lenL Tryz.underlying31 rfl rfl ?_
  refine wl_lss rfl rfl rfl ?_
  refine wl_nil ?_
  refine qs_seq ?_
  refine wc_condD rfl (fun h5 => ?_) (fun h5 => ?_)
  · skip
    obtain ⟨s, hs⟩ : ∃ s, x.fds[k]? = some s := ⟨_, List.getElem?_eq_getElem (by omega)⟩
    obtain ⟨b, off, rfl, hc⟩ := (hF.sat hS4 1 rfl).get hs
    refine wc_skip ?_
    refine qs_seq ?_
    refine wc_seq ?_
    refine wc_block ?_
    refine wc_seq ?_
    refine wc_region ?_
    refine wl_fieldAddr rfl fo_38_12 rfl ?_
    refine wl_load rfl ag_31 (by first | assumption | exact hS4.cell 0 rfl rfl) rfl ?_
    refine wl_move rfl rfl ?_
    refine wl_indexAddr k rfl rfl (by first | rfl | omega) (by omega) es_31 rfl ?_
    refine wl_load rfl ag_9 (hc 0 _ rfl) rfl ?_
    refine wl_lenS Tryz.underlying9 rfl rfl ?_
    refine wl_gtr rfl rfl rfl ?_
    refine wl_nil ?_
    refine qs_seq ?_
    refine wc_sub (L' := [(33, _), (1, _), (4, _)]) (.cons rfl (.cons rfl (.cons rfl .nil))) ?_
    refine wc_condD rfl (fun h6 => ?_) (fun h6 => ?_)
    · skip
      refine wc_seq ?_
      refine wc_region ?_
      refine wl_assign rfl rfl ?_
      refine wl_nil ?_
      refine qs_seq ?_
      refine wc_ret ?_
      refine qs_block_ret ?_
      refine qs_then_ret ?_
      refine qs_then_ret ?_
      refine qs_block_ret ?_
      refine qs_then_ret ?_
      refine fin1 (.inr rfl) rfl rfl ?_
      exact ⟨_, rfl, false, rfl, fun q => (by cases q), hS4.pick [1] rfl⟩
    refine wc_skip ?_
    refine qs_block_normal ?_
    refine qs_seq ?_
    refine wc_region ?_
    refine wl_move rfl rfl ?_
    refine wl_add rfl rfl (by first | omega | (simp; omega)) (by first | omega | (simp; omega)) rfl ?_
    refine wl_assign rfl rfl ?_
    refine wl_nil ?_
    exact qs_round (L1 := [(1, _), (4, intV ((k + 1 : Nat) : Int))]) (.cons rfl (.cons rfl .nil)) (k1 := x.fds.length - (k + 1)) (by omega) ⟨k + 1, rfl, rfl, hS4.pick [0, 1] rfl, by omega, fun j q hj hq => by by_cases e : j = k; (subst e; rw [hs] at hq; cases hq; omega); exact hok2 j q (by omega) hq⟩
  refine wc_exit ?_
  refine qs_then_exit ?_
  refine qs_then_exit ?_
  refine qs_block_exit ?_
  refine qs_seq ?_
  refine wc_seq ?_
  refine wc_region ?_
  refine wl_fieldAddr rfl fo_38_11 rfl ?_
  refine wl_load rfl ag_30 (by first | assumption | exact hS4.cell 0 rfl rfl) rfl ?_
  refine wl_lenL Tryz.underlying30 rfl rfl ?_
  refine wl_leq rfl rfl rfl ?_
  refine wl_move rfl rfl ?_
  refine wl_splitD 38 rfl (fun h7 => ?_) (fun h7 => ?_)
  · skip
    refine wl_guard rfl rfl (decide_eq_true h7) ?_
    refine wl_fieldAddr rfl fo_38_12 rfl ?_
    refine wl_guard rfl rfl (decide_eq_true h7) ?_
    refine wl_load rfl ag_31 (by first | assumption | exact hS4.cell 0 rfl rfl) rfl ?_
    refine wl_guard rfl rfl (decide_eq_true h7) ?_
    refine wl_lenL Tryz.underlying31 rfl rfl ?_
    refine wl_guard rfl rfl (decide_eq_true h7) ?_
    refine wl_leq rfl rfl rfl ?_
    refine wl_pickT rfl (decide_eq_true h7) rfl rfl ?_
    refine wl_move rfl rfl ?_
    refine wl_splitD 44 rfl (fun h8 => ?_) (fun h8 => ?_)
    · skip
      refine wl_guard rfl rfl (decide_eq_true h8) ?_
      refine wl_fieldAddr rfl fo_38_13 rfl ?_
      refine wl_guard rfl rfl (decide_eq_true h8) ?_
      refine wl_load rfl ag_9 (by first | assumption | exact hS4.cell 0 rfl rfl) rfl ?_
      refine wl_guard rfl rfl (decide_eq_true h8) ?_
      refine wl_lenS Tryz.underlying9 rfl rfl ?_
      refine wl_guard rfl rfl (decide_eq_true h8) ?_
      refine wl_leq rfl rfl rfl ?_
      refine wl_pickT rfl (decide_eq_true h8) rfl rfl ?_
      refine wl_move rfl rfl ?_
      refine wl_splitD 50 rfl (fun h9 => ?_) (fun h9 => ?_)
      · skip
        refine wl_guard rfl rfl (decide_eq_true h9) ?_
        refine wl_fieldAddr rfl fo_38_19 rfl ?_
        refine wl_guard rfl rfl (decide_eq_true h9) ?_
        refine wl_load rfl ag_9 (by first | assumption | exact hS4.cell 0 rfl rfl) rfl ?_
        refine wl_guard rfl rfl (decide_eq_true h9) ?_
        refine wl_lenS Tryz.underlying9 rfl rfl ?_
        refine wl_guard rfl rfl (decide_eq_true h9) ?_
        refine wl_leq rfl rfl rfl ?_
        refine wl_pickT rfl (decide_eq_true h9) rfl rfl ?_
        refine wl_assign rfl rfl ?_
        refine wl_nil ?_
        refine qs_seq ?_
        refine wc_sub (L' := [(2, _)]) (.cons rfl .nil) ?_
        refine wc_ret ?_
        refine fin1 (.inr rfl) rfl rfl ?_
        exact ⟨_, rfl, _, rfl, fun q => ⟨fun y hy => by obtain ⟨j, hj⟩ := List.mem_iff_getElem?.1 hy; exact hok j y (by have := (List.getElem?_eq_some_iff.1 hj).1; omega) hj, fun y hy => by obtain ⟨j, hj⟩ := List.mem_iff_getElem?.1 hy; exact hok2 j y (by have := (List.getElem?_eq_some_iff.1 hj).1; omega) hj, (by first | omega | (simp at q; done) | (simp at q; omega)), (by first | omega | (simp at q; done) | (simp at q; omega)), (by first | omega | (simp at q; done) | (simp at q; omega)), (by first | omega | (simp at q; done) | (simp at q; omega))⟩, hS4.pick [1] rfl⟩
      refine wl_unwanted rfl rfl (decide_eq_false h9) rfl ?_
      refine wl_unwanted rfl rfl (decide_eq_false h9) rfl ?_
      refine wl_unwanted rfl rfl (decide_eq_false h9) rfl ?_
      refine wl_unwanted rfl rfl (decide_eq_false h9) rfl ?_
      refine wl_pickF rfl (decide_eq_false h9) rfl rfl ?_
      refine wl_assign rfl rfl ?_
      refine wl_nil ?_
      refine qs_seq ?_
      refine wc_sub (L' := [(2, _)]) (.cons rfl .nil) ?_
      refine wc_ret ?_
      refine fin1 (.inr rfl) rfl rfl ?_
      exact ⟨_, rfl, _, rfl, fun q => ⟨fun y hy => by obtain ⟨j, hj⟩ := List.mem_iff_getElem?.1 hy; exact hok j y (by have := (List.getElem?_eq_some_iff.1 hj).1; omega) hj, fun y hy => by obtain ⟨j, hj⟩ := List.mem_iff_getElem?.1 hy; exact hok2 j y (by have := (List.getElem?_eq_some_iff.1 hj).1; omega) hj, (by first | omega | (simp at q; done) | (simp at q; omega)), (by first | omega | (simp at q; done) | (simp at q; omega)), (by first | omega | (simp at q; done) | (simp at q; omega)), (by first | omega | (simp at q; done) | (simp at q; omega))⟩, hS4.pick [1] rfl⟩
    refine wl_unwanted rfl rfl (decide_eq_false h8) rfl ?_
    refine wl_unwanted rfl rfl (decide_eq_false h8) rfl ?_
    refine wl_unwanted rfl rfl (decide_eq_false h8) rfl ?_
    refine wl_unwanted rfl rfl (decide_eq_false h8) rfl ?_
    refine wl_pickF rfl (decide_eq_false h8) rfl rfl ?_
    refine wl_move rfl rfl ?_
    refine wl_unwanted rfl rfl rfl rfl ?_
    refine wl_unwanted rfl rfl rfl rfl ?_
    refine wl_unwanted rfl rfl rfl rfl ?_
    refine wl_unwanted rfl rfl rfl rfl ?_
    refine wl_pickF rfl rfl rfl rfl ?_
    refine wl_assign rfl rfl ?_
    refine wl_nil ?_
    refine qs_seq ?_
    refine wc_sub (L' := [(2, _)]) (.cons rfl .nil) ?_
    refine wc_ret ?_
    refine fin1 (.inr rfl) rfl rfl ?_
    exact ⟨_, rfl, _, rfl, fun q => ⟨fun y hy => by obtain ⟨j, hj⟩ := List.mem_iff_getElem?.1 hy; exact hok j y (by have := (List.getElem?_eq_some_iff.1 hj).1; omega) hj, fun y hy => by obtain ⟨j, hj⟩ := List.mem_iff_getElem?.1 hy; exact hok2 j y (by have := (List.getElem?_eq_some_iff.1 hj).1; omega) hj, (by first | omega | (simp at q; done) | (simp at q; omega)), (by first | omega | (simp at q; done) | (simp at q; omega)), (by first | omega | (simp at q; done) | (simp at q; omega)), (by first | omega | (simp at q; done) | (simp at q; omega))⟩, hS4.pick [1] rfl⟩
  refine wl_unwanted rfl rfl (decide_eq_false h7) rfl ?_
  refine wl_unwanted rfl rfl (decide_eq_false h7) rfl ?_
  refine wl_unwanted rfl rfl (decide_eq_false h7) rfl ?_
  refine wl_unwanted rfl rfl (decide_eq_false h7) rfl ?_
  refine wl_pickF rfl (decide_eq_false h7) rfl rfl ?_
  refine wl_move rfl rfl ?_
  refine wl_unwanted rfl rfl rfl rfl ?_
  refine wl_unwanted rfl rfl rfl rfl ?_
  refine wl_unwanted rfl rfl rfl rfl ?_
  refine wl_unwanted rfl rfl rfl rfl ?_
  refine wl_pickF rfl rfl rfl rfl ?_
  refine wl_move rfl rfl ?_
  refine wl_unwanted rfl rfl rfl rfl ?_
  refine wl_unwanted rfl rfl rfl rfl ?_
  refine wl_unwanted rfl rfl rfl rfl ?_
  refine wl_unwanted rfl rfl rfl rfl ?_
  refine wl_pickF rfl rfl rfl rfl ?_
  refine wl_assign rfl rfl ?_
  refine wl_nil ?_
  refine qs_seq ?_
  refine wc_sub (L' := [(2, _)]) (.cons rfl .nil) ?_
  refine wc_ret ?_
  refine fin1 (.inr rfl) rfl rfl ?_
  exact ⟨_, rfl, _, rfl, fun q => ⟨fun y hy => by obtain ⟨j, hj⟩ := List.mem_iff_getElem?.1 hy; exact hok j y (by have := (List.getElem?_eq_some_iff.1 hj).1; omega) hj, fun y hy => by obtain ⟨j, hj⟩ := List.mem_iff_getElem?.1 hy; exact hok2 j y (by have := (List.getElem?_eq_some_iff.1 hj).1; omega) hj, (by first | omega | (simp at q; done) | (simp at q; omega)), (by first | omega | (simp at q; done) | (simp at q; omega)), (by first | omega | (simp at q; done) | (simp at q; omega)), (by first | omega | (simp at q; done) | (simp at q; omega))⟩, hS4.pick [1] rfl⟩
set_option maxRecDepth 100000 in
theorem few_sp {w : World} {F : Th} (hS : Sat w [F]) {lv : Value} {l : List OpR} (hL : Ent F (OrRd lv l)) (m : Int) :
    Calls Tryz.prog 9 #[lv, intV m] w (Ret fun v w' => ∃ b, v = .bool b ∧ (b = true → FewR m l) ∧ Sat w' [F]) := by
  obtain ⟨ao, cap, rfl, hmax⟩ := (hL.sat hS 0 rfl).shape
  refine calls_enter Tryz.func9 rfl Tryz.ntmps9 rfl ?_
  refine wc_seq ?_
  refine wc_region ?_
  refine wl_assign rfl rfl ?_
  refine wl_nil ?_
  refine qs_seq ?_
  refine wc_seq ?_
  refine wc_seq ?_
  refine wc_region ?_
  refine wl_assign rfl rfl ?_
  refine wl_nil ?_
  refine qs_seq ?_
  refine wc_block ?_
  refine wc_loop (fun K0 E0 W0 => ∃ (i : Nat), K0 = l.length - i ∧ E0 = [(0, .slice ao l.length cap), (1, intV m), (5, intV (i : Int))] ∧ Sat W0 [F] ∧ (i ≤ l.length) ∧ (∀ j o, j < i → l[j]? = some o → Light o.x)) (L0 := [(0, _), (1, _), (5, _)]) (l.length - 0) (.cons rfl (.cons rfl (.cons rfl .nil))) ⟨0, rfl, rfl, hS, by omega, by omega⟩ ?_
  rintro _ _ w1 ⟨i, rfl, rfl, hS1, hi, hok⟩
  refine wc_seq ?_
  refine wc_seq ?_
  refine wc_region ?_
  refine wl_move rfl rfl ?_
  refine wl_move rfl rfl ?_
  refine wl_lenL Tryz.underlying22 rfl rfl ?_
  refine wl_lss rfl rfl rfl ?_
  refine wl_nil ?_
  refine qs_seq ?_
  refine wc_condD rfl (fun h2 => ?_) (fun h2 => ?_)
  · skip
    obtain ⟨o, ho⟩ : ∃ o, l[i]? = some o := ⟨_, List.getElem?_eq_getElem (by omega)⟩
    have hLA : Ent F (RdL arC o.av o.x.ar) := fun {w G} g => (RdX.elem hL ho g).1
    have hLF : Ent F (RdL stC o.fv o.x.fds) := fun {w G} g => (RdX.elem hL ho g).2.1
    obtain ⟨⟨b, off, rfl, hc⟩, _⟩ := (hL.sat hS1 0 rfl).get ho
    have hcx : ∀ (j : Nat) (u : Value), (procV o.x o.av o.fv)[j]? = some u → World.cell? _ ⟨b, off + i * 62 + 1 + j, none⟩ = some u := fun j u hu => by have h9 := hc (j + 1) u hu; rwa [show off + i * 62 + (j + 1) = off + i * 62 + 1 + j by omega] at h9
    refine wc_skip ?_
    refine qs_seq ?_
    refine wc_seq ?_
    refine wc_block ?_
    refine wc_seq ?_
    refine wc_region ?_
    refine wl_move rfl rfl ?_
    refine wl_move rfl rfl ?_
    refine wl_indexAddr i rfl rfl (by first | rfl | omega) (by omega) es_22 rfl ?_
    refine wl_fieldAddr rfl fo_40_1 rfl ?_
    refine wl_loadAt rfl ag_38 sz_38 (vs := procV o.x o.av o.fv) hcx rfl ?_
    have hC3 := hS1.split [] [false] rfl; dsimp only [selF, pickA, nthA, List.cons_append, List.nil_append] at hC3
    refine wl_call cal_20 rfl (light_sp hC3 (Ent.starL hLA 0 rfl) (Ent.starL hLF 0 rfl)) rfl ?_
    rintro e w3 ⟨_, rfl, lb, rfl, hb, hS3⟩; refine ⟨_, rfl, ?_⟩
    replace hS3 := hS3.join rfl; dsimp only [List.dropLast, List.cons_append, List.nil_append] at hS3; clear hC3
    clear hS1
    refine wl_not rfl rfl ?_
    refine wl_nil ?_
    refine qs_seq ?_
    refine wc_sub (L' := [(18, _), (0, _), (1, _), (5, _)]) (.cons rfl (.cons rfl (.cons rfl (.cons rfl .nil)))) ?_
    refine wc_cond rfl (fun h4 => ?_) (fun h4 => ?_)
    · skip
      refine wc_seq ?_
      refine wc_region ?_
      refine wl_assign rfl rfl ?_
      refine wl_nil ?_
      refine qs_seq ?_
      refine wc_ret ?_
      refine qs_block_ret ?_
      refine qs_then_ret ?_
      refine qs_then_ret ?_
      refine qs_block_ret ?_
      refine qs_then_ret ?_
      refine fin1 (.inr rfl) rfl rfl ?_
      exact ⟨_, rfl, false, rfl, fun q => (by cases q), hS3⟩
    refine wc_skip ?_
    refine qs_block_normal ?_
    refine qs_seq ?_
    refine wc_region ?_
    refine wl_move rfl rfl ?_
    refine wl_add rfl rfl (by omega) (by omega) rfl ?_
    refine wl_assign rfl rfl ?_
    refine wl_nil ?_
    exact qs_round (L1 := [(0, _), (1, _), (5, intV ((i + 1 : Nat) : Int))]) (.cons rfl (.cons rfl (.cons rfl .nil))) (k1 := l.length - (i + 1)) (by omega) ⟨i + 1, rfl, rfl, hS3, by omega, fun j q hj hq => by by_cases e : j = i; (subst e; rw [ho] at hq; cases hq; exact hb (by simpa using h4)); exact hok j q (by omega) hq⟩
  refine wc_exit ?_
  refine qs_then_exit ?_
  refine qs_then_exit ?_
  refine qs_block_exit ?_
  refine qs_seq ?_
  refine wc_seq ?_
  refine wc_region ?_
  refine wl_move rfl rfl ?_
  refine wl_lenL Tryz.underlying22 rfl rfl ?_
  refine wl_move rfl rfl ?_
  refine wl_leq rfl rfl rfl ?_
  refine wl_assign rfl rfl ?_
  refine wl_nil ?_
  refine qs_seq ?_
  refine wc_sub (L' := [(4, _)]) (.cons rfl .nil) ?_
  refine wc_ret ?_
  refine fin1 (.inr rfl) rfl rfl ?_
  exact ⟨_, rfl, _, rfl, fun q => ⟨by simpa using q, fun o ho => by obtain ⟨j, hj⟩ := List.mem_iff_getElem?.1 ho; exact hok j o (by have := (List.getElem?_eq_some_iff.1 hj).1; omega) hj⟩, hS1⟩
set_option maxRecDepth 100000 in
set_option maxHeartbeats 1000000 in
theorem do_sp {w : World} {p : Nat} {W : WS} {F : Th} (hS : Sat w [worldT p W, F]) (hG : Ent F WireG) (hB : TB W) (hK : KeysIn W.cells 1000000) (o : OpR) (hw : WFR o.x) (hl : (encR o.x).length ≤ 1000000) (hA : Ent F (RdL arC o.av o.x.ar)) (hF : Ent F (RdL stC o.fv o.x.fds)) :
    Calls Tryz.prog 12 #[ptrV p 0, .agg (opV o).toArray] w (Ret fun v w' => v = .tuple #[] ∧ ∃ W', DoP W o W' ∧ Sat w' [worldT p W', F]) := by
  refine calls_enter Tryz.func12 rfl Tryz.ntmps12 rfl ?_
  refine wc_seq ?_
  refine wc_region ?_
  refine wl_box hS rfl rfl rfl ?_
  intro bo wo hSo0
  have hSo : Sat wo [blkT bo (opV o), worldT p W, F] := hSo0
  refine wl_nil ?_
  refine qs_seq ?_
  refine wc_seq ?_
  refine wc_region ?_
  refine wl_fieldAddr rfl fo_40_0 rfl ?_
  refine wl_load rfl ag_3 (by first | assumption | exact hSo.cell 0 rfl rfl) rfl ?_
  have hC1 := hSo.split [] [false, false, false] rfl; dsimp only [selF, pickA, nthA, List.cons_append, List.nil_append] at hC1
  refine wl_call cal_13 rfl (pick_sp hC1 o.k 4 (by omega)) rfl ?_
  rintro e w1 ⟨_, rfl, rfl, hS1⟩; refine ⟨_, rfl, ?_⟩
  replace hS1 := hS1.join rfl; dsimp only [List.dropLast, List.cons_append, List.nil_append] at hS1; clear hC1
  clear hSo
  refine wl_nil ?_
  refine qs_seq ?_
  refine wc_block ?_
  refine wc_seq ?_
  refine wc_region ?_
  refine wl_eql rfl rfl rfl ?_
  refine wl_assign rfl rfl ?_
  refine wl_nil ?_
  refine qs_seq ?_
  refine wc_condD rfl (fun h2 => ?_) (fun h2 => ?_)
  · skip
    refine wc_region ?_
    refine wl_move rfl rfl ?_
    refine wl_makeIface nif_25 rfl rfl ?_
    refine wl_fieldAddr rfl fo_40_1 rfl ?_
    refine wl_fieldAddr rfl fo_38_0 rfl ?_
    refine wl_load rfl ag_3 (by first | assumption | exact hS1.cell 0 rfl rfl) rfl ?_
    have hC3 := hS1.split [1] [false, true, false] rfl; dsimp only [selF, pickA, nthA, List.cons_append, List.nil_append] at hC3
    refine wl_call cal_44 rfl (rmP_sp hC3 (hG.starL 1 rfl) (hq o.x 0)) rfl ?_
    rintro e w3 ⟨_, rfl, rfl, hS3⟩; refine ⟨_, rfl, ?_⟩
    replace hS3 := hS3.join rfl; dsimp only [List.dropLast, List.cons_append, List.nil_append] at hS3; clear hC3
    clear hS1
    refine wl_nil ?_
    refine qs_block_normal ?_
    refine fin0 (.inl rfl) rfl ?_
    exact ⟨_, rfl, rfl, _, .inl ⟨by assumption, rfl⟩, hS3.pick [0, 2] rfl⟩
  refine wc_seq ?_
  refine wc_region ?_
  refine wl_eql rfl rfl rfl ?_
  refine wl_assign rfl rfl ?_
  refine wl_nil ?_
  refine qs_seq ?_
  refine wc_condD rfl (fun h4 => ?_) (fun h4 => ?_)
  · skip
    refine wc_region ?_
    refine wl_move rfl rfl ?_
    refine wl_makeIface nif_25 rfl rfl ?_
    refine wl_fieldAddr rfl fo_40_1 rfl ?_
    refine wl_fieldAddr rfl fo_38_0 rfl ?_
    refine wl_load rfl ag_3 (by first | assumption | exact hS1.cell 0 rfl rfl) rfl ?_
    have hC5 := hS1.split [1] [false, true, false] rfl; dsimp only [selF, pickA, nthA, List.cons_append, List.nil_append] at hC5
    refine wl_call cal_18 rfl (rep_sp hC5 (hG.starL 1 rfl) hB hK (hq o.x 0)) rfl ?_
    rintro e w5 ⟨_, rfl, rfl, W2, hr, hS5⟩; refine ⟨_, rfl, ?_⟩
    replace hS5 := hS5.join rfl; dsimp only [List.dropLast, List.cons_append, List.nil_append] at hS5; clear hC5
    clear hS1
    refine wl_nil ?_
    refine qs_block_normal ?_
    refine fin0 (.inl rfl) rfl ?_
    exact ⟨_, rfl, rfl, _, .inr (.inl ⟨by assumption, hr⟩), hS5.pick [0, 2] rfl⟩
  refine wc_region ?_
  refine wl_move rfl rfl ?_
  refine wl_makeIface nif_25 rfl rfl ?_
  refine wl_fieldAddr rfl fo_40_1 rfl ?_
  refine wl_loadA rfl ag_38 sz_38 (by first | exact hS1.blk 0 rfl) (by first | decide | exact Nat.le_of_ble_eq_true rfl | (simp; done) | omega) rfl rfl ?_
  have hC6 := hS1.split [1] [false, true, false] rfl; dsimp only [selF, pickA, nthA, List.cons_append, List.nil_append] at hC6
  refine wl_call cal_16 rfl (putP_sp hC6 (hG.starL 1 rfl) hw (hA.starL 1 rfl) (hF.starL 1 rfl) hl) rfl ?_
  rintro e w6 ⟨_, rfl, rfl, hS6⟩; refine ⟨_, rfl, ?_⟩
  replace hS6 := hS6.join rfl; dsimp only [List.dropLast, List.cons_append, List.nil_append] at hS6; clear hC6
  clear hS1
  refine wl_nil ?_
  refine qs_block_normal ?_
  refine fin0 (.inl rfl) rfl ?_
  exact ⟨_, rfl, rfl, _, .inr (.inr ⟨by omega, rfl⟩), hS6.pick [0, 2] rfl⟩
end Go.Proofs.YtcbdclhoekokpaaGreatDoor
