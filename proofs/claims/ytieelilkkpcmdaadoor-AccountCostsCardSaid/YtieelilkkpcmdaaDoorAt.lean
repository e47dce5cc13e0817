/- areas: Unmap; account.Cost -/
import Derived.Test.YtieelilkkpcmdaaDoorAs
namespace Go.Proofs.YtieelilkkpcmdaaDoor
open Go.RowKit M
set_option linter.unusedVariables false
theorem part_n {a : ArD} {f t : Int} (ha : OkA a) (hf : 0 ≤ f) (h : partO a f t = true) : 0 ≤ (partA a f t).n ∧ (partA a f t).n ≤ 256 := by
  have h1 := of_decide_eq_true h
  obtain ⟨a1, a2, a3, a4, a5⟩ := ha
  simp only [partA]; omega
theorem unm1_mem {p n : Int} {a x : ArD} (hx : x ∈ unm1 p n a) : (partO a 0 p = true ∧ x = partA a 0 p) ∨ (partO a (p + n) 256 = true ∧ x = partA a (p + n) 256) := by
  unfold unm1 at hx
  rcases List.mem_append.1 hx with h | h
  · split at h
    · exact .inl ⟨by assumption, by simpa using h⟩
    · cases h
  · split at h
    · exact .inr ⟨by assumption, by simpa using h⟩
    · cases h
theorem unmL_nb {p n : Int} {l : List ArD} (h : ∀ a ∈ l, OkA a) (hl : l.length ≤ 500) (hp : 0 ≤ p + n) : NB (unmL p n l) := by
  refine ⟨fun x hx => ?_, by have := unmL_len p n l; omega⟩
  obtain ⟨a, ha, hx⟩ := List.mem_flatMap.1 hx
  rcases unm1_mem hx with ⟨h1, rfl⟩ | ⟨h1, rfl⟩
  · exact part_n (h a ha) (by omega) h1
  · exact part_n (h a ha) hp h1
theorem unmL_ok {p n : Int} {l : List ArD} (h : ∀ a ∈ l, OkA a ∧ a.first ≤ 500) (hp : 0 ≤ p + n) : ∀ x ∈ unmL p n l, OkA x := fun x hx => by
  obtain ⟨a, ha, hx⟩ := List.mem_flatMap.1 hx
  rcases unm1_mem hx with ⟨h1, rfl⟩ | ⟨h1, rfl⟩
  · exact part_ok (h a ha).1 (by omega) (h a ha).2 h1
  · exact part_ok (h a ha).1 hp (h a ha).2 h1
theorem vL_first : ∀ (l : List ArD) (e : Int), vL e l = true → ∀ a ∈ l, a.first ≤ 500
  | [], _, _, a, ha => by cases ha
  | x :: r, e, h, a, ha => by
    simp only [vL, Bool.and_eq_true, decide_eq_true_eq] at h
    rcases List.mem_cons.1 ha with rfl | ha
    · have := of_decide_eq_true h.1.1; omega
    · exact vL_first r _ h.2 a ha
theorem ok_nb {l : List ArD} (h : ∀ a ∈ l, OkA a) (hl : l.length ≤ 1000) : NB l := ⟨fun a ha => by obtain ⟨a1, a2, a3, a4, a5⟩ := h a ha; omega, hl⟩
theorem priv_eq {l : List ArD} {p : Int} : priv l p = if (findA l p).isSome = true then (if ((findA l p).getD arZ).sh = true then 0 else 1) else 0 := by
  unfold priv
  cases findA l p <;> rfl
theorem aCost_sp {w : World} {F : Th} (hS : Sat w [F]) {lv : Value} {l : List ArD} (hL : Ent F (RdL arC lv l)) (hb : NB l) :
    Calls Tryd.prog 33 #[lv] w (Ret fun v w' => v = intV (costL l) ∧ Sat w' [F]) := by
  obtain ⟨ao, cap, rfl, hmax⟩ := (hL.sat hS 0 rfl).shape
  refine calls_enter Tryd.func33 rfl Tryd.ntmps33 rfl ?_
  refine wc_seq ?_
  refine wc_region ?_
  refine wl_assign rfl rfl ?_
  refine wl_nil ?_
  refine qs_seq ?_
  refine wc_seq ?_
  refine wc_region ?_
  refine wl_assign rfl rfl ?_
  refine wl_nil ?_
  refine qs_seq ?_
  refine wc_seq ?_
  refine wc_seq ?_
  refine wc_region ?_
  refine wl_move rfl rfl ?_
  refine wl_lenL Tryd.underlying52 rfl rfl ?_
  refine wl_move rfl rfl ?_
  refine wl_nil ?_
  refine qs_seq ?_
  refine wc_block ?_
  refine wc_loop (fun K0 E0 W0 => ∃ (i : Nat), K0 = l.length - i ∧ E0 = [(3, intV (costL (l.take i))), (6, .slice ao l.length cap), (7, intV (l.length : Int)), (8, intV (i : Int))] ∧ Sat W0 [F] ∧ (i ≤ l.length)) (L0 := [(3, _), (6, _), (7, _), (8, _)]) (l.length - 0) (.cons rfl (.cons rfl (.cons rfl (.cons rfl .nil)))) ⟨0, rfl, rfl, hS, by omega⟩ ?_
  rintro _ _ w1 ⟨i, rfl, rfl, hS1, hi⟩
  refine wc_seq ?_
  refine wc_region ?_
  refine wl_lss rfl rfl rfl ?_
  refine wl_nil ?_
  refine qs_seq ?_
  refine wc_seq ?_
  refine wc_condD rfl (fun h2 => ?_) (fun h2 => ?_)
  · skip
    obtain ⟨o, ho⟩ : ∃ o, l[i]? = some o := ⟨_, List.getElem?_eq_getElem (by omega)⟩
    obtain ⟨b, off, rfl, hc⟩ := (hL.sat hS1 0 rfl).get ho
    obtain ⟨hn1, hn2⟩ := hb.at ho
    obtain ⟨hc1, hc2⟩ := hb.take i
    refine wc_skip ?_
    refine qs_seq ?_
    refine wc_seq ?_
    refine wc_block ?_
    refine wc_seq ?_
    refine wc_region ?_
    refine wl_indexAddr i rfl rfl (by first | rfl | omega) (by omega) es_52 rfl ?_
    refine wl_loadAt rfl ag_55 sz_55 (vs := arV o) hc rfl ?_
    refine wl_alloc hS1 zr_55 rfl rfl ?_
    intro b3 w3 hS3
    clear hS1
    first | (refine wl_storeA hS3 rfl rfl sz_55 rfl (by first | rfl | (simp [allOne, Value.oneCell']; done) | assumption | exact hone) (i := 0) rfl (by first | decide | exact Nat.le_of_ble_eq_true rfl | (simp; done) | omega) ?_)
    intro w4 hS5; dsimp only [List.set] at hS5
    clear hS3
    refine wl_nil ?_
    refine qs_seq ?_
    refine wc_seq ?_
    refine wc_region ?_
    refine wl_fieldAddr rfl fo_55_4 rfl ?_
    refine wl_load rfl ag_4 (by first | assumption | exact hS5.cell 0 rfl rfl) rfl ?_
    refine wl_not rfl rfl ?_
    refine wl_nil ?_
    refine qs_seq ?_
    refine wc_sub (L' := [(14, _), (5, _), (3, _), (6, _), (7, _), (8, _)]) (.cons rfl (.cons rfl (.cons rfl (.cons rfl (.cons rfl (.cons rfl .nil)))))) ?_
    refine wc_cond rfl (fun h6 => ?_) (fun h6 => ?_)
    · skip
      refine wc_region ?_
      refine wl_move rfl rfl ?_
      refine wl_fieldAddr rfl fo_55_1 rfl ?_
      refine wl_load rfl ag_3 (by first | assumption | exact hS5.cell 0 rfl rfl) rfl ?_
      refine wl_add rfl rfl (by omega) (by omega) rfl ?_
      refine wl_assign rfl rfl ?_
      refine wl_nil ?_
      refine qs_block_normal ?_
      refine qs_seq ?_
      refine wc_region ?_
      refine wl_add rfl rfl (by omega) (by omega) rfl ?_
      refine wl_move rfl rfl ?_
      refine wl_nil ?_
      have hw : costL (l.take (i + 1)) = costL (l.take i) + o.n := by rw [costL_step ho]; unfold wA; simp_all
      exact qs_round (L1 := [(3, _), (6, _), (7, _), (8, intV ((i + 1 : Nat) : Int))]) (.cons rfl (.cons rfl (.cons rfl (.cons rfl .nil)))) (k1 := l.length - (i + 1)) (by omega) ⟨i + 1, rfl, by rw [hw], hS5.pick [1] rfl, by omega⟩
    · skip
      refine wc_skip ?_
      refine qs_block_normal ?_
      refine qs_seq ?_
      refine wc_region ?_
      refine wl_add rfl rfl (by omega) (by omega) rfl ?_
      refine wl_move rfl rfl ?_
      refine wl_nil ?_
      have hw : costL (l.take (i + 1)) = costL (l.take i) := by rw [costL_step ho]; unfold wA; simp_all
      exact qs_round (L1 := [(3, _), (6, _), (7, _), (8, intV ((i + 1 : Nat) : Int))]) (.cons rfl (.cons rfl (.cons rfl (.cons rfl .nil)))) (k1 := l.length - (i + 1)) (by omega) ⟨i + 1, rfl, by rw [hw], hS5.pick [1] rfl, by omega⟩
  · skip
    refine wc_exit ?_
    refine qs_then_exit ?_
    refine qs_then_exit ?_
    refine qs_block_exit ?_
    refine qs_seq ?_
    refine wc_seq ?_
    refine wc_region ?_
    refine wl_move rfl rfl ?_
    refine wl_assign rfl rfl ?_
    refine wl_nil ?_
    refine qs_seq ?_
    refine wc_ret ?_
    refine fin1 (.inr rfl) rfl rfl ?_
    exact ⟨_, rfl, by rw [List.take_of_length_le (by omega)], hS1.pick [0] rfl⟩

theorem fCost_sp {w : World} {F : Th} (hS : Sat w [F]) {lv : Value} {l : List ArD} (hL : Ent F (RdL arC lv l)) (hb : NB l) :
    Calls Tryd.prog 35 #[lv] w (Ret fun v w' => v = intV (costL l) ∧ Sat w' [F]) := by
  obtain ⟨ao, cap, rfl, hmax⟩ := (hL.sat hS 0 rfl).shape
  refine calls_enter Tryd.func35 rfl Tryd.ntmps35 rfl ?_
  refine wc_seq ?_
  refine wc_region ?_
  refine wl_assign rfl rfl ?_
  refine wl_nil ?_
  refine qs_seq ?_
  refine wc_seq ?_
  refine wc_region ?_
  refine wl_assign rfl rfl ?_
  refine wl_nil ?_
  refine qs_seq ?_
  refine wc_seq ?_
  refine wc_seq ?_
  refine wc_region ?_
  refine wl_assign rfl rfl ?_
  refine wl_nil ?_
  refine qs_seq ?_
  refine wc_block ?_
  refine wc_loop (fun K0 E0 W0 => ∃ (i : Nat), K0 = l.length - i ∧ E0 = [(0, .slice ao l.length cap), (3, intV (costL (l.take i))), (4, intV (i : Int))] ∧ Sat W0 [F] ∧ (i ≤ l.length)) (L0 := [(0, _), (3, _), (4, _)]) (l.length - 0) (.cons rfl (.cons rfl (.cons rfl .nil))) ⟨0, rfl, rfl, hS, by omega⟩ ?_
  rintro _ _ w1 ⟨i, rfl, rfl, hS1, hi⟩
  refine wc_seq ?_
  refine wc_seq ?_
  refine wc_region ?_
  refine wl_move rfl rfl ?_
  refine wl_move rfl rfl ?_
  refine wl_lenL Tryd.underlying52 rfl rfl ?_
  refine wl_lss rfl rfl rfl ?_
  refine wl_nil ?_
  refine qs_seq ?_
  refine wc_condD rfl (fun h2 => ?_) (fun h2 => ?_)
  · skip
    obtain ⟨o, ho⟩ : ∃ o, l[i]? = some o := ⟨_, List.getElem?_eq_getElem (by omega)⟩
    obtain ⟨b, off, rfl, hc⟩ := (hL.sat hS1 0 rfl).get ho
    obtain ⟨hn1, hn2⟩ := hb.at ho
    obtain ⟨hc1, hc2⟩ := hb.take i
    refine wc_skip ?_
    refine qs_seq ?_
    refine wc_seq ?_
    refine wc_block ?_
    refine wc_seq ?_
    refine wc_region ?_
    refine wl_move rfl rfl ?_
    refine wl_move rfl rfl ?_
    refine wl_indexAddr i rfl rfl (by first | rfl | omega) (by omega) es_52 rfl ?_
    refine wl_fieldAddr rfl fo_55_4 rfl ?_
    refine wl_load rfl ag_4 (hc 4 _ rfl) rfl ?_
    refine wl_not rfl rfl ?_
    refine wl_nil ?_
    refine qs_seq ?_
    refine wc_sub (L' := [(16, _), (0, _), (3, _), (4, _)]) (.cons rfl (.cons rfl (.cons rfl (.cons rfl .nil)))) ?_
    refine wc_cond rfl (fun h3 => ?_) (fun h3 => ?_)
    · skip
      refine wc_region ?_
      refine wl_move rfl rfl ?_
      refine wl_move rfl rfl ?_
      refine wl_move rfl rfl ?_
      refine wl_indexAddr i rfl rfl (by first | rfl | omega) (by omega) es_52 rfl ?_
      refine wl_fieldAddr rfl fo_55_1 rfl ?_
      refine wl_load rfl ag_3 (hc 1 _ rfl) rfl ?_
      refine wl_add rfl rfl (by omega) (by omega) rfl ?_
      refine wl_assign rfl rfl ?_
      refine wl_nil ?_
      refine qs_block_normal ?_
      refine qs_seq ?_
      refine wc_sub (L' := [(3, _), (0, _), (4, _)]) (.cons rfl (.cons rfl (.cons rfl .nil))) ?_
      refine wc_region ?_
      refine wl_move rfl rfl ?_
      refine wl_add rfl rfl (by omega) (by omega) rfl ?_
      refine wl_assign rfl rfl ?_
      refine wl_nil ?_
      have hw : costL (l.take (i + 1)) = costL (l.take i) + o.n := by rw [costL_step ho]; unfold wA; simp_all
      exact qs_round (L1 := [(0, _), (3, _), (4, intV ((i + 1 : Nat) : Int))]) (.cons rfl (.cons rfl (.cons rfl .nil))) (k1 := l.length - (i + 1)) (by omega) ⟨i + 1, rfl, by rw [hw], hS1.pick [0] rfl, by omega⟩
    · skip
      refine wc_skip ?_
      refine qs_block_normal ?_
      refine qs_seq ?_
      refine wc_region ?_
      refine wl_move rfl rfl ?_
      refine wl_add rfl rfl (by omega) (by omega) rfl ?_
      refine wl_assign rfl rfl ?_
      refine wl_nil ?_
      have hw : costL (l.take (i + 1)) = costL (l.take i) := by rw [costL_step ho]; unfold wA; simp_all
      exact qs_round (L1 := [(0, _), (3, _), (4, intV ((i + 1 : Nat) : Int))]) (.cons rfl (.cons rfl (.cons rfl .nil))) (k1 := l.length - (i + 1)) (by omega) ⟨i + 1, rfl, by rw [hw], hS1.pick [0] rfl, by omega⟩
  · skip
    refine wc_exit ?_
    refine qs_then_exit ?_
    refine qs_then_exit ?_
    refine qs_block_exit ?_
    refine qs_seq ?_
    refine wc_seq ?_
    refine wc_region ?_
    refine wl_move rfl rfl ?_
    refine wl_assign rfl rfl ?_
    refine wl_nil ?_
    refine qs_seq ?_
    refine wc_ret ?_
    refine fin1 (.inr rfl) rfl rfl ?_
    exact ⟨_, rfl, by rw [List.take_of_length_le (by omega)], hS1.pick [0] rfl⟩

set_option maxRecDepth 100000 in
theorem aUnmap_sp {w : World} {F : Th} (hS : Sat w [F]) {lv : Value} {l : List ArD} (hL : Ent F (RdL arC lv l)) (hall : ∀ a ∈ l, OkA a) (hlen : l.length ≤ 500) (p n : Int) :
    Calls Tryd.prog 34 #[lv, intV p, intV n] w (Ret fun v w' => (∃ e : Int, e ≠ 0 ∧ v = .tuple #[lv, intV e] ∧ Sat w' [F]) ∨ (∃ rv, v = .tuple #[rv, intV 0] ∧ (0 ≤ p ∧ 1 ≤ n ∧ n ≤ 256 ∧ p + n ≤ 256) ∧ Sat w' [rowT arC rv (unmL p n l), F])) := by
  obtain ⟨ao, cap, rfl, hmax⟩ := (hL.sat hS 0 rfl).shape
  refine calls_enter Tryd.func34 rfl Tryd.ntmps34 rfl ?_
  refine wc_seq ?_
  refine wc_region ?_
  refine wl_assign rfl rfl ?_
  refine wl_assign rfl rfl ?_
  refine wl_nil ?_
  refine qs_seq ?_
  refine wc_seq ?_
  refine wc_seq ?_
  refine wc_region ?_
  refine wl_move rfl rfl ?_
  refine wl_lss rfl rfl rfl ?_
  refine wl_move rfl rfl ?_
  refine wl_splitD 17 rfl (fun h1 => ?_) (fun h1 => ?_)
  · skip
    refine wl_unwanted rfl rfl (decide_eq_true h1) rfl ?_
    refine wl_unwanted rfl rfl (decide_eq_true h1) rfl ?_
    refine wl_pickT rfl (decide_eq_true h1) rfl rfl ?_
    refine wl_move rfl rfl ?_
    refine wl_unwanted rfl rfl rfl rfl ?_
    refine wl_unwanted rfl rfl rfl rfl ?_
    refine wl_pickT rfl rfl rfl rfl ?_
    refine wl_move rfl rfl ?_
    refine wl_unwanted rfl rfl rfl rfl ?_
    refine wl_unwanted rfl rfl rfl rfl ?_
    refine wl_unwanted rfl rfl rfl rfl ?_
    refine wl_unwanted rfl rfl rfl rfl ?_
    refine wl_pickT rfl rfl rfl rfl ?_
    refine wl_nil ?_
    refine qs_seq ?_
    refine wc_sub (L' := [(30, _), (7, _), (6, _), (0, _), (1, _), (2, _)]) (.cons rfl (.cons rfl (.cons rfl (.cons rfl (.cons rfl (.cons rfl .nil)))))) ?_
    refine wc_condT rfl ?_
    refine wc_seq ?_
    refine wc_region ?_
    refine wl_move rfl rfl ?_
    refine wl_assign rfl rfl ?_
    refine wl_assign rfl rfl ?_
    refine wl_nil ?_
    refine qs_seq ?_
    refine wc_ret ?_
    refine qs_then_ret ?_
    refine fin2 (.inr rfl) rfl rfl rfl ?_
    exact ⟨_, rfl, .inl ⟨3, by omega, rfl, hS.pick [0] rfl⟩⟩
  · skip
    refine wl_guard rfl rfl (decide_eq_false h1) ?_
    refine wl_move rfl rfl ?_
    refine wl_guard rfl rfl (decide_eq_false h1) ?_
    refine wl_lss rfl rfl rfl ?_
    refine wl_pickF rfl (decide_eq_false h1) rfl rfl ?_
    refine wl_move rfl rfl ?_
    refine wl_splitD 21 rfl (fun h2 => ?_) (fun h2 => ?_)
    · skip
      refine wl_unwanted rfl rfl (decide_eq_true h2) rfl ?_
      refine wl_unwanted rfl rfl (decide_eq_true h2) rfl ?_
      refine wl_pickT rfl (decide_eq_true h2) rfl rfl ?_
      refine wl_move rfl rfl ?_
      refine wl_unwanted rfl rfl rfl rfl ?_
      refine wl_unwanted rfl rfl rfl rfl ?_
      refine wl_unwanted rfl rfl rfl rfl ?_
      refine wl_unwanted rfl rfl rfl rfl ?_
      refine wl_pickT rfl rfl rfl rfl ?_
      refine wl_nil ?_
      refine qs_seq ?_
      refine wc_sub (L' := [(30, _), (7, _), (6, _), (0, _), (1, _), (2, _)]) (.cons rfl (.cons rfl (.cons rfl (.cons rfl (.cons rfl (.cons rfl .nil)))))) ?_
      refine wc_condT rfl ?_
      refine wc_seq ?_
      refine wc_region ?_
      refine wl_move rfl rfl ?_
      refine wl_assign rfl rfl ?_
      refine wl_assign rfl rfl ?_
      refine wl_nil ?_
      refine qs_seq ?_
      refine wc_ret ?_
      refine qs_then_ret ?_
      refine fin2 (.inr rfl) rfl rfl rfl ?_
      exact ⟨_, rfl, .inl ⟨3, by omega, rfl, hS.pick [0] rfl⟩⟩
    · skip
      refine wl_guard rfl rfl (decide_eq_false h2) ?_
      refine wl_move rfl rfl ?_
      refine wl_guard rfl rfl (decide_eq_false h2) ?_
      refine wl_gtr rfl rfl rfl ?_
      refine wl_pickF rfl (decide_eq_false h2) rfl rfl ?_
      refine wl_move rfl rfl ?_
      refine wl_splitD 25 rfl (fun h3 => ?_) (fun h3 => ?_)
      · skip
        refine wl_unwanted rfl rfl (decide_eq_true h3) rfl ?_
        refine wl_unwanted rfl rfl (decide_eq_true h3) rfl ?_
        refine wl_unwanted rfl rfl (decide_eq_true h3) rfl ?_
        refine wl_unwanted rfl rfl (decide_eq_true h3) rfl ?_
        refine wl_pickT rfl (decide_eq_true h3) rfl rfl ?_
        refine wl_nil ?_
        refine qs_seq ?_
        refine wc_sub (L' := [(30, _), (7, _), (6, _), (0, _), (1, _), (2, _)]) (.cons rfl (.cons rfl (.cons rfl (.cons rfl (.cons rfl (.cons rfl .nil)))))) ?_
        refine wc_condT rfl ?_
        refine wc_seq ?_
        refine wc_region ?_
        refine wl_move rfl rfl ?_
        refine wl_assign rfl rfl ?_
        refine wl_assign rfl rfl ?_
        refine wl_nil ?_
        refine qs_seq ?_
        refine wc_ret ?_
        refine qs_then_ret ?_
        refine fin2 (.inr rfl) rfl rfl rfl ?_
        exact ⟨_, rfl, .inl ⟨3, by omega, rfl, hS.pick [0] rfl⟩⟩
      · skip
        refine wl_guard rfl rfl (decide_eq_false h3) ?_
        refine wl_move rfl rfl ?_
        refine wl_guard rfl rfl (decide_eq_false h3) ?_
        refine wl_move rfl rfl ?_
        refine wl_guard rfl rfl (decide_eq_false h3) ?_
        refine wl_sub' rfl rfl (by omega) (by omega) rfl ?_
        refine wl_guard rfl rfl (decide_eq_false h3) ?_
        refine wl_gtr rfl rfl rfl ?_
        refine wl_pickF rfl (decide_eq_false h3) rfl rfl ?_
        refine wl_nil ?_
        refine qs_seq ?_
        refine wc_sub (L' := [(30, _), (7, _), (6, _), (0, _), (1, _), (2, _)]) (.cons rfl (.cons rfl (.cons rfl (.cons rfl (.cons rfl (.cons rfl .nil)))))) ?_
        refine wc_condD rfl (fun h4 => ?_) (fun h4 => ?_)
        · skip
          refine wc_seq ?_
          refine wc_region ?_
          refine wl_move rfl rfl ?_
          refine wl_assign rfl rfl ?_
          refine wl_assign rfl rfl ?_
          refine wl_nil ?_
          refine qs_seq ?_
          refine wc_ret ?_
          refine qs_then_ret ?_
          refine fin2 (.inr rfl) rfl rfl rfl ?_
          exact ⟨_, rfl, .inl ⟨3, by omega, rfl, hS.pick [0] rfl⟩⟩
        · skip
          refine wc_skip ?_
          refine qs_seq ?_
          refine wc_seq ?_
          refine wc_region ?_
          refine wl_assign rfl rfl ?_
          refine wl_nil ?_
          refine qs_seq ?_
          refine wc_seq ?_
          refine wc_seq ?_
          have hS5 := hS.row_nil arC
          refine wc_region ?_
          refine wl_move rfl rfl ?_
          first | refine wl_lenL Tryd.underlying52 rfl rfl ?_ | refine wl_lenO 0 hS5 Tryd.underlying52 rfl rfl rfl ?_
          refine wl_move rfl rfl ?_
          refine wl_nil ?_
          refine qs_seq ?_
          refine wc_block ?_
          refine wc_loop (fun K0 E0 W0 => ∃ (i : Nat) (rv : Value), K0 = l.length - i ∧ E0 = [(0, .slice ao l.length cap), (1, intV p), (2, intV n), (8, rv), (32, .slice ao l.length cap), (33, intV (l.length : Int)), (34, intV (i : Int))] ∧ Sat W0 [rowT arC rv (unmL p n (l.take i)), F] ∧ (i ≤ l.length)) (L0 := [(0, _), (1, _), (2, _), (8, _), (32, _), (33, _), (34, _)]) (l.length - 0) (.cons rfl (.cons rfl (.cons rfl (.cons rfl (.cons rfl (.cons rfl (.cons rfl .nil))))))) ⟨0, _, rfl, rfl, hS5, by omega⟩ ?_
          rintro _ _ w6 ⟨i, rv, rfl, rfl, hS6, hi⟩
          refine wc_seq ?_
          refine wc_region ?_
          refine wl_lss rfl rfl rfl ?_
          refine wl_nil ?_
          refine qs_seq ?_
          refine wc_seq ?_
          refine wc_condD rfl (fun h7 => ?_) (fun h7 => ?_)
          · skip
            obtain ⟨o, ho⟩ : ∃ o, l[i]? = some o := ⟨_, List.getElem?_eq_getElem (by omega)⟩
            obtain ⟨b, off, rfl, hc⟩ := (hL.sat hS6 1 rfl).get ho
            have hul : (unmL p n (l.take i)).length ≤ 2000 := by have h1 := unmL_len p n (l.take i); rw [List.length_take] at h1; omega
            refine wc_skip ?_
            refine qs_seq ?_
            refine wc_seq ?_
            refine wc_block ?_
            refine wc_seq ?_
            refine wc_region ?_
            refine wl_indexAddr i rfl rfl (by first | rfl | omega) (by omega) es_52 rfl ?_
            refine wl_loadAt rfl ag_55 sz_55 (vs := arV o) hc rfl ?_
            refine wl_alloc hS6 zr_55 rfl rfl ?_
            intro b8 w8 hS8
            clear hS6
            first | (refine wl_storeA hS8 rfl rfl sz_55 rfl (by first | rfl | (simp [allOne, Value.oneCell']; done) | assumption | exact hone) (i := 0) rfl (by first | decide | exact Nat.le_of_ble_eq_true rfl | (simp; done) | omega) ?_)
            intro w9 hS10; dsimp only [List.set] at hS10
            clear hS8
            refine wl_nil ?_
            refine qs_seq ?_
            refine wc_sub (L' := [(10, _), (0, _), (1, _), (2, _), (8, _), (32, _), (33, _), (34, _)]) (.cons rfl (.cons rfl (.cons rfl (.cons rfl (.cons rfl (.cons rfl (.cons rfl (.cons rfl .nil)))))))) ?_
            refine wc_seq ?_
            refine wc_seq ?_
            refine wc_region ?_
            refine wl_loadA rfl ag_55 sz_55 (by first | exact hS10.blk 0 rfl) (by first | decide | exact Nat.le_of_ble_eq_true rfl | (simp; done) | omega) rfl rfl ?_
            refine wl_move rfl rfl ?_
            have hC11 := hS10.split [] [false, false, false] rfl; dsimp only [selF, pickA, nthA, List.cons_append, List.nil_append] at hC11
            refine wl_call cal_63 rfl (apart_sp hC11 (hall o (List.mem_of_getElem? ho)) (f := 0) (t := p) (by omega) (by omega)) rfl ?_
            rintro e w11 ⟨_, rfl, rfl, hS11⟩; refine ⟨_, rfl, ?_⟩
            replace hS11 := hS11.join rfl; dsimp only [List.dropLast, List.cons_append, List.nil_append] at hS11; clear hC11
            clear hS10
            refine wl_move rfl rfl ?_
            refine wl_extract rfl rfl rfl ?_
            refine wl_extract rfl rfl rfl ?_
            refine wl_alloc hS11 zr_55 rfl rfl ?_
            intro b12 w12 hS12
            clear hS11
            first | (refine wl_storeA hS12 rfl rfl sz_55 rfl (by first | rfl | (simp [allOne, Value.oneCell']; done) | assumption | exact hone) (i := 0) rfl (by first | decide | exact Nat.le_of_ble_eq_true rfl | (simp; done) | omega) ?_) | (refine wl_storeA hS12 rfl rfl sz_55 rfl (by first | rfl | (simp [allOne, Value.oneCell']; done) | assumption | exact hone) (i := 1) rfl (by first | decide | exact Nat.le_of_ble_eq_true rfl | (simp; done) | omega) ?_)
            intro w13 hS14; dsimp only [List.set] at hS14
            clear hS12
            refine wl_assign rfl rfl ?_
            refine wl_nil ?_
            refine qs_seq ?_
            refine wc_sub (L' := [(12, _), (11, _), (10, _), (0, _), (1, _), (2, _), (8, _), (32, _), (33, _), (34, _)]) (.cons rfl (.cons rfl (.cons rfl (.cons rfl (.cons rfl (.cons rfl (.cons rfl (.cons rfl (.cons rfl (.cons rfl .nil)))))))))) ?_
            refine wc_seq ?_
            refine wc_region ?_
            refine wl_move rfl rfl ?_
            refine wl_nil ?_
            refine qs_seq ?_
            refine wc_cond rfl (fun h15 => ?_) (fun h15 => ?_)
            · skip
              have q2 := h15
              refine wc_region ?_
              refine wl_move rfl rfl ?_
              refine wl_loadA rfl ag_55 sz_55 (by first | exact hS14.blk 0 rfl | exact hS14.blk 1 rfl) (by first | decide | exact Nat.le_of_ble_eq_true rfl | (simp; done) | omega) rfl rfl ?_
              refine wl_rowBuild arC [partA o 0 p] hS14 rfl Tryd.underlying52 ifz_55 rfl rfl rfl rfl (by first | rfl | simp [RowC.cells, fillL, splice]) rfl ?_
              intro b16 w16 hS16
              clear hS14
              refine wl_rowApp arC 3 hS16 rfl rfl rfl (hS16.rd 0 rfl (by simp)) Tryd.underlying52 Tryd.underlying52 (by intro k hk; cases hk) ifo_55 rfl (by simp; omega) rfl (by simp; omega) ?_
              intro v17 w17 hS17; dsimp only [List.set] at hS17
              clear hS16
              have h1v17 : v17.oneCell' = true := hS17.own_one 3 rfl
              refine wl_assign rfl rfl ?_
              refine wl_nil ?_
              refine qs_seq ?_
              refine wc_sub (L' := [(8, _), (10, _), (0, _), (1, _), (2, _), (32, _), (33, _), (34, _)]) (.cons rfl (.cons rfl (.cons rfl (.cons rfl (.cons rfl (.cons rfl (.cons rfl (.cons rfl .nil)))))))) ?_
              refine wc_seq ?_
              refine wc_region ?_
              refine wl_loadA rfl ag_55 sz_55 (by first | exact hS17.blk 1 rfl | exact hS17.blk 2 rfl) (by first | decide | exact Nat.le_of_ble_eq_true rfl | (simp; done) | omega) rfl rfl ?_
              refine wl_move rfl rfl ?_
              refine wl_move rfl rfl ?_
              refine wl_add rfl rfl (by omega) (by omega) rfl ?_
              have hC18 := hS17.split [] [false, false, false, false, false] rfl; dsimp only [selF, pickA, nthA, List.cons_append, List.nil_append] at hC18
              refine wl_call cal_63 rfl (apart_sp hC18 (hall o (List.mem_of_getElem? ho)) (f := p + n) (t := 256) (by omega) (by omega)) rfl ?_
              rintro e w18 ⟨_, rfl, rfl, hS18⟩; refine ⟨_, rfl, ?_⟩
              replace hS18 := hS18.join rfl; dsimp only [List.dropLast, List.cons_append, List.nil_append] at hS18; clear hC18
              clear hS17
              refine wl_move rfl rfl ?_
              refine wl_extract rfl rfl rfl ?_
              refine wl_extract rfl rfl rfl ?_
              refine wl_alloc hS18 zr_55 rfl rfl ?_
              intro b19 w19 hS19
              clear hS18
              first | (refine wl_storeA hS19 rfl rfl sz_55 rfl (by first | rfl | (simp [allOne, Value.oneCell']; done) | assumption | exact hone) (i := 0) rfl (by first | decide | exact Nat.le_of_ble_eq_true rfl | (simp; done) | omega) ?_) | (refine wl_storeA hS19 rfl rfl sz_55 rfl (by first | rfl | (simp [allOne, Value.oneCell']; done) | assumption | exact hone) (i := 2) rfl (by first | decide | exact Nat.le_of_ble_eq_true rfl | (simp; done) | omega) ?_) | (refine wl_storeA hS19 rfl rfl sz_55 rfl (by first | rfl | (simp [allOne, Value.oneCell']; done) | assumption | exact hone) (i := 3) rfl (by first | decide | exact Nat.le_of_ble_eq_true rfl | (simp; done) | omega) ?_)
              intro w20 hS21; dsimp only [List.set] at hS21
              clear hS19
              refine wl_assign rfl rfl ?_
              refine wl_nil ?_
              refine qs_seq ?_
              refine wc_sub (L' := [(14, _), (13, _), (8, _), (0, _), (1, _), (2, _), (32, _), (33, _), (34, _)]) (.cons rfl (.cons rfl (.cons rfl (.cons rfl (.cons rfl (.cons rfl (.cons rfl (.cons rfl (.cons rfl .nil))))))))) ?_
              refine wc_seq ?_
              refine wc_region ?_
              refine wl_move rfl rfl ?_
              refine wl_nil ?_
              refine qs_seq ?_
              refine wc_cond rfl (fun h22 => ?_) (fun h22 => ?_)
              · skip
                have q3 := h22
                refine wc_region ?_
                refine wl_move rfl rfl ?_
                refine wl_loadA rfl ag_55 sz_55 (by first | exact hS21.blk 0 rfl | exact hS21.blk 2 rfl | exact hS21.blk 3 rfl) (by first | decide | exact Nat.le_of_ble_eq_true rfl | (simp; done) | omega) rfl rfl ?_
                refine wl_rowBuild arC [partA o (p + n) 256] hS21 rfl Tryd.underlying52 ifz_55 rfl rfl rfl rfl (by first | rfl | simp [RowC.cells, fillL, splice]) rfl ?_
                intro b23 w23 hS23
                clear hS21
                refine wl_rowApp arC 5 hS23 rfl rfl rfl (hS23.rd 0 rfl (by simp)) Tryd.underlying52 Tryd.underlying52 (by intro k hk; cases hk) ifo_55 rfl (by simp; omega) rfl (by simp; omega) ?_
                intro v24 w24 hS24; dsimp only [List.set] at hS24
                clear hS23
                have h1v24 : v24.oneCell' = true := hS24.own_one 5 rfl
                refine wl_assign rfl rfl ?_
                refine wl_nil ?_
                refine qs_block_normal ?_
                refine qs_seq ?_
                refine wc_sub (L' := [(8, _), (0, _), (1, _), (2, _), (32, _), (33, _), (34, _)]) (.cons rfl (.cons rfl (.cons rfl (.cons rfl (.cons rfl (.cons rfl (.cons rfl .nil))))))) ?_
                refine wc_region ?_
                refine wl_add rfl rfl (by omega) (by omega) rfl ?_
                refine wl_move rfl rfl ?_
                refine wl_nil ?_
                have hq : unmL p n (l.take (i + 1)) = unmL p n (l.take i) ++ [partA o 0 p] ++ [partA o (p + n) 256] := by rw [unmL_step ho]; simp [unm1, q2, q3]
                exact qs_round (L1 := [(0, _), (1, _), (2, _), (8, _), (32, _), (33, _), (34, intV ((i + 1 : Nat) : Int))]) (.cons rfl (.cons rfl (.cons rfl (.cons rfl (.cons rfl (.cons rfl (.cons rfl .nil))))))) (k1 := l.length - (i + 1)) (by omega) ⟨i + 1, _, rfl, rfl, by rw [hq]; exact hS24.pick [5, 6] rfl, by omega⟩
              · skip
                have q3 := h22
                refine wc_skip ?_
                refine qs_block_normal ?_
                refine qs_seq ?_
                refine wc_region ?_
                refine wl_add rfl rfl (by omega) (by omega) rfl ?_
                refine wl_move rfl rfl ?_
                refine wl_nil ?_
                have hq : unmL p n (l.take (i + 1)) = unmL p n (l.take i) ++ [partA o 0 p] := by rw [unmL_step ho]; simp [unm1, q2, q3]
                exact qs_round (L1 := [(0, _), (1, _), (2, _), (8, _), (32, _), (33, _), (34, intV ((i + 1 : Nat) : Int))]) (.cons rfl (.cons rfl (.cons rfl (.cons rfl (.cons rfl (.cons rfl (.cons rfl .nil))))))) (k1 := l.length - (i + 1)) (by omega) ⟨i + 1, _, rfl, rfl, by rw [hq]; exact hS21.pick [4, 5] rfl, by omega⟩
            · skip
              have q2 := h15
              refine wc_skip ?_
              refine qs_seq ?_
              refine wc_sub (L' := [(10, _), (0, _), (1, _), (2, _), (8, _), (32, _), (33, _), (34, _)]) (.cons rfl (.cons rfl (.cons rfl (.cons rfl (.cons rfl (.cons rfl (.cons rfl (.cons rfl .nil)))))))) ?_
              refine wc_seq ?_
              refine wc_region ?_
              refine wl_loadA rfl ag_55 sz_55 (by first | exact hS14.blk 0 rfl | exact hS14.blk 1 rfl) (by first | decide | exact Nat.le_of_ble_eq_true rfl | (simp; done) | omega) rfl rfl ?_
              refine wl_move rfl rfl ?_
              refine wl_move rfl rfl ?_
              refine wl_add rfl rfl (by omega) (by omega) rfl ?_
              have hC25 := hS14.split [] [false, false, false, false] rfl; dsimp only [selF, pickA, nthA, List.cons_append, List.nil_append] at hC25
              refine wl_call cal_63 rfl (apart_sp hC25 (hall o (List.mem_of_getElem? ho)) (f := p + n) (t := 256) (by omega) (by omega)) rfl ?_
              rintro e w25 ⟨_, rfl, rfl, hS25⟩; refine ⟨_, rfl, ?_⟩
              replace hS25 := hS25.join rfl; dsimp only [List.dropLast, List.cons_append, List.nil_append] at hS25; clear hC25
              clear hS14
              refine wl_move rfl rfl ?_
              refine wl_extract rfl rfl rfl ?_
              refine wl_extract rfl rfl rfl ?_
              refine wl_alloc hS25 zr_55 rfl rfl ?_
              intro b26 w26 hS26
              clear hS25
              first | (refine wl_storeA hS26 rfl rfl sz_55 rfl (by first | rfl | (simp [allOne, Value.oneCell']; done) | assumption | exact hone) (i := 0) rfl (by first | decide | exact Nat.le_of_ble_eq_true rfl | (simp; done) | omega) ?_) | (refine wl_storeA hS26 rfl rfl sz_55 rfl (by first | rfl | (simp [allOne, Value.oneCell']; done) | assumption | exact hone) (i := 1) rfl (by first | decide | exact Nat.le_of_ble_eq_true rfl | (simp; done) | omega) ?_) | (refine wl_storeA hS26 rfl rfl sz_55 rfl (by first | rfl | (simp [allOne, Value.oneCell']; done) | assumption | exact hone) (i := 2) rfl (by first | decide | exact Nat.le_of_ble_eq_true rfl | (simp; done) | omega) ?_)
              intro w27 hS28; dsimp only [List.set] at hS28
              clear hS26
              refine wl_assign rfl rfl ?_
              refine wl_nil ?_
              refine qs_seq ?_
              refine wc_sub (L' := [(14, _), (13, _), (0, _), (1, _), (2, _), (8, _), (32, _), (33, _), (34, _)]) (.cons rfl (.cons rfl (.cons rfl (.cons rfl (.cons rfl (.cons rfl (.cons rfl (.cons rfl (.cons rfl .nil))))))))) ?_
              refine wc_seq ?_
              refine wc_region ?_
              refine wl_move rfl rfl ?_
              refine wl_nil ?_
              refine qs_seq ?_
              refine wc_cond rfl (fun h29 => ?_) (fun h29 => ?_)
              · skip
                have q3 := h29
                refine wc_region ?_
                refine wl_move rfl rfl ?_
                refine wl_loadA rfl ag_55 sz_55 (by first | exact hS28.blk 0 rfl | exact hS28.blk 1 rfl | exact hS28.blk 2 rfl) (by first | decide | exact Nat.le_of_ble_eq_true rfl | (simp; done) | omega) rfl rfl ?_
                refine wl_rowBuild arC [partA o (p + n) 256] hS28 rfl Tryd.underlying52 ifz_55 rfl rfl rfl rfl (by first | rfl | simp [RowC.cells, fillL, splice]) rfl ?_
                intro b30 w30 hS30
                clear hS28
                refine wl_rowApp arC 4 hS30 rfl rfl rfl (hS30.rd 0 rfl (by simp)) Tryd.underlying52 Tryd.underlying52 (by intro k hk; cases hk) ifo_55 rfl (by simp; omega) rfl (by simp; omega) ?_
                intro v31 w31 hS31; dsimp only [List.set] at hS31
                clear hS30
                have h1v31 : v31.oneCell' = true := hS31.own_one 4 rfl
                refine wl_assign rfl rfl ?_
                refine wl_nil ?_
                refine qs_block_normal ?_
                refine qs_seq ?_
                refine wc_sub (L' := [(8, _), (0, _), (1, _), (2, _), (32, _), (33, _), (34, _)]) (.cons rfl (.cons rfl (.cons rfl (.cons rfl (.cons rfl (.cons rfl (.cons rfl .nil))))))) ?_
                refine wc_region ?_
                refine wl_add rfl rfl (by omega) (by omega) rfl ?_
                refine wl_move rfl rfl ?_
                refine wl_nil ?_
                have hq : unmL p n (l.take (i + 1)) = unmL p n (l.take i) ++ [partA o (p + n) 256] := by rw [unmL_step ho]; simp [unm1, q2, q3]
                exact qs_round (L1 := [(0, _), (1, _), (2, _), (8, _), (32, _), (33, _), (34, intV ((i + 1 : Nat) : Int))]) (.cons rfl (.cons rfl (.cons rfl (.cons rfl (.cons rfl (.cons rfl (.cons rfl .nil))))))) (k1 := l.length - (i + 1)) (by omega) ⟨i + 1, _, rfl, rfl, by rw [hq]; exact hS31.pick [4, 5] rfl, by omega⟩
              · skip
                have q3 := h29
                refine wc_skip ?_
                refine qs_block_normal ?_
                refine qs_seq ?_
                refine wc_region ?_
                refine wl_add rfl rfl (by omega) (by omega) rfl ?_
                refine wl_move rfl rfl ?_
                refine wl_nil ?_
                have hq : unmL p n (l.take (i + 1)) = unmL p n (l.take i) := by rw [unmL_step ho]; simp [unm1, q2, q3]
                exact qs_round (L1 := [(0, _), (1, _), (2, _), (8, _), (32, _), (33, _), (34, intV ((i + 1 : Nat) : Int))]) (.cons rfl (.cons rfl (.cons rfl (.cons rfl (.cons rfl (.cons rfl (.cons rfl .nil))))))) (k1 := l.length - (i + 1)) (by omega) ⟨i + 1, _, rfl, rfl, by rw [hq]; exact hS28.pick [3, 4] rfl, by omega⟩
          · skip
            have hti : l.take i = l := List.take_of_length_le (by omega)
            rw [hti] at hS6
            refine wc_exit ?_
            refine qs_then_exit ?_
            refine qs_then_exit ?_
            refine qs_block_exit ?_
            refine qs_seq ?_
            refine wc_seq ?_
            refine wc_seq ?_
            refine wc_region ?_
            refine wl_move rfl rfl ?_
            first | refine wl_lenL Tryd.underlying52 rfl rfl ?_ | refine wl_lenO 0 hS6 Tryd.underlying52 rfl rfl rfl ?_
            refine wl_gtr rfl rfl rfl ?_
            refine wl_nil ?_
            refine qs_seq ?_
            refine wc_sub (L' := [(65, _), (0, _), (8, _)]) (.cons rfl (.cons rfl (.cons rfl .nil))) ?_
            refine wc_condD rfl (fun h32 => ?_) (fun h32 => ?_)
            · skip
              refine wc_seq ?_
              refine wc_region ?_
              refine wl_move rfl rfl ?_
              refine wl_assign rfl rfl ?_
              refine wl_assign rfl rfl ?_
              refine wl_nil ?_
              refine qs_seq ?_
              refine wc_ret ?_
              refine qs_then_ret ?_
              refine fin2 (.inr rfl) rfl rfl rfl ?_
              exact ⟨_, rfl, .inl ⟨6, by omega, rfl, hS6.pick [1] rfl⟩⟩
            · skip
              refine wc_skip ?_
              refine qs_seq ?_
              refine wc_seq ?_
              refine wc_region ?_
              refine wl_move rfl rfl ?_
              refine wl_assign rfl rfl ?_
              refine wl_assign rfl rfl ?_
              refine wl_nil ?_
              refine qs_seq ?_
              refine wc_ret ?_
              refine fin2 (.inr rfl) rfl rfl rfl ?_
              exact ⟨_, rfl, .inr ⟨_, rfl, by omega, hS6.pick [0, 1] rfl⟩⟩

end Go.Proofs.YtieelilkkpcmdaaDoor
