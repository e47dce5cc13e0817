/- areas: valid, Valid, Find, part -/
import Derived.Test.YtieelilkkpcmdaaDoorAr
namespace Go.Proofs.YtieelilkkpcmdaaDoor
open Go.RowKit M
set_option linter.unusedVariables false
theorem vL_step {l : List ArD} {i : Nat} {a : ArD} {e : Int} (ho : l[i]? = some a) (hd : vL 0 l = vL e (l.drop i)) : vL 0 l = (validA a && decide (e ≤ a.at_) && vL (a.at_ + a.n) (l.drop (i + 1))) := by
  obtain ⟨hi, h⟩ := List.getElem?_eq_some_iff.1 ho
  rw [hd, List.drop_eq_getElem_cons hi, h]; rfl
theorem findA_step {l : List ArD} {i : Nat} {a : ArD} {p : Int} (ho : l[i]? = some a) (hd : findA l p = findA (l.drop i) p) : findA l p = if inA p a = true then some a else findA (l.drop (i + 1)) p := by
  obtain ⟨hi, h⟩ := List.getElem?_eq_some_iff.1 ho
  rw [hd, List.drop_eq_getElem_cons hi, h]
  unfold findA
  rw [List.find?_cons]
  cases inA p a <;> rfl
structure NB (l : List ArD) : Prop where
  n : ∀ a ∈ l, 0 ≤ a.n ∧ a.n ≤ 256
  len : l.length ≤ 1000
theorem cost_bd : ∀ {l : List ArD}, (∀ a ∈ l, 0 ≤ a.n ∧ a.n ≤ 256) → 0 ≤ costL l ∧ costL l ≤ 256 * l.length
  | [], _ => by simp [costL]
  | a :: r, h => by
    have h1 := h a (by simp)
    have h2 := cost_bd (l := r) fun x hx => h x (by simp [hx])
    simp only [costL, List.length_cons, wA]
    split <;> omega
theorem NB.take {l : List ArD} (h : NB l) (i : Nat) : 0 ≤ costL (l.take i) ∧ costL (l.take i) ≤ 256000 := by
  have h1 := cost_bd (l := l.take i) fun a ha => h.n a (List.mem_of_mem_take ha)
  have h2 := h.len
  have h3 : (l.take i).length ≤ l.length := by rw [List.length_take]; omega
  omega
theorem NB.at {l : List ArD} (h : NB l) {i : Nat} {a : ArD} (ho : l[i]? = some a) : 0 ≤ a.n ∧ a.n ≤ 256 := h.n a (List.mem_of_getElem? ho)
theorem avalid_sp {w : World} {F : Th} (hS : Sat w [F]) (a : ArD) :
    Calls Tryd.prog 62 #[.agg #[intV a.at_, intV a.n, strV a.obj, intV a.first, .bool a.sh, .bool a.wr]] w (Ret fun v w' => v = .bool (validA a) ∧ Sat w' [F]) := by
  refine calls_enter Tryd.func62 rfl Tryd.ntmps62 rfl ?_
  refine wc_seq ?_
  refine wc_region ?_
  refine wl_box hS rfl rfl rfl ?_
  intro b1 w1 hS1
  refine wl_assign rfl rfl ?_
  refine wl_nil ?_
  refine qs_seq ?_
  refine wc_seq ?_
  refine wc_region ?_
  refine wl_fieldAddr rfl fo_55_0 rfl ?_
  refine wl_load rfl ag_3 (by first | assumption | exact hS1.cell 0 rfl rfl) rfl ?_
  refine wl_geq rfl rfl rfl ?_
  refine wl_move rfl rfl ?_
  refine wl_splitD 6 rfl (fun h2 => ?_) (fun h2 => ?_)
  · skip
    refine wl_guard rfl rfl (decide_eq_true h2) ?_
    refine wl_fieldAddr rfl fo_55_1 rfl ?_
    refine wl_guard rfl rfl (decide_eq_true h2) ?_
    refine wl_load rfl ag_3 (by first | assumption | exact hS1.cell 0 rfl rfl) rfl ?_
    refine wl_guard rfl rfl (decide_eq_true h2) ?_
    refine wl_geq rfl rfl rfl ?_
    refine wl_pickT rfl (decide_eq_true h2) rfl rfl ?_
    refine wl_move rfl rfl ?_
    refine wl_splitD 11 rfl (fun h3 => ?_) (fun h3 => ?_)
    · skip
      refine wl_guard rfl rfl (decide_eq_true h3) ?_
      refine wl_fieldAddr rfl fo_55_1 rfl ?_
      refine wl_guard rfl rfl (decide_eq_true h3) ?_
      refine wl_load rfl ag_3 (by first | assumption | exact hS1.cell 0 rfl rfl) rfl ?_
      refine wl_guard rfl rfl (decide_eq_true h3) ?_
      refine wl_leq rfl rfl rfl ?_
      refine wl_pickT rfl (decide_eq_true h3) rfl rfl ?_
      refine wl_move rfl rfl ?_
      refine wl_splitD 16 rfl (fun h4 => ?_) (fun h4 => ?_)
      · skip
        refine wl_guard rfl rfl (decide_eq_true h4) ?_
        refine wl_fieldAddr rfl fo_55_0 rfl ?_
        refine wl_guard rfl rfl (decide_eq_true h4) ?_
        refine wl_load rfl ag_3 (by first | assumption | exact hS1.cell 0 rfl rfl) rfl ?_
        refine wl_guard rfl rfl (decide_eq_true h4) ?_
        refine wl_fieldAddr rfl fo_55_1 rfl ?_
        refine wl_guard rfl rfl (decide_eq_true h4) ?_
        refine wl_load rfl ag_3 (by first | assumption | exact hS1.cell 0 rfl rfl) rfl ?_
        refine wl_guard rfl rfl (decide_eq_true h4) ?_
        refine wl_sub' rfl rfl (by omega) (by omega) rfl ?_
        refine wl_guard rfl rfl (decide_eq_true h4) ?_
        refine wl_leq rfl rfl rfl ?_
        refine wl_pickT rfl (decide_eq_true h4) rfl rfl ?_
        refine wl_move rfl rfl ?_
        refine wl_splitD 24 rfl (fun h5 => ?_) (fun h5 => ?_)
        · skip
          refine wl_guard rfl rfl (decide_eq_true h5) ?_
          refine wl_fieldAddr rfl fo_55_3 rfl ?_
          refine wl_guard rfl rfl (decide_eq_true h5) ?_
          refine wl_load rfl ag_3 (by first | assumption | exact hS1.cell 0 rfl rfl) rfl ?_
          refine wl_guard rfl rfl (decide_eq_true h5) ?_
          refine wl_geq rfl rfl rfl ?_
          refine wl_pickT rfl (decide_eq_true h5) rfl rfl ?_
          refine wl_move rfl rfl ?_
          refine wl_splitD 29 rfl (fun h6 => ?_) (fun h6 => ?_)
          · skip
            refine wl_guard rfl rfl (decide_eq_true h6) ?_
            refine wl_fieldAddr rfl fo_55_3 rfl ?_
            refine wl_guard rfl rfl (decide_eq_true h6) ?_
            refine wl_load rfl ag_3 (by first | assumption | exact hS1.cell 0 rfl rfl) rfl ?_
            refine wl_guard rfl rfl (decide_eq_true h6) ?_
            refine wl_fieldAddr rfl fo_55_1 rfl ?_
            refine wl_guard rfl rfl (decide_eq_true h6) ?_
            refine wl_load rfl ag_3 (by first | assumption | exact hS1.cell 0 rfl rfl) rfl ?_
            refine wl_guard rfl rfl (decide_eq_true h6) ?_
            refine wl_sub' rfl rfl (by omega) (by omega) rfl ?_
            refine wl_guard rfl rfl (decide_eq_true h6) ?_
            refine wl_leq rfl rfl rfl ?_
            refine wl_pickT rfl (decide_eq_true h6) rfl rfl ?_
            refine wl_move rfl rfl ?_
            refine wl_splitD 37 rfl (fun h7 => ?_) (fun h7 => ?_)
            · skip
              refine wl_guard rfl rfl (decide_eq_true h7) ?_
              refine wl_fieldAddr rfl fo_55_2 rfl ?_
              refine wl_guard rfl rfl (decide_eq_true h7) ?_
              refine wl_load rfl ag_9 (by first | assumption | exact hS1.cell 0 rfl rfl) rfl ?_
              refine wl_guard rfl rfl (decide_eq_true h7) ?_
              refine wl_neqS rfl rfl rfl ?_
              refine wl_pickT rfl (decide_eq_true h7) rfl rfl ?_
              refine wl_assign rfl rfl ?_
              refine wl_nil ?_
              refine qs_seq ?_
              refine wc_sub (L' := [(2, _)]) (.cons rfl .nil) ?_
              refine wc_ret ?_
              refine fin1 (.inr rfl) rfl rfl ?_
              exact ⟨_, rfl, by congr 1; exact decide_eq_decide.2 ⟨fun q => ⟨by omega, by omega, by omega, by omega, by omega, by omega, q⟩, fun q => q.2.2.2.2.2.2⟩, hS1.pick [1] rfl⟩
            · skip
              refine wl_unwanted rfl rfl (decide_eq_false h7) rfl ?_
              refine wl_unwanted rfl rfl (decide_eq_false h7) rfl ?_
              refine wl_unwanted rfl rfl (decide_eq_false h7) rfl ?_
              refine wl_pickF rfl (decide_eq_false h7) rfl rfl ?_
              refine wl_assign rfl rfl ?_
              refine wl_nil ?_
              refine qs_seq ?_
              refine wc_sub (L' := [(2, _)]) (.cons rfl .nil) ?_
              refine wc_ret ?_
              refine fin1 (.inr rfl) rfl rfl ?_
              exact ⟨_, rfl, by congr 1; exact (decide_eq_false (by omega)).symm, hS1.pick [1] rfl⟩
          · skip
            refine wl_unwanted rfl rfl (decide_eq_false h6) rfl ?_
            refine wl_unwanted rfl rfl (decide_eq_false h6) rfl ?_
            refine wl_unwanted rfl rfl (decide_eq_false h6) rfl ?_
            refine wl_unwanted rfl rfl (decide_eq_false h6) rfl ?_
            refine wl_unwanted rfl rfl (decide_eq_false h6) rfl ?_
            refine wl_unwanted rfl rfl (decide_eq_false h6) rfl ?_
            refine wl_pickF rfl (decide_eq_false h6) rfl rfl ?_
            refine wl_move rfl rfl ?_
            refine wl_unwanted rfl rfl rfl rfl ?_
            refine wl_unwanted rfl rfl rfl rfl ?_
            refine wl_unwanted rfl rfl rfl rfl ?_
            refine wl_pickF rfl rfl rfl rfl ?_
            refine wl_assign rfl rfl ?_
            refine wl_nil ?_
            refine qs_seq ?_
            refine wc_sub (L' := [(2, _)]) (.cons rfl .nil) ?_
            refine wc_ret ?_
            refine fin1 (.inr rfl) rfl rfl ?_
            exact ⟨_, rfl, by congr 1; exact (decide_eq_false (by omega)).symm, hS1.pick [1] rfl⟩
        · skip
          refine wl_unwanted rfl rfl (decide_eq_false h5) rfl ?_
          refine wl_unwanted rfl rfl (decide_eq_false h5) rfl ?_
          refine wl_unwanted rfl rfl (decide_eq_false h5) rfl ?_
          refine wl_pickF rfl (decide_eq_false h5) rfl rfl ?_
          refine wl_move rfl rfl ?_
          refine wl_unwanted rfl rfl rfl rfl ?_
          refine wl_unwanted rfl rfl rfl rfl ?_
          refine wl_unwanted rfl rfl rfl rfl ?_
          refine wl_unwanted rfl rfl rfl rfl ?_
          refine wl_unwanted rfl rfl rfl rfl ?_
          refine wl_unwanted rfl rfl rfl rfl ?_
          refine wl_pickF rfl rfl rfl rfl ?_
          refine wl_move rfl rfl ?_
          refine wl_unwanted rfl rfl rfl rfl ?_
          refine wl_unwanted rfl rfl rfl rfl ?_
          refine wl_unwanted rfl rfl rfl rfl ?_
          refine wl_pickF rfl rfl rfl rfl ?_
          refine wl_assign rfl rfl ?_
          refine wl_nil ?_
          refine qs_seq ?_
          refine wc_sub (L' := [(2, _)]) (.cons rfl .nil) ?_
          refine wc_ret ?_
          refine fin1 (.inr rfl) rfl rfl ?_
          exact ⟨_, rfl, by congr 1; exact (decide_eq_false (by omega)).symm, hS1.pick [1] rfl⟩
      · skip
        refine wl_unwanted rfl rfl (decide_eq_false h4) rfl ?_
        refine wl_unwanted rfl rfl (decide_eq_false h4) rfl ?_
        refine wl_unwanted rfl rfl (decide_eq_false h4) rfl ?_
        refine wl_unwanted rfl rfl (decide_eq_false h4) rfl ?_
        refine wl_unwanted rfl rfl (decide_eq_false h4) rfl ?_
        refine wl_unwanted rfl rfl (decide_eq_false h4) rfl ?_
        refine wl_pickF rfl (decide_eq_false h4) rfl rfl ?_
        refine wl_move rfl rfl ?_
        refine wl_unwanted rfl rfl rfl rfl ?_
        refine wl_unwanted rfl rfl rfl rfl ?_
        refine wl_unwanted rfl rfl rfl rfl ?_
        refine wl_pickF rfl rfl rfl rfl ?_
        refine wl_move rfl rfl ?_
        refine wl_unwanted rfl rfl rfl rfl ?_
        refine wl_unwanted rfl rfl rfl rfl ?_
        refine wl_unwanted rfl rfl rfl rfl ?_
        refine wl_unwanted rfl rfl rfl rfl ?_
        refine wl_unwanted rfl rfl rfl rfl ?_
        refine wl_unwanted rfl rfl rfl rfl ?_
        refine wl_pickF rfl rfl rfl rfl ?_
        refine wl_move rfl rfl ?_
        refine wl_unwanted rfl rfl rfl rfl ?_
        refine wl_unwanted rfl rfl rfl rfl ?_
        refine wl_unwanted rfl rfl rfl rfl ?_
        refine wl_pickF rfl rfl rfl rfl ?_
        refine wl_assign rfl rfl ?_
        refine wl_nil ?_
        refine qs_seq ?_
        refine wc_sub (L' := [(2, _)]) (.cons rfl .nil) ?_
        refine wc_ret ?_
        refine fin1 (.inr rfl) rfl rfl ?_
        exact ⟨_, rfl, by congr 1; exact (decide_eq_false (by omega)).symm, hS1.pick [1] rfl⟩
    · skip
      refine wl_unwanted rfl rfl (decide_eq_false h3) rfl ?_
      refine wl_unwanted rfl rfl (decide_eq_false h3) rfl ?_
      refine wl_unwanted rfl rfl (decide_eq_false h3) rfl ?_
      refine wl_pickF rfl (decide_eq_false h3) rfl rfl ?_
      refine wl_move rfl rfl ?_
      refine wl_unwanted rfl rfl rfl rfl ?_
      refine wl_unwanted rfl rfl rfl rfl ?_
      refine wl_unwanted rfl rfl rfl rfl ?_
      refine wl_unwanted rfl rfl rfl rfl ?_
      refine wl_unwanted rfl rfl rfl rfl ?_
      refine wl_unwanted rfl rfl rfl rfl ?_
      refine wl_pickF rfl rfl rfl rfl ?_
      refine wl_move rfl rfl ?_
      refine wl_unwanted rfl rfl rfl rfl ?_
      refine wl_unwanted rfl rfl rfl rfl ?_
      refine wl_unwanted rfl rfl rfl rfl ?_
      refine wl_pickF rfl rfl rfl rfl ?_
      refine wl_move rfl rfl ?_
      refine wl_unwanted rfl rfl rfl rfl ?_
      refine wl_unwanted rfl rfl rfl rfl ?_
      refine wl_unwanted rfl rfl rfl rfl ?_
      refine wl_unwanted rfl rfl rfl rfl ?_
      refine wl_unwanted rfl rfl rfl rfl ?_
      refine wl_unwanted rfl rfl rfl rfl ?_
      refine wl_pickF rfl rfl rfl rfl ?_
      refine wl_move rfl rfl ?_
      refine wl_unwanted rfl rfl rfl rfl ?_
      refine wl_unwanted rfl rfl rfl rfl ?_
      refine wl_unwanted rfl rfl rfl rfl ?_
      refine wl_pickF rfl rfl rfl rfl ?_
      refine wl_assign rfl rfl ?_
      refine wl_nil ?_
      refine qs_seq ?_
      refine wc_sub (L' := [(2, _)]) (.cons rfl .nil) ?_
      refine wc_ret ?_
      refine fin1 (.inr rfl) rfl rfl ?_
      exact ⟨_, rfl, by congr 1; exact (decide_eq_false (by omega)).symm, hS1.pick [1] rfl⟩
  · skip
    refine wl_unwanted rfl rfl (decide_eq_false h2) rfl ?_
    refine wl_unwanted rfl rfl (decide_eq_false h2) rfl ?_
    refine wl_unwanted rfl rfl (decide_eq_false h2) rfl ?_
    refine wl_pickF rfl (decide_eq_false h2) rfl rfl ?_
    refine wl_move rfl rfl ?_
    refine wl_unwanted rfl rfl rfl rfl ?_
    refine wl_unwanted rfl rfl rfl rfl ?_
    refine wl_unwanted rfl rfl rfl rfl ?_
    refine wl_pickF rfl rfl rfl rfl ?_
    refine wl_move rfl rfl ?_
    refine wl_unwanted rfl rfl rfl rfl ?_
    refine wl_unwanted rfl rfl rfl rfl ?_
    refine wl_unwanted rfl rfl rfl rfl ?_
    refine wl_unwanted rfl rfl rfl rfl ?_
    refine wl_unwanted rfl rfl rfl rfl ?_
    refine wl_unwanted rfl rfl rfl rfl ?_
    refine wl_pickF rfl rfl rfl rfl ?_
    refine wl_move rfl rfl ?_
    refine wl_unwanted rfl rfl rfl rfl ?_
    refine wl_unwanted rfl rfl rfl rfl ?_
    refine wl_unwanted rfl rfl rfl rfl ?_
    refine wl_pickF rfl rfl rfl rfl ?_
    refine wl_move rfl rfl ?_
    refine wl_unwanted rfl rfl rfl rfl ?_
    refine wl_unwanted rfl rfl rfl rfl ?_
    refine wl_unwanted rfl rfl rfl rfl ?_
    refine wl_unwanted rfl rfl rfl rfl ?_
    refine wl_unwanted rfl rfl rfl rfl ?_
    refine wl_unwanted rfl rfl rfl rfl ?_
    refine wl_pickF rfl rfl rfl rfl ?_
    refine wl_move rfl rfl ?_
    refine wl_unwanted rfl rfl rfl rfl ?_
    refine wl_unwanted rfl rfl rfl rfl ?_
    refine wl_unwanted rfl rfl rfl rfl ?_
    refine wl_pickF rfl rfl rfl rfl ?_
    refine wl_assign rfl rfl ?_
    refine wl_nil ?_
    refine qs_seq ?_
    refine wc_sub (L' := [(2, _)]) (.cons rfl .nil) ?_
    refine wc_ret ?_
    refine fin1 (.inr rfl) rfl rfl ?_
    exact ⟨_, rfl, by congr 1; exact (decide_eq_false (by omega)).symm, hS1.pick [1] rfl⟩

theorem aValid_sp {w : World} {F : Th} (hS : Sat w [F]) {lv : Value} {l : List ArD} (hL : Ent F (RdL arC lv l)) :
    Calls Tryd.prog 31 #[lv] w (Ret fun v w' => v = .bool (validL l) ∧ Sat w' [F]) := by
  obtain ⟨ao, cap, rfl, hmax⟩ := (hL.sat hS 0 rfl).shape
  refine calls_enter Tryd.func31 rfl Tryd.ntmps31 rfl ?_
  refine wc_seq ?_
  refine wc_region ?_
  refine wl_assign rfl rfl ?_
  refine wl_nil ?_
  refine qs_seq ?_
  refine wc_seq ?_
  refine wc_region ?_
  refine wl_assign rfl rfl ?_
  refine wl_nil ?_
  refine qs_seq ?_
  refine wc_seq ?_
  refine wc_seq ?_
  refine wc_region ?_
  refine wl_move rfl rfl ?_
  refine wl_lenL Tryd.underlying52 rfl rfl ?_
  refine wl_move rfl rfl ?_
  refine wl_nil ?_
  refine qs_seq ?_
  refine wc_block ?_
  refine wc_loop (fun K0 E0 W0 => ∃ (i : Nat) (e : Int), K0 = l.length - i ∧ E0 = [(0, .slice ao l.length cap), (3, intV e), (6, .slice ao l.length cap), (7, intV (l.length : Int)), (8, intV (i : Int))] ∧ Sat W0 [F] ∧ (i ≤ l.length) ∧ (vL 0 l = vL e (l.drop i))) (L0 := [(0, _), (3, _), (6, _), (7, _), (8, _)]) (l.length - 0) (.cons rfl (.cons rfl (.cons rfl (.cons rfl (.cons rfl .nil))))) ⟨0, 0, rfl, rfl, hS, by omega, rfl⟩ ?_
  rintro _ _ w1 ⟨i, e, rfl, rfl, hS1, hi, hd⟩
  refine wc_seq ?_
  refine wc_region ?_
  refine wl_lss rfl rfl rfl ?_
  refine wl_nil ?_
  refine qs_seq ?_
  refine wc_seq ?_
  refine wc_condD rfl (fun h2 => ?_) (fun h2 => ?_)
  · skip
    obtain ⟨o, ho⟩ : ∃ o, l[i]? = some o := ⟨_, List.getElem?_eq_getElem (by omega)⟩
    obtain ⟨b, off, rfl, hc⟩ := (hL.sat hS1 0 rfl).get ho
    refine wc_skip ?_
    refine qs_seq ?_
    refine wc_seq ?_
    refine wc_block ?_
    refine wc_seq ?_
    refine wc_region ?_
    refine wl_indexAddr i rfl rfl (by first | rfl | omega) (by omega) es_52 rfl ?_
    refine wl_loadAt rfl ag_55 sz_55 (vs := arV o) hc rfl ?_
    refine wl_alloc hS1 zr_55 rfl rfl ?_
    intro b3 w3 hS3
    clear hS1
    first | (refine wl_storeA hS3 rfl rfl sz_55 rfl (by first | rfl | (simp [allOne, Value.oneCell']; done) | assumption | exact hone) (i := 0) rfl (by first | decide | exact Nat.le_of_ble_eq_true rfl | (simp; done) | omega) ?_)
    intro w4 hS5; dsimp only [List.set] at hS5
    clear hS3
    refine wl_nil ?_
    refine qs_seq ?_
    refine wc_seq ?_
    refine wc_seq ?_
    refine wc_region ?_
    refine wl_loadA rfl ag_55 sz_55 (by first | exact hS5.blk 0 rfl) (by first | decide | exact Nat.le_of_ble_eq_true rfl | (simp; done) | omega) rfl rfl ?_
    have hC6 := hS5.split [] [false, false] rfl; dsimp only [selF, pickA, nthA, List.cons_append, List.nil_append] at hC6
    refine wl_call cal_62 rfl (avalid_sp hC6 o) rfl ?_
    rintro e w6 ⟨_, rfl, rfl, hS6⟩; refine ⟨_, rfl, ?_⟩
    replace hS6 := hS6.join rfl; dsimp only [List.dropLast, List.cons_append, List.nil_append] at hS6; clear hC6
    clear hS5
    refine wl_not rfl rfl ?_
    refine wl_move rfl rfl ?_
    refine wl_split 15 rfl (fun h7 => ?_) (fun h7 => ?_)
    · skip
      have hv : validA o = false := by simpa using h7
      refine wl_unwanted rfl rfl h7 rfl ?_
      refine wl_unwanted rfl rfl h7 rfl ?_
      refine wl_unwanted rfl rfl h7 rfl ?_
      refine wl_unwanted rfl rfl h7 rfl ?_
      refine wl_pickT rfl h7 rfl rfl ?_
      refine wl_nil ?_
      refine qs_seq ?_
      refine wc_sub (L' := [(20, _), (5, _), (0, _), (3, _), (6, _), (7, _), (8, _)]) (.cons rfl (.cons rfl (.cons rfl (.cons rfl (.cons rfl (.cons rfl (.cons rfl .nil))))))) ?_
      refine wc_condT rfl ?_
      refine wc_seq ?_
      refine wc_region ?_
      refine wl_assign rfl rfl ?_
      refine wl_nil ?_
      refine qs_seq ?_
      refine wc_ret ?_
      refine qs_then_ret ?_
      refine qs_block_ret ?_
      refine qs_then_ret ?_
      refine qs_then_ret ?_
      refine qs_block_ret ?_
      refine qs_then_ret ?_
      refine fin1 (.inr rfl) rfl rfl ?_
      exact ⟨_, rfl, by congr 1; rw [validL, vL_step ho hd, hv]; rfl, hS6.pick [1] rfl⟩
    · skip
      have hv : validA o = true := by simpa using h7
      obtain ⟨a1, a2, a3, a4, a5⟩ := ok_of_valid hv
      refine wl_guard rfl rfl h7 ?_
      refine wl_fieldAddr rfl fo_55_0 rfl ?_
      refine wl_guard rfl rfl h7 ?_
      refine wl_load rfl ag_3 (by first | assumption | exact hS6.cell 0 rfl rfl) rfl ?_
      refine wl_guard rfl rfl h7 ?_
      refine wl_move rfl rfl ?_
      refine wl_guard rfl rfl h7 ?_
      refine wl_lss rfl rfl rfl ?_
      refine wl_pickF rfl h7 rfl rfl ?_
      refine wl_nil ?_
      refine qs_seq ?_
      refine wc_sub (L' := [(20, _), (5, _), (0, _), (3, _), (6, _), (7, _), (8, _)]) (.cons rfl (.cons rfl (.cons rfl (.cons rfl (.cons rfl (.cons rfl (.cons rfl .nil))))))) ?_
      refine wc_condD rfl (fun h8 => ?_) (fun h8 => ?_)
      · skip
        refine wc_seq ?_
        refine wc_region ?_
        refine wl_assign rfl rfl ?_
        refine wl_nil ?_
        refine qs_seq ?_
        refine wc_ret ?_
        refine qs_then_ret ?_
        refine qs_block_ret ?_
        refine qs_then_ret ?_
        refine qs_then_ret ?_
        refine qs_block_ret ?_
        refine qs_then_ret ?_
        refine fin1 (.inr rfl) rfl rfl ?_
        exact ⟨_, rfl, by congr 1; rw [validL, vL_step ho hd, hv, decide_eq_false (by omega : ¬ e ≤ o.at_)]; rfl, hS6.pick [1] rfl⟩
      · skip
        refine wc_skip ?_
        refine qs_seq ?_
        refine wc_region ?_
        refine wl_fieldAddr rfl fo_55_0 rfl ?_
        refine wl_load rfl ag_3 (by first | assumption | exact hS6.cell 0 rfl rfl) rfl ?_
        refine wl_fieldAddr rfl fo_55_1 rfl ?_
        refine wl_load rfl ag_3 (by first | assumption | exact hS6.cell 0 rfl rfl) rfl ?_
        refine wl_add rfl rfl (by omega) (by omega) rfl ?_
        refine wl_assign rfl rfl ?_
        refine wl_nil ?_
        refine qs_block_normal ?_
        refine qs_seq ?_
        refine wc_sub (L' := [(3, _), (0, _), (6, _), (7, _), (8, _)]) (.cons rfl (.cons rfl (.cons rfl (.cons rfl (.cons rfl .nil))))) ?_
        refine wc_region ?_
        refine wl_add rfl rfl (by omega) (by omega) rfl ?_
        refine wl_move rfl rfl ?_
        refine wl_nil ?_
        exact qs_round (L1 := [(0, _), (3, _), (6, _), (7, _), (8, intV ((i + 1 : Nat) : Int))]) (.cons rfl (.cons rfl (.cons rfl (.cons rfl (.cons rfl .nil))))) (k1 := l.length - (i + 1)) (by omega) ⟨i + 1, _, rfl, rfl, hS6.pick [1] rfl, by omega, by rw [vL_step ho hd, hv, decide_eq_true (by omega : e ≤ o.at_)]; simp⟩
  · skip
    refine wc_exit ?_
    refine qs_then_exit ?_
    refine qs_then_exit ?_
    refine qs_block_exit ?_
    refine qs_seq ?_
    refine wc_seq ?_
    refine wc_region ?_
    refine wl_move rfl rfl ?_
    refine wl_lenL Tryd.underlying52 rfl rfl ?_
    refine wl_leq rfl rfl rfl ?_
    refine wl_assign rfl rfl ?_
    refine wl_nil ?_
    refine qs_seq ?_
    refine wc_ret ?_
    refine fin1 (.inr rfl) rfl rfl ?_
    exact ⟨_, rfl, by congr 1; rw [validL, hd, List.drop_of_length_le (by omega)]; simp only [vL, Bool.true_and]; exact decide_eq_decide.2 (by omega), hS1.pick [0] rfl⟩

theorem aFind_sp {w : World} {F : Th} (hS : Sat w [F]) {lv : Value} {l : List ArD} (hL : Ent F (RdL arC lv l)) (hall : ∀ a ∈ l, OkA a) (p : Int) :
    Calls Tryd.prog 32 #[lv, intV p] w (Ret fun v w' => v = .tuple #[.agg #[intV ((findA l p).getD arZ).at_, intV ((findA l p).getD arZ).n, strV ((findA l p).getD arZ).obj, intV ((findA l p).getD arZ).first, .bool ((findA l p).getD arZ).sh, .bool ((findA l p).getD arZ).wr], .bool (findA l p).isSome] ∧ Sat w' [F]) := by
  obtain ⟨ao, cap, rfl, hmax⟩ := (hL.sat hS 0 rfl).shape
  refine calls_enter Tryd.func32 rfl Tryd.ntmps32 rfl ?_
  refine wc_seq ?_
  refine wc_region ?_
  refine wl_alloc hS zr_55 rfl rfl ?_
  intro b1 w1 hS1
  refine wl_assign rfl rfl ?_
  refine wl_nil ?_
  refine qs_seq ?_
  refine wc_seq ?_
  refine wc_seq ?_
  refine wc_region ?_
  refine wl_move rfl rfl ?_
  refine wl_lenL Tryd.underlying52 rfl rfl ?_
  refine wl_move rfl rfl ?_
  refine wl_nil ?_
  refine qs_seq ?_
  refine wc_block ?_
  refine wc_loop (fun K0 E0 W0 => ∃ (i : Nat), K0 = l.length - i ∧ E0 = [(1, intV p), (4, ptrV b1 0), (8, .slice ao l.length cap), (9, intV (l.length : Int)), (10, intV (i : Int))] ∧ Sat W0 [blkT b1 (arV arZ), F] ∧ (i ≤ l.length) ∧ (findA l p = findA (l.drop i) p)) (L0 := [(1, _), (4, _), (8, _), (9, _), (10, _)]) (l.length - 0) (.cons rfl (.cons rfl (.cons rfl (.cons rfl (.cons rfl .nil))))) ⟨0, rfl, rfl, hS1, by omega, rfl⟩ ?_
  rintro _ _ w2 ⟨i, rfl, rfl, hS2, hi, hd⟩
  refine wc_seq ?_
  refine wc_region ?_
  refine wl_lss rfl rfl rfl ?_
  refine wl_nil ?_
  refine qs_seq ?_
  refine wc_seq ?_
  refine wc_condD rfl (fun h3 => ?_) (fun h3 => ?_)
  · skip
    obtain ⟨o, ho⟩ : ∃ o, l[i]? = some o := ⟨_, List.getElem?_eq_getElem (by omega)⟩
    obtain ⟨b, off, rfl, hc⟩ := (hL.sat hS2 1 rfl).get ho
    obtain ⟨a1, a2, a3, a4, a5⟩ := hall o (List.mem_of_getElem? ho)
    refine wc_skip ?_
    refine qs_seq ?_
    refine wc_seq ?_
    refine wc_block ?_
    refine wc_seq ?_
    refine wc_region ?_
    refine wl_indexAddr i rfl rfl (by first | rfl | omega) (by omega) es_52 rfl ?_
    refine wl_loadAt rfl ag_55 sz_55 (vs := arV o) hc rfl ?_
    refine wl_alloc hS2 zr_55 rfl rfl ?_
    intro b4 w4 hS4
    clear hS2
    first | (refine wl_storeA hS4 rfl rfl sz_55 rfl (by first | rfl | (simp [allOne, Value.oneCell']; done) | assumption | exact hone) (i := 0) rfl (by first | decide | exact Nat.le_of_ble_eq_true rfl | (simp; done) | omega) ?_) | (refine wl_storeA hS4 rfl rfl sz_55 rfl (by first | rfl | (simp [allOne, Value.oneCell']; done) | assumption | exact hone) (i := 1) rfl (by first | decide | exact Nat.le_of_ble_eq_true rfl | (simp; done) | omega) ?_)
    intro w5 hS6; dsimp only [List.set] at hS6
    clear hS4
    refine wl_nil ?_
    refine qs_seq ?_
    refine wc_seq ?_
    refine wc_region ?_
    refine wl_move rfl rfl ?_
    refine wl_fieldAddr rfl fo_55_0 rfl ?_
    refine wl_load rfl ag_3 (by first | assumption | exact hS6.cell 0 rfl rfl | exact hS6.cell 1 rfl rfl) rfl ?_
    refine wl_geq rfl rfl rfl ?_
    refine wl_move rfl rfl ?_
    refine wl_splitD 18 rfl (fun h7 => ?_) (fun h7 => ?_)
    · skip
      refine wl_guard rfl rfl (decide_eq_true h7) ?_
      refine wl_move rfl rfl ?_
      refine wl_guard rfl rfl (decide_eq_true h7) ?_
      refine wl_fieldAddr rfl fo_55_0 rfl ?_
      refine wl_guard rfl rfl (decide_eq_true h7) ?_
      refine wl_load rfl ag_3 (by first | assumption | exact hS6.cell 0 rfl rfl | exact hS6.cell 1 rfl rfl) rfl ?_
      refine wl_guard rfl rfl (decide_eq_true h7) ?_
      refine wl_fieldAddr rfl fo_55_1 rfl ?_
      refine wl_guard rfl rfl (decide_eq_true h7) ?_
      refine wl_load rfl ag_3 (by first | assumption | exact hS6.cell 0 rfl rfl | exact hS6.cell 1 rfl rfl) rfl ?_
      refine wl_guard rfl rfl (decide_eq_true h7) ?_
      refine wl_add rfl rfl (by omega) (by omega) rfl ?_
      refine wl_guard rfl rfl (decide_eq_true h7) ?_
      refine wl_lss rfl rfl rfl ?_
      refine wl_pickT rfl (decide_eq_true h7) rfl rfl ?_
      refine wl_nil ?_
      refine qs_seq ?_
      refine wc_sub (L' := [(26, _), (7, _), (1, _), (4, _), (8, _), (9, _), (10, _)]) (.cons rfl (.cons rfl (.cons rfl (.cons rfl (.cons rfl (.cons rfl (.cons rfl .nil))))))) ?_
      refine wc_condD rfl (fun h8 => ?_) (fun h8 => ?_)
      · skip
        refine wc_seq ?_
        refine wc_region ?_
        refine wl_loadA rfl ag_55 sz_55 (by first | exact hS6.blk 0 rfl | exact hS6.blk 1 rfl) (by first | decide | exact Nat.le_of_ble_eq_true rfl | (simp; done) | omega) rfl rfl ?_
        first | (refine wl_storeA hS6 rfl rfl sz_55 rfl (by first | rfl | (simp [allOne, Value.oneCell']; done) | assumption | exact hone) (i := 0) rfl (by first | decide | exact Nat.le_of_ble_eq_true rfl | (simp; done) | omega) ?_) | (refine wl_storeA hS6 rfl rfl sz_55 rfl (by first | rfl | (simp [allOne, Value.oneCell']; done) | assumption | exact hone) (i := 1) rfl (by first | decide | exact Nat.le_of_ble_eq_true rfl | (simp; done) | omega) ?_)
        intro w9 hS10; dsimp only [List.set] at hS10
        clear hS6
        refine wl_assign rfl rfl ?_
        refine wl_nil ?_
        refine qs_seq ?_
        refine wc_ret ?_
        refine qs_block_ret ?_
        refine qs_then_ret ?_
        refine qs_then_ret ?_
        refine qs_block_ret ?_
        refine qs_then_ret ?_
        refine finR2 (.inr rfl) rfl (resCA rfl ag_55 sz_55 (by first | exact hS10.blk 0 rfl | exact hS10.blk 1 rfl) (by first | decide | exact Nat.le_of_ble_eq_true rfl | (simp; done) | omega) rfl) (resT rfl) ?_
        exact ⟨_, rfl, by rw [findA_step ho hd, if_pos (by simp only [inA, Bool.and_eq_true, decide_eq_true_eq]; omega)]; rfl, hS10.pick [2] rfl⟩
      · skip
        refine wc_skip ?_
        refine qs_block_normal ?_
        refine qs_seq ?_
        refine wc_region ?_
        refine wl_add rfl rfl (by omega) (by omega) rfl ?_
        refine wl_move rfl rfl ?_
        refine wl_nil ?_
        exact qs_round (L1 := [(1, _), (4, _), (8, _), (9, _), (10, intV ((i + 1 : Nat) : Int))]) (.cons rfl (.cons rfl (.cons rfl (.cons rfl (.cons rfl .nil))))) (k1 := l.length - (i + 1)) (by omega) ⟨i + 1, rfl, rfl, hS6.pick [1, 2] rfl, by omega, by rw [findA_step ho hd, if_neg (by simp only [inA, Bool.and_eq_true, decide_eq_true_eq]; omega)]⟩
    · skip
      refine wl_unwanted rfl rfl (decide_eq_false h7) rfl ?_
      refine wl_unwanted rfl rfl (decide_eq_false h7) rfl ?_
      refine wl_unwanted rfl rfl (decide_eq_false h7) rfl ?_
      refine wl_unwanted rfl rfl (decide_eq_false h7) rfl ?_
      refine wl_unwanted rfl rfl (decide_eq_false h7) rfl ?_
      refine wl_unwanted rfl rfl (decide_eq_false h7) rfl ?_
      refine wl_unwanted rfl rfl (decide_eq_false h7) rfl ?_
      refine wl_pickF rfl (decide_eq_false h7) rfl rfl ?_
      refine wl_nil ?_
      refine qs_seq ?_
      refine wc_sub (L' := [(26, _), (7, _), (1, _), (4, _), (8, _), (9, _), (10, _)]) (.cons rfl (.cons rfl (.cons rfl (.cons rfl (.cons rfl (.cons rfl (.cons rfl .nil))))))) ?_
      refine wc_condF rfl ?_
      refine wc_skip ?_
      refine qs_block_normal ?_
      refine qs_seq ?_
      refine wc_region ?_
      refine wl_add rfl rfl (by omega) (by omega) rfl ?_
      refine wl_move rfl rfl ?_
      refine wl_nil ?_
      exact qs_round (L1 := [(1, _), (4, _), (8, _), (9, _), (10, intV ((i + 1 : Nat) : Int))]) (.cons rfl (.cons rfl (.cons rfl (.cons rfl (.cons rfl .nil))))) (k1 := l.length - (i + 1)) (by omega) ⟨i + 1, rfl, rfl, hS6.pick [1, 2] rfl, by omega, by rw [findA_step ho hd, if_neg (by simp only [inA, Bool.and_eq_true, decide_eq_true_eq]; omega)]⟩
  · skip
    refine wc_exit ?_
    refine qs_then_exit ?_
    refine qs_then_exit ?_
    refine qs_block_exit ?_
    refine qs_seq ?_
    refine wc_seq ?_
    refine wc_region ?_
    refine wl_buildS rfl pl_55_ asz_55 zr_55 rfl rfl ?_
    first | (refine wl_storeA hS2 rfl rfl sz_55 rfl (by first | rfl | (simp [allOne, Value.oneCell']; done) | assumption | exact hone) (i := 0) rfl (by first | decide | exact Nat.le_of_ble_eq_true rfl | (simp; done) | omega) ?_)
    intro w11 hS12; dsimp only [List.set] at hS12
    clear hS2
    refine wl_assign rfl rfl ?_
    refine wl_nil ?_
    refine qs_seq ?_
    refine wc_ret ?_
    refine finR2 (.inr rfl) rfl (resCA rfl ag_55 sz_55 (by first | exact hS12.blk 0 rfl) (by first | decide | exact Nat.le_of_ble_eq_true rfl | (simp; done) | omega) rfl) (resT rfl) ?_
    have hz : findA l p = none := by rw [hd, List.drop_of_length_le (by omega)]; rfl
    exact ⟨_, rfl, by rw [hz]; rfl, hS12.pick [1] rfl⟩

theorem apart_sp {w : World} {F : Th} (hS : Sat w [F]) {a : ArD} (ha : OkA a) {f t : Int} (hf : 0 ≤ f ∧ f ≤ 256) (ht : 0 ≤ t ∧ t ≤ 256) :
    Calls Tryd.prog 63 #[.agg #[intV a.at_, intV a.n, strV a.obj, intV a.first, .bool a.sh, .bool a.wr], intV f, intV t] w (Ret fun v w' => v = .tuple #[.agg #[intV (partA a f t).at_, intV (partA a f t).n, strV (partA a f t).obj, intV (partA a f t).first, .bool (partA a f t).sh, .bool (partA a f t).wr], .bool (partO a f t)] ∧ Sat w' [F]) := by
  refine calls_enter Tryd.func63 rfl Tryd.ntmps63 rfl ?_
  obtain ⟨a1, a2, a3, a4, a5⟩ := ha
  refine wc_seq ?_
  refine wc_region ?_
  refine wl_box hS rfl rfl rfl ?_
  intro b1 w1 hS1
  refine wl_alloc hS1 zr_55 rfl rfl ?_
  intro b2 w2 hS2
  clear hS1
  refine wl_assign rfl rfl ?_
  refine wl_nil ?_
  refine qs_seq ?_
  refine wc_seq ?_
  have hS3 := hS2.drew
  refine wc_draw [0, 1, 2, 3, 4, 5, 6, 7, 8, 9, 10, 11, 12] [] mix (by kernel_rfl) ?_
  refine vc_p rfl rfl rfl (fun _ => (ev_move rfl)) ?_
  refine vc_p rfl rfl rfl (fun _ => (ev_fieldAddr rfl fo_55_0)) ?_
  refine vc_q rfl rfl rfl (ev_load rfl ag_3 (by first | assumption | exact hS3.cell 0 rfl rfl | exact hS3.cell 1 rfl rfl)) ?_
  refine vc_p rfl rfl rfl (fun _ => (ev_maxI rfl rfl)) ?_
  refine vc_p rfl rfl rfl (fun _ => (ev_move rfl)) ?_
  refine vc_p rfl rfl rfl (fun _ => (ev_fieldAddr rfl fo_55_0)) ?_
  refine vc_q rfl rfl rfl (ev_load rfl ag_3 (by first | assumption | exact hS3.cell 0 rfl rfl | exact hS3.cell 1 rfl rfl)) ?_
  refine vc_p rfl rfl rfl (fun _ => (ev_fieldAddr rfl fo_55_1)) ?_
  refine vc_q rfl rfl rfl (ev_load rfl ag_3 (by first | assumption | exact hS3.cell 0 rfl rfl | exact hS3.cell 1 rfl rfl)) ?_
  refine vc_p rfl rfl rfl (fun _ => (ev_add rfl rfl (by omega) (by omega))) ?_
  refine vc_p rfl rfl rfl (fun _ => (ev_minI rfl rfl)) ?_
  refine vc_p rfl rfl rfl (fun _ => (ev_assign rfl)) ?_
  refine vc_p rfl rfl rfl (fun _ => (ev_assign rfl)) ?_
  refine VC.nil ?_
  refine qs_seq ?_
  refine wc_sub (L' := [(2, _), (1, _), (7, _), (6, _), (3, _)]) (.cons rfl (.cons rfl (.cons rfl (.cons rfl (.cons rfl .nil))))) ?_
  refine wc_seq ?_
  refine wc_region ?_
  refine wl_fieldAddr rfl fo_55_3 rfl ?_
  refine wl_load rfl ag_3 (by first | assumption | exact hS3.cell 0 rfl rfl | exact hS3.cell 1 rfl rfl) rfl ?_
  refine wl_move rfl rfl ?_
  refine wl_fieldAddr rfl fo_55_0 rfl ?_
  refine wl_load rfl ag_3 (by first | assumption | exact hS3.cell 0 rfl rfl | exact hS3.cell 1 rfl rfl) rfl ?_
  refine wl_sub' rfl rfl (by omega) (by omega) rfl ?_
  refine wl_add rfl rfl (by omega) (by omega) rfl ?_
  refine wl_fieldAddr rfl fo_55_3 rfl ?_
  first | (refine wl_store hS3 rfl rfl sz_3 (by first | rfl | assumption) (i := 0) rfl (by first | decide | exact Nat.le_of_ble_eq_true rfl | (simp; done) | omega) ?_) | (refine wl_store hS3 rfl rfl sz_3 (by first | rfl | assumption) (i := 1) rfl (by first | decide | exact Nat.le_of_ble_eq_true rfl | (simp; done) | omega) ?_)
  intro w4 hS5; dsimp only [List.set] at hS5
  clear hS3
  refine wl_nil ?_
  refine qs_seq ?_
  refine wc_sub (L' := [(2, _), (1, _), (7, _), (6, _), (3, _)]) (.cons rfl (.cons rfl (.cons rfl (.cons rfl (.cons rfl .nil))))) ?_
  refine wc_seq ?_
  refine wc_region ?_
  refine wl_move rfl rfl ?_
  refine wl_move rfl rfl ?_
  refine wl_move rfl rfl ?_
  refine wl_sub' rfl rfl (by omega) (by omega) rfl ?_
  refine wl_fieldAddr rfl fo_55_0 rfl ?_
  first | (refine wl_store hS5 rfl rfl sz_3 (by first | rfl | assumption) (i := 0) rfl (by first | decide | exact Nat.le_of_ble_eq_true rfl | (simp; done) | omega) ?_) | (refine wl_store hS5 rfl rfl sz_3 (by first | rfl | assumption) (i := 1) rfl (by first | decide | exact Nat.le_of_ble_eq_true rfl | (simp; done) | omega) ?_)
  intro w6 hS7; dsimp only [List.set] at hS7
  clear hS5
  refine wl_fieldAddr rfl fo_55_1 rfl ?_
  first | (refine wl_store hS7 rfl rfl sz_3 (by first | rfl | assumption) (i := 0) rfl (by first | decide | exact Nat.le_of_ble_eq_true rfl | (simp; done) | omega) ?_) | (refine wl_store hS7 rfl rfl sz_3 (by first | rfl | assumption) (i := 1) rfl (by first | decide | exact Nat.le_of_ble_eq_true rfl | (simp; done) | omega) ?_)
  intro w8 hS9; dsimp only [List.set] at hS9
  clear hS7
  refine wl_nil ?_
  refine qs_seq ?_
  refine wc_sub (L' := [(2, _), (1, _), (7, _), (6, _), (3, _)]) (.cons rfl (.cons rfl (.cons rfl (.cons rfl (.cons rfl .nil))))) ?_
  refine wc_seq ?_
  refine wc_region ?_
  refine wl_loadA rfl ag_55 sz_55 (by first | exact hS9.blk 0 rfl | exact hS9.blk 1 rfl) (by first | decide | exact Nat.le_of_ble_eq_true rfl | (simp; done) | omega) rfl rfl ?_
  refine wl_move rfl rfl ?_
  refine wl_move rfl rfl ?_
  refine wl_lss rfl rfl rfl ?_
  first | (refine wl_storeA hS9 rfl rfl sz_55 rfl (by first | rfl | (simp [allOne, Value.oneCell']; done) | assumption | exact hone) (i := 0) rfl (by first | decide | exact Nat.le_of_ble_eq_true rfl | (simp; done) | omega) ?_) | (refine wl_storeA hS9 rfl rfl sz_55 rfl (by first | rfl | (simp [allOne, Value.oneCell']; done) | assumption | exact hone) (i := 1) rfl (by first | decide | exact Nat.le_of_ble_eq_true rfl | (simp; done) | omega) ?_)
  intro w10 hS11; dsimp only [List.set] at hS11
  clear hS9
  refine wl_assign rfl rfl ?_
  refine wl_nil ?_
  refine qs_seq ?_
  refine wc_ret ?_
  refine finR2 (.inr rfl) rfl (resCA rfl ag_55 sz_55 (by first | exact hS11.blk 0 rfl | exact hS11.blk 1 rfl) (by first | decide | exact Nat.le_of_ble_eq_true rfl | (simp; done) | omega) rfl) (resT rfl) ?_
  exact ⟨_, rfl, rfl, hS11.pick [2] rfl⟩

end Go.Proofs.YtieelilkkpcmdaaDoor
