/- laws of tty: typed -/
import Derived.Test.YtdkfppcafpjomaaDoorTe
namespace Go.Proofs.YtdkfppcafpjomaaDoor
open Go.RowKit M
set_option linter.unusedVariables false
def typEI (l : List ItemD) : List Int := (typE 0 l).map fun n : Nat => (n : Int)
theorem typEI_at (l : List ItemD) (k g : Nat) : (typEI l)[k]? = some (g : Int) ↔ (typE 0 l)[k]? = some g := by
  unfold typEI
  rw [List.getElem?_map, Option.map_eq_some_iff]
  constructor
  · rintro ⟨a, h1, h2⟩; rw [h1]; congr 1; omega
  · intro h; exact ⟨g, h, rfl⟩
theorem typE_len (o : Nat) (l : List ItemD) : (typE o l).length ≤ l.length := by
  induction l generalizing o with
  | nil => simp [typE]
  | cons x l ih =>
    have := ih (o + (linS x).length)
    simp only [typE, List.length_append, List.length_cons]
    split <;> simp <;> omega
theorem typEI_len (l : List ItemD) : (typEI l).length ≤ l.length := by
  unfold typEI; rw [List.length_map]; exact typE_len 0 l
theorem typEI_eof {l : List ItemD} {i : Nat} {x : ItemD} (hx : l[i]? = some x) (hk : x.k = 1) : typEI (l.take (i + 1)) = typEI (l.take i) ++ [((typS (l.take i)).length : Int)] := by
  unfold typEI
  rw [take_snoc hx, typE_app, List.map_append]
  simp [typE, hk]
theorem typEI_no {l : List ItemD} {i : Nat} {x : ItemD} (hx : l[i]? = some x) (hk : x.k ≠ 1) : typEI (l.take (i + 1)) = typEI (l.take i) := by
  unfold typEI
  rw [take_snoc hx, typE_app]
  simp [typE, hk]
theorem typS_line {l : List ItemD} {i : Nat} {x : ItemD} (hx : l[i]? = some x) (hk : x.k = 0) : typS (l.take (i + 1)) = typS (l.take i) ++ x.t ++ [10] := by
  rw [take_snoc hx, typS_app]
  simp [typS, linS, hk]
theorem typS_no {l : List ItemD} {i : Nat} {x : ItemD} (hx : l[i]? = some x) (hk : x.k ≠ 0) : typS (l.take (i + 1)) = typS (l.take i) := by
  rw [take_snoc hx, typS_app]
  simp [typS, linS, hk]
theorem typA_line {l : List ItemD} {i m : Nat} {x : ItemD} (hx : l[i]? = some x) (hk : x.k = 0) (hm : m = x.t.length + 1) : typA (l.take (i + 1)) = typA (l.take i) ++ List.replicate m x.a := by
  rw [take_snoc hx, typA_app]
  simp [typA, linS, hk, hm]
theorem typA_no {l : List ItemD} {i : Nat} {x : ItemD} (hx : l[i]? = some x) (hk : x.k ≠ 0) : typA (l.take (i + 1)) = typA (l.take i) := by
  rw [take_snoc hx, typA_app]
  simp [typA, linS, hk]
theorem typS_len {l : List ItemD} (h : ∀ x ∈ l, x.t.length ≤ 200) : (typS l).length ≤ 201 * l.length := by
  induction l with
  | nil => simp [typS]
  | cons x l ih =>
    have h1 := ih fun y hy => h y (List.mem_cons_of_mem _ hy)
    have h2 := h x List.mem_cons_self
    have h3 : (linS x).length ≤ 201 := by unfold linS; split <;> simp; omega
    have e : typS (x :: l) = linS x ++ typS l := by simp [typS]
    rw [e]
    simp only [List.length_append, List.length_cons]; omega
theorem right_t {l : List ItemD} (h : rightB l = true) : ∀ x ∈ l, x.t.length ≤ 200 := fun x hx => (right_mem h x hx).2.2.2.2.2.1
theorem typS_take {l : List ItemD} (h : rightB l = true) (i : Nat) : (typS (l.take i)).length ≤ 20100 := by
  have h1 := typS_len (l := l.take i) fun x hx => right_t h x (List.mem_of_mem_take hx)
  have h2 := right_len h
  have h3 : (l.take i).length ≤ 100 := by rw [List.length_take]; omega
  omega
theorem rep_succ (m : Nat) (x : Int) (a : List Int) : a ++ List.replicate (m + 1) x = a ++ List.replicate m x ++ [x] := by
  rw [List.replicate_succ', List.append_assoc]
set_option maxRecDepth 100000 in
theorem typed_sp {w : World} {F : Th} (hS : Sat w [F]) {lv : Value} {l : List ItemD} (hL : Ent F (RdL itC lv l)) (hr : rightB l = true) :
    Calls Tryd.prog 14 #[lv] w (Ret fun v w' => ∃ ev av, v = .tuple #[strV (typS l), ev, av] ∧ Sat w' [rowT inC ev (typEI l), rowT inC av (typA l), F]) := by
  obtain ⟨ao, cap, rfl, hmax⟩ := (hL.sat hS 0 rfl).shape
  refine calls_enter Tryd.func14 rfl Tryd.ntmps14 rfl ?_
  refine wc_seq ?_
  refine wc_region ?_
  refine wl_assign rfl rfl ?_
  refine wl_assign rfl rfl ?_
  refine wl_assign rfl rfl ?_
  refine wl_nil ?_
  refine qs_seq ?_
  refine wc_seq ?_
  refine wc_region ?_
  refine wl_assign rfl rfl ?_
  refine wl_nil ?_
  refine qs_seq ?_
  refine wc_seq ?_
  refine wc_region ?_
  refine wl_assign rfl rfl ?_
  refine wl_nil ?_
  refine qs_seq ?_
  refine wc_seq ?_
  refine wc_region ?_
  refine wl_assign rfl rfl ?_
  refine wl_nil ?_
  refine qs_seq ?_
  refine wc_seq ?_
  refine wc_seq ?_
  refine wc_region ?_
  refine wl_assign rfl rfl ?_
  refine wl_nil ?_
  refine qs_seq ?_
  refine wc_block ?_
  refine wc_loop (fun K0 E0 W0 => ∃ (i : Nat) (ev : Value) (av : Value), K0 = l.length - i ∧ E0 = [(0, .slice ao l.length cap), (5, strV (typS (l.take i))), (6, ev), (7, av), (8, intV (i : Int))] ∧ Sat W0 [rowT inC ev (typEI (l.take i)), rowT inC av (typA (l.take i)), F] ∧ (i ≤ l.length)) (L0 := [(0, _), (5, _), (6, _), (7, _), (8, _)]) (l.length - 0) (.cons rfl (.cons rfl (.cons rfl (.cons rfl (.cons rfl .nil))))) ⟨0, _, _, rfl, rfl, (by rw [show typEI (List.take 0 l) = [] by simp [typEI, typE], show typA (List.take 0 l) = [] by simp [typA]]; exact (hS.row_nil inC).row_nil inC), by omega⟩ ?_
  rintro _ _ w1 ⟨i, ev, av, rfl, rfl, hS1, hi⟩
  have h1ev : ev.oneCell' = true := hS1.own_one 0 rfl
  have h1av : av.oneCell' = true := hS1.own_one 1 rfl
  refine wc_seq ?_
  refine wc_seq ?_
  refine wc_region ?_
  refine wl_move rfl rfl ?_
  refine wl_move rfl rfl ?_
  first | refine wl_lenL Tryd.underlying22 rfl rfl ?_ | refine wl_lenO 0 hS1 Tryd.underlying22 rfl rfl rfl ?_ | refine wl_lenO 1 hS1 Tryd.underlying22 rfl rfl rfl ?_
  refine wl_lss rfl rfl rfl ?_
  refine wl_nil ?_
  refine qs_seq ?_
  refine wc_condD rfl (fun h2 => ?_) (fun h2 => ?_)
  · skip
    obtain ⟨x, hx⟩ : ∃ x, l[i]? = some x := ⟨_, List.getElem?_eq_getElem (by omega)⟩
    obtain ⟨b, off, rfl, hc⟩ := (hL.sat hS1 2 rfl).get hx
    have hxt := right_t hr x (List.mem_of_getElem? hx)
    have hst := typS_take hr i
    have hal : (typA (l.take i)).length = (typS (l.take i)).length := typA_len _
    have hel : (typEI (l.take i)).length ≤ (l.take i).length := typEI_len _
    have htl : (l.take i).length ≤ l.length := by rw [List.length_take]; omega
    have hln := right_len hr
    refine wc_skip ?_
    refine qs_seq ?_
    refine wc_seq ?_
    refine wc_block ?_
    refine wc_mid (fun E0 W0 => ∃ (e2 : Value), E0 = [(0, .slice (some ⟨b, off, none⟩) l.length cap), (5, strV (typS (l.take i))), (6, e2), (7, av), (8, intV (i : Int))] ∧ Sat W0 [rowT inC e2 (typEI (l.take (i + 1))), rowT inC av (typA (l.take i)), F]) ?_ ?_
    · skip
      refine wc_seq ?_
      refine wc_region ?_
      refine wl_move rfl rfl ?_
      refine wl_move rfl rfl ?_
      refine wl_indexAddr i rfl rfl (by first | rfl | omega) (by omega) es_22 rfl ?_
      refine wl_fieldAddr rfl fo_29_1 rfl ?_
      refine wl_load rfl ag_3 (rdl_at (C := itC) (j := 1) (hL.sat hS1 2 rfl) hx rfl) rfl ?_
      refine wl_eql rfl rfl rfl ?_
      refine wl_nil ?_
      refine qs_seq ?_
      refine wc_sub (L' := [(20, _), (0, _), (5, _), (6, _), (7, _), (8, _)]) (.cons rfl (.cons rfl (.cons rfl (.cons rfl (.cons rfl (.cons rfl .nil)))))) ?_
      refine wc_condD rfl (fun h4 => ?_) (fun h4 => ?_)
      · skip
        refine wc_region ?_
        refine wl_move rfl rfl ?_
        refine wl_move rfl rfl ?_
        refine wl_lenS Tryd.underlying9 rfl rfl ?_
        refine wl_rowBuild inC [((typS (l.take i)).length : Int)] hS1 rfl Tryd.underlying37 ifz_3 rfl rfl rfl rfl (by first | rfl | simp [RowC.cells, fillL, splice]) rfl ?_
        intro b5 w5 hS5
        clear hS1
        refine wl_rowApp inC 1 hS5 rfl rfl rfl (hS5.rd 0 rfl (by simp)) Tryd.underlying37 Tryd.underlying37 (by intro k hk; cases hk) ifo_3 rfl (by first | (simp only [List.length_cons, List.length_nil]; omega) | omega) rfl (by first | (simp only [List.length_cons, List.length_nil]; omega) | omega) ?_
        intro v6 w6 hS6; dsimp only [List.set] at hS6
        clear hS5
        have h1v6 : v6.oneCell' = true := hS6.own_one 1 rfl
        refine wl_assign rfl rfl ?_
        refine wl_nil ?_
        have e3 := typEI_eof hx (by assumption)
        exact qs_mid (.cons rfl (.cons rfl (.cons rfl (.cons rfl (.cons rfl .nil))))) ⟨_, rfl, (by rw [e3]; exact hS6.pick [1, 2, 3] rfl)⟩
      · skip
        refine wc_skip ?_
        have e3 := typEI_no hx (by assumption)
        exact qs_mid (.cons rfl (.cons rfl (.cons rfl (.cons rfl (.cons rfl .nil))))) ⟨_, rfl, (by rw [e3]; exact hS1.pick [0, 1, 2] rfl)⟩
    rintro _ w3 ⟨e2, rfl, hS3⟩
    have h1e2 : e2.oneCell' = true := hS3.own_one 0 rfl
    refine wc_seq ?_
    refine wc_region ?_
    refine wl_move rfl rfl ?_
    refine wl_move rfl rfl ?_
    refine wl_indexAddr i rfl rfl (by first | rfl | omega) (by exact (List.getElem?_eq_some_iff.1 hx).1) es_22 rfl ?_
    refine wl_fieldAddr rfl fo_29_1 rfl ?_
    refine wl_load rfl ag_3 (rdl_at (C := itC) (j := 1) (hL.sat hS3 2 rfl) hx rfl) rfl ?_
    refine wl_eql rfl rfl rfl ?_
    refine wl_nil ?_
    refine qs_seq ?_
    refine wc_sub (L' := [(31, _), (0, _), (5, _), (6, _), (7, _), (8, _)]) (.cons rfl (.cons rfl (.cons rfl (.cons rfl (.cons rfl (.cons rfl .nil)))))) ?_
    refine wc_condD rfl (fun h7 => ?_) (fun h7 => ?_)
    · skip
      refine wc_seq ?_
      refine wc_region ?_
      refine wl_move rfl rfl ?_
      refine wl_move rfl rfl ?_
      refine wl_move rfl rfl ?_
      refine wl_indexAddr i rfl rfl (by first | rfl | omega) (by exact (List.getElem?_eq_some_iff.1 hx).1) es_22 rfl ?_
      refine wl_fieldAddr rfl fo_29_2 rfl ?_
      refine wl_load rfl ag_9 (rdl_at (C := itC) (j := 2) (hL.sat hS3 2 rfl) hx rfl) rfl ?_
      refine wl_concat rfl rfl (by first | omega | (simp; omega)) rfl ?_
      refine wl_concat rfl rfl (by first | omega | (simp; omega)) rfl ?_
      refine wl_assign rfl rfl ?_
      refine wl_nil ?_
      refine qs_seq ?_
      refine wc_sub (L' := [(5, _), (0, _), (6, _), (7, _), (8, _)]) (.cons rfl (.cons rfl (.cons rfl (.cons rfl (.cons rfl .nil))))) ?_
      refine wc_block ?_
      refine wc_loop (fun K0 E0 W0 => ∃ (m : Nat) (a2 : Value), K0 = x.t.length + 1 - m ∧ E0 = [(0, .slice (some ⟨b, off, none⟩) l.length cap), (5, strV (typS (l.take i) ++ x.t ++ [10])), (6, e2), (7, a2), (8, intV (i : Int))] ∧ Sat W0 [rowT inC e2 (typEI (l.take (i + 1))), rowT inC a2 (typA (l.take i) ++ List.replicate m x.a), F] ∧ (m ≤ x.t.length + 1)) (L0 := [(0, _), (5, _), (6, _), (7, _), (8, _)]) (x.t.length + 1 - 0) (.cons rfl (.cons rfl (.cons rfl (.cons rfl (.cons rfl .nil))))) ⟨0, _, rfl, rfl, (by rw [List.replicate_zero, List.append_nil]; exact hS3), by omega⟩ ?_
      rintro _ _ w8 ⟨m, a2, rfl, rfl, hS8, hm⟩
      have h1a2 : a2.oneCell' = true := hS8.own_one 1 rfl
      have hl1 : (typA (l.take i) ++ List.replicate m x.a).length = (typS (l.take i)).length + m := by rw [List.length_append, hal, List.length_replicate]
      have hl2 : (typS (l.take i) ++ x.t ++ [10]).length = (typS (l.take i)).length + x.t.length + 1 := by simp [Nat.add_assoc]
      refine wc_seq ?_
      refine wc_seq ?_
      refine wc_region ?_
      refine wl_move rfl rfl ?_
      first | refine wl_lenL Tryd.underlying37 rfl rfl ?_ | refine wl_lenO 0 hS8 Tryd.underlying37 rfl rfl rfl ?_ | refine wl_lenO 1 hS8 Tryd.underlying37 rfl rfl rfl ?_
      refine wl_move rfl rfl ?_
      refine wl_lenS Tryd.underlying9 rfl rfl ?_
      refine wl_lss rfl rfl rfl ?_
      refine wl_nil ?_
      refine qs_seq ?_
      refine wc_condD rfl (fun h9 => ?_) (fun h9 => ?_)
      · skip
        refine wc_skip ?_
        refine qs_seq ?_
        refine wc_block ?_
        refine wc_region ?_
        refine wl_move rfl rfl ?_
        refine wl_move rfl rfl ?_
        refine wl_move rfl rfl ?_
        refine wl_indexAddr i rfl rfl (by first | rfl | omega) (by exact (List.getElem?_eq_some_iff.1 hx).1) es_22 rfl ?_
        refine wl_fieldAddr rfl fo_29_0 rfl ?_
        refine wl_load rfl ag_3 (rdl_at (C := itC) (j := 0) (hL.sat hS8 2 rfl) hx rfl) rfl ?_
        refine wl_rowBuild inC [x.a] hS8 rfl Tryd.underlying37 ifz_3 rfl rfl rfl rfl (by first | rfl | simp [RowC.cells, fillL, splice]) rfl ?_
        intro b10 w10 hS10
        clear hS8
        refine wl_rowApp inC 2 hS10 rfl rfl rfl (hS10.rd 0 rfl (by simp)) Tryd.underlying37 Tryd.underlying37 (by intro k hk; cases hk) ifo_3 rfl (by first | (simp only [List.length_cons, List.length_nil]; omega) | omega) rfl (by first | (simp only [List.length_cons, List.length_nil]; omega) | omega) ?_
        intro v11 w11 hS11; dsimp only [List.set] at hS11
        clear hS10
        have h1v11 : v11.oneCell' = true := hS11.own_one 2 rfl
        refine wl_assign rfl rfl ?_
        refine wl_nil ?_
        refine qs_block_normal ?_
        exact qs_round (L1 := [(0, _), (5, _), (6, _), (7, _), (8, _)]) (.cons rfl (.cons rfl (.cons rfl (.cons rfl (.cons rfl .nil))))) (k1 := x.t.length + 1 - (m + 1)) (by omega) ⟨m + 1, _, rfl, rfl, (by rw [rep_succ]; exact hS11.pick [1, 2, 3] rfl), by omega⟩
      · skip
        refine wc_exit ?_
        refine qs_then_exit ?_
        refine qs_then_exit ?_
        refine qs_block_exit ?_
        refine qs_block_normal ?_
        refine qs_seq ?_
        refine wc_region ?_
        refine wl_move rfl rfl ?_
        refine wl_add rfl rfl (by first | omega | (simp; omega)) (by first | omega | (simp; omega)) rfl ?_
        refine wl_assign rfl rfl ?_
        refine wl_nil ?_
        have e1 := typS_line hx (by assumption)
        have e2 := typA_line hx (by assumption) (show m = x.t.length + 1 by omega)
        exact qs_round (L1 := [(0, _), (5, _), (6, _), (7, _), (8, intV ((i + 1 : Nat) : Int))]) (.cons rfl (.cons rfl (.cons rfl (.cons rfl (.cons rfl .nil))))) (k1 := l.length - (i + 1)) (by omega) ⟨i + 1, _, _, rfl, by rw [e1], (by rw [e2]; exact hS8.pick [0, 1, 2] rfl), by omega⟩
    · skip
      refine wc_skip ?_
      refine qs_block_normal ?_
      refine qs_seq ?_
      refine wc_region ?_
      refine wl_move rfl rfl ?_
      refine wl_add rfl rfl (by first | omega | (simp; omega)) (by first | omega | (simp; omega)) rfl ?_
      refine wl_assign rfl rfl ?_
      refine wl_nil ?_
      have e1 := typS_no hx (by assumption)
      have e2 := typA_no hx (by assumption)
      exact qs_round (L1 := [(0, _), (5, _), (6, _), (7, _), (8, intV ((i + 1 : Nat) : Int))]) (.cons rfl (.cons rfl (.cons rfl (.cons rfl (.cons rfl .nil))))) (k1 := l.length - (i + 1)) (by omega) ⟨i + 1, _, _, rfl, by rw [e1], (by rw [e2]; exact hS3.pick [0, 1, 2] rfl), by omega⟩
  · skip
    refine wc_exit ?_
    refine qs_then_exit ?_
    refine qs_then_exit ?_
    refine qs_block_exit ?_
    refine qs_seq ?_
    refine wc_seq ?_
    refine wc_region ?_
    refine wl_move rfl rfl ?_
    refine wl_move rfl rfl ?_
    refine wl_move rfl rfl ?_
    refine wl_assign rfl rfl ?_
    refine wl_assign rfl rfl ?_
    refine wl_assign rfl rfl ?_
    refine wl_nil ?_
    refine qs_seq ?_
    refine wc_sub (L' := [(4, _), (3, _), (2, _)]) (.cons rfl (.cons rfl (.cons rfl .nil))) ?_
    refine wc_ret ?_
    refine fin3 (.inr rfl) rfl rfl rfl rfl ?_
    obtain rfl : i = l.length := by omega
    have etk : l.take l.length = l := List.take_length
    rw [etk] at hS1 ⊢
    exact ⟨_, rfl, _, _, rfl, hS1.pick [0, 1, 2] rfl⟩

end Go.Proofs.YtdkfppcafpjomaaDoor
