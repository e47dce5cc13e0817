/- laws of tty: TtyTimes -/
import Derived.Test.YtdkfppcafpjomaaDoorTd
import Derived.Laws.StructEq
namespace Go.Proofs.YtdkfppcafpjomaaDoor
open Go.RowKit M
set_option linter.unusedVariables false
theorem rightP_nn {l : List ItemD} {i : Nat} (h : rightP l i = true) : ∀ j, j < i → 0 ≤ (ix l j).a := by
  intro j hj
  unfold rightP at h
  rw [List.all_eq_true] at h
  induction j with
  | zero => have := rightI_iff.1 (h 0 (List.mem_range.2 hj)); unfold lastI at this; simp at this; omega
  | succ j ih =>
    have h1 := ih (by omega)
    have := rightI_iff.1 (h (j + 1) (List.mem_range.2 hj))
    unfold lastI at this
    rw [if_neg (by omega), Nat.add_sub_cancel] at this; omega
def okA (l : List ItemD) (i : Nat) (x : ItemD) : Prop := 0 ≤ x.a ∧ x.a ≤ 1099511627776 ∧ 0 ≤ x.k ∧ x.k < 4 ∧ x.t.length ≤ 200 ∧ (x.k = 0 ∨ x.t = []) ∧ (i = 0 ∨ (ix l (i - 1)).a ≤ x.a)
theorem right_step {l : List ItemD} {i k : Nat} {x : ItemD} {c r2 r3 : Bool} (hx : l[i]? = some x) (h2 : r2 = true ↔ (c && rightP l i) = true ∧ okA l i x) (h3 : r3 = true ↔ r2 = true ∧ ∀ j, j < k → x.t[j]? ≠ some 10) (hk : k = x.t.length ∨ r3 = false) : r3 = (c && rightP l (i + 1)) := by
  rw [rightP_succ, ← Bool.and_assoc, ix_of hx, Bool.eq_iff_iff, Bool.and_eq_true, rightI_iff, h3, h2]
  constructor
  · rintro ⟨⟨q1, q2⟩, q3⟩
    obtain ⟨a1, a2, a3, a4, a5, a6, a7⟩ := q2
    refine ⟨q1, ?_, a2, a3, a4, a6, a5, ?_⟩
    · unfold lastI; split
      · exact a1
      · rcases a7 with a7 | a7
        · contradiction
        · exact a7
    · rcases hk with hk | hk
      · intro hm
        obtain ⟨j, hj⟩ := List.mem_iff_getElem?.1 hm
        exact q3 j (by have := (List.getElem?_eq_some_iff.1 hj).1; omega) hj
      · have := h3.2 ⟨h2.2 ⟨q1, ⟨a1, a2, a3, a4, a5, a6, a7⟩⟩, q3⟩
        rw [hk] at this; cases this
  · rintro ⟨q1, a1, a2, a3, a4, a6, a5, a8⟩
    refine ⟨⟨q1, ?_⟩, fun j _ hj => a8 (List.mem_of_getElem? hj)⟩
    have hp : rightP l i = true := by simp only [Bool.and_eq_true] at q1; exact q1.2
    unfold lastI at a1
    refine ⟨?_, a2, a3, a4, a5, a6, ?_⟩
    · split at a1
      · exact a1
      · rename_i hi; have := rightP_nn hp (i - 1) (by omega); omega
    · split at a1
      · left; assumption
      · right; exact a1
theorem okA_len {l : List ItemD} {i : Nat} {x : ItemD} (h : okA l i x) : x.t.length ≤ 200 := h.2.2.2.2.1
theorem lf_step {s : Bs} {k : Nat} {c : UInt8} {r2 : Bool} (hc : s[k]? = some c) (h : r2 = true ∧ ∀ j, j < k → s[j]? ≠ some 10) : decide ((c.toNat : Int) ≠ 10) = true ↔ r2 = true ∧ ∀ j, j < k + 1 → s[j]? ≠ some 10 := by
  constructor
  · intro q
    refine ⟨h.1, fun j hj => ?_⟩
    by_cases e : j = k
    · subst e; rw [hc]; intro z; cases z; exact absurd rfl (of_decide_eq_true q)
    · exact h.2 j (by omega)
  · rintro ⟨_, q⟩
    have := q k (by omega)
    rw [hc] at this
    refine decide_eq_true (fun z => this ?_)
    have z2 : c.toNat = 10 := by omega
    rw [show c = 10 from UInt8.toNat_inj.1 z2]
theorem items_bad {l : List ItemD} (h : rightB l = false) : itemsW (fillW emptyW l) = [] := by
  unfold fillW; rw [if_neg (by simp [h])]; rfl
theorem fillE_bad {l : List ItemD} (h : rightB l = false) : fillE l = 1 := by unfold fillE; rw [if_neg (by simp [h])]
theorem fillE_ok {l : List ItemD} (h : rightB l = true) : fillE l = 0 := by unfold fillE; rw [if_pos h]
def FN (l : List ItemD) (N now : Int) (i : Nat) : Prop := ∃ j x, j < i ∧ l[j]? = some x ∧ x.a = N ∧ now < N
theorem FN_succ {l : List ItemD} {N now : Int} {i : Nat} {x : ItemD} (hx : l[i]? = some x) : FN l N now (i + 1) ↔ FN l N now i ∨ (x.a = N ∧ now < N) := by
  constructor
  · rintro ⟨j, y, h1, h2, h3⟩
    by_cases e : j = i
    · subst e; rw [hx] at h2; cases h2; exact .inr h3
    · exact .inl ⟨j, y, by omega, h2, h3⟩
  · rintro (⟨j, y, h1, h2, h3⟩ | h)
    · exact ⟨j, y, by omega, h2, h3⟩
    · exact ⟨i, x, by omega, hx, h⟩
theorem FN_end {l : List ItemD} (h : rightB l = true) {now : Int} {i : Nat} (hi : i = l.length) {f : Bool} (hf : f = true ↔ FN l ((nextAtF l now).getD 0) now i) : (nextAtF l now).isSome = f := by
  subst hi
  obtain ⟨h1, h2⟩ := nextAt_least h now
  rw [Bool.eq_iff_iff, hf]
  cases hq : nextAtF l now with
  | none =>
    simp only [Option.isSome_none, Option.getD_none]
    refine ⟨fun q => (by cases q), ?_⟩
    rintro ⟨j, x, _, q2, q3, q4⟩
    exact absurd (by omega) (h2 hq x (List.mem_of_getElem? q2))
  | some n =>
    obtain ⟨⟨x, hx, hxa⟩, h3, _⟩ := h1 n hq
    obtain ⟨j, hj⟩ := List.mem_iff_getElem?.1 hx
    simp only [Option.isSome_some, Option.getD_some, true_iff]
    exact ⟨j, x, (List.getElem?_eq_some_iff.1 hj).1, hj, hxa, h3⟩
theorem no_less {l : List ItemD} {now : Int} {x : ItemD} (hb : rightB l = true) (hx : x ∈ l) (h1 : now < x.a) (h2 : (!(nextAtF l now).isSome) = false) (h3 : x.a < (nextAtF l now).getD 0) : False := by
  cases hq : nextAtF l now with
  | none => rw [hq] at h2; simp at h2
  | some N =>
    rw [hq] at h3
    have := ((nextAt_least hb now).1 N hq).2.2 x hx h1
    simp at h3; omega
set_option maxRecDepth 100000 in
set_option maxHeartbeats 2000000 in
theorem times_law {w : World} {F : Th} (hS : Sat w [F]) (hG : Ent F WireG) {lv : Value} {l : List ItemD} (hL : Ent F (RdL itC lv l)) (now : Int) :
    Calls Tryd.prog 3 #[lv, intV now] w (Ret fun v w' => v = .bool true ∧ Sat w' [F]) := by
  obtain ⟨ao, cap, rfl, hmax⟩ := (hL.sat hS 0 rfl).shape
  refine calls_enter Tryd.func3 rfl Tryd.ntmps3 rfl ?_
  refine wc_seq ?_
  refine wc_region ?_
  refine wl_assign rfl rfl ?_
  refine wl_nil ?_
  refine qs_seq ?_
  refine wc_seq ?_
  refine wc_region ?_
  have hC1 := hS.split [] [false] rfl; dsimp only [selF, pickA, nthA, List.cons_append, List.nil_append] at hC1
  refine wl_call cal_7 rfl (tsmall_sp hC1 (hG.starL 0 rfl)) rfl ?_
  rintro e w1 ⟨_, rfl, rfl, hS1⟩; refine ⟨_, rfl, ?_⟩
  replace hS1 := hS1.join rfl; dsimp only [List.dropLast, List.cons_append, List.nil_append] at hS1; clear hC1
  refine wl_assign rfl rfl ?_
  refine wl_nil ?_
  refine qs_seq ?_
  refine wc_seq ?_
  refine wc_region ?_
  have hC2 := hS1.split [] [false] rfl; dsimp only [selF, pickA, nthA, List.cons_append, List.nil_append] at hC2
  refine wl_call cal_8 rfl (new_sp hC2) rfl ?_
  rintro e w2 ⟨_, rfl, p, rfl, hS2⟩; refine ⟨_, rfl, ?_⟩
  replace hS2 := hS2.join rfl; dsimp only [List.dropLast, List.cons_append, List.nil_append] at hS2; clear hC2
  clear hS1
  refine wl_assign rfl rfl ?_
  refine wl_nil ?_
  refine qs_seq ?_
  refine wc_seq ?_
  refine wc_seq ?_
  refine wc_region ?_
  refine wl_move rfl rfl ?_
  refine wl_lenL Tryd.underlying22 rfl rfl ?_
  refine wl_gtr rfl rfl rfl ?_
  refine wl_move rfl rfl ?_
  refine wl_splitD 21 rfl (fun h3 => ?_) (fun h3 => ?_)
  · skip
    refine wl_unwanted rfl rfl (decide_eq_true h3) rfl ?_
    refine wl_unwanted rfl rfl (decide_eq_true h3) rfl ?_
    refine wl_pickT rfl (decide_eq_true h3) rfl rfl ?_
    refine wl_nil ?_
    refine qs_seq ?_
    refine wc_sub (L' := [(24, _), (6, _), (5, _), (4, _), (0, _), (1, _)]) (.cons rfl (.cons rfl (.cons rfl (.cons rfl (.cons rfl (.cons rfl .nil)))))) ?_
    refine wc_condT rfl ?_
    refine wc_seq ?_
    refine wc_region ?_
    refine wl_move rfl rfl ?_
    refine wl_move rfl rfl ?_
    refine wl_guard rfl rfl rfl ?_
    refine wl_move rfl rfl ?_
    refine wl_guard rfl rfl rfl ?_
    refine wl_neqNil Tryd.underlying24 rfl rfl rfl ?_
    refine wl_pickT rfl rfl rfl rfl ?_
    refine wl_assign rfl rfl ?_
    refine wl_nil ?_
    refine qs_seq ?_
    refine wc_sub (L' := [(4, _), (6, _), (5, _), (0, _), (1, _)]) (.cons rfl (.cons rfl (.cons rfl (.cons rfl (.cons rfl .nil))))) ?_
    refine wc_ret ?_
    refine qs_then_ret ?_
    refine fin1 (.inr rfl) rfl rfl ?_
    exact ⟨_, rfl, by first | rfl | simp, hS2.pick [1] rfl⟩
  · skip
    refine wl_guard rfl rfl (decide_eq_false h3) ?_
    refine wl_move rfl rfl ?_
    refine wl_guard rfl rfl (decide_eq_false h3) ?_
    refine wl_eqlNil Tryd.underlying24 rfl rfl rfl ?_
    refine wl_pickF rfl (decide_eq_false h3) rfl rfl ?_
    refine wl_nil ?_
    refine qs_seq ?_
    refine wc_sub (L' := [(24, _), (6, _), (5, _), (4, _), (0, _), (1, _)]) (.cons rfl (.cons rfl (.cons rfl (.cons rfl (.cons rfl (.cons rfl .nil)))))) ?_
    refine wc_condF rfl ?_
    refine wc_skip ?_
    refine qs_seq ?_
    refine wc_seq ?_
    refine wc_region ?_
    refine wl_move rfl rfl ?_
    refine wl_makeIface nif_24 rfl rfl ?_
    refine wl_move rfl rfl ?_
    have hC4 := hS2.split [0] [true, false] rfl; dsimp only [selF, pickA, nthA, List.cons_append, List.nil_append] at hC4
    refine wl_call cal_9 rfl (fill_sp hC4 (hG.starL 0 rfl) (hL.starL 0 rfl) (by omega)) rfl ?_
    rintro e w4 ⟨_, rfl, rfl, hS4⟩; refine ⟨_, rfl, ?_⟩
    replace hS4 := hS4.join rfl; dsimp only [List.dropLast, List.cons_append, List.nil_append] at hS4; clear hC4
    clear hS2
    refine wl_assign rfl rfl ?_
    refine wl_nil ?_
    refine qs_seq ?_
    refine wc_sub (L' := [(7, _), (6, _), (5, _), (4, _), (0, _), (1, _)]) (.cons rfl (.cons rfl (.cons rfl (.cons rfl (.cons rfl (.cons rfl .nil)))))) ?_
    refine wc_seq ?_
    refine wc_region ?_
    refine wl_move rfl rfl ?_
    refine wl_lenL Tryd.underlying22 rfl rfl ?_
    refine wl_leq rfl rfl rfl ?_
    refine wl_assign rfl rfl ?_
    refine wl_nil ?_
    refine qs_seq ?_
    refine wc_seq ?_
    refine wc_seq ?_
    refine wc_region ?_
    refine wl_assign rfl rfl ?_
    refine wl_nil ?_
    refine qs_seq ?_
    refine wc_sub (L' := [(9, _), (8, _), (7, _), (6, _), (5, _), (4, _), (0, _), (1, _)]) (.cons rfl (.cons rfl (.cons rfl (.cons rfl (.cons rfl (.cons rfl (.cons rfl (.cons rfl .nil)))))))) ?_
    refine wc_block ?_
    refine wc_loop (fun K0 E0 W0 => ∃ (i : Nat), K0 = l.length - i ∧ E0 = [(0, .slice ao l.length cap), (1, intV now), (5, .bool true), (6, ptrV p 0), (7, intV (fillE l)), (8, .bool (decide ((l.length : Int) ≤ 100) && rightP l i)), (9, intV (i : Int))] ∧ Sat W0 [worldT p (fillW emptyW l), F] ∧ (i ≤ l.length)) (L0 := [(0, _), (1, _), (5, _), (6, _), (7, _), (8, _), (9, _)]) (l.length - 0) (.cons rfl (.cons rfl (.cons rfl (.cons rfl (.cons rfl (.cons rfl (.cons rfl .nil))))))) ⟨0, rfl, (by rw [show rightP l 0 = true from rfl, Bool.and_true]; rfl), hS4, by omega⟩ ?_
    rintro _ _ w5 ⟨i, rfl, rfl, hS5, hi⟩
    refine wc_seq ?_
    refine wc_seq ?_
    refine wc_region ?_
    refine wl_move rfl rfl ?_
    refine wl_move rfl rfl ?_
    refine wl_lenL Tryd.underlying22 rfl rfl ?_
    refine wl_lss rfl rfl rfl ?_
    refine wl_nil ?_
    refine qs_seq ?_
    refine wc_sub (L' := [(40, _), (0, _), (1, _), (5, _), (6, _), (7, _), (8, _), (9, _)]) (.cons rfl (.cons rfl (.cons rfl (.cons rfl (.cons rfl (.cons rfl (.cons rfl (.cons rfl .nil)))))))) ?_
    refine wc_condD rfl (fun h6 => ?_) (fun h6 => ?_)
    · skip
      obtain ⟨x, hx⟩ : ∃ x, l[i]? = some x := ⟨_, List.getElem?_eq_getElem (by omega)⟩
      obtain ⟨b, off, rfl, hc⟩ := (hL.sat hS5 1 rfl).get hx
      obtain ⟨xp, hxp⟩ : ∃ xp, l[i - 1]? = some xp := ⟨_, List.getElem?_eq_getElem (by omega)⟩
      have hxq := ix_of hxp
      refine wc_skip ?_
      refine qs_seq ?_
      refine wc_seq ?_
      refine wc_block ?_
      refine wc_seq ?_
      refine wc_region ?_
      refine wl_move rfl rfl ?_
      refine wl_move rfl rfl ?_
      refine wl_indexAddr i rfl rfl (by first | rfl | omega) (by omega) es_22 rfl ?_
      refine wl_loadAt rfl ag_29 sz_29 (vs := itV x) hc rfl ?_
      refine wl_alloc hS5 zr_29 rfl rfl ?_
      intro bx wbx hSbx
      clear hS5
      first | (refine wl_storeA hSbx rfl rfl sz_29 rfl (by first | rfl | (simp [allOne, Value.oneCell']; done) | assumption | exact hone) (i := 0) rfl (by first | decide | exact Nat.le_of_ble_eq_true rfl | (simp; done) | omega) ?_)
      intro w7 hS8; dsimp only [List.set] at hS8
      clear hSbx
      refine wl_nil ?_
      refine qs_seq ?_
      refine wc_sub (L' := [(10, _), (0, _), (1, _), (5, _), (6, _), (7, _), (8, _), (9, _)]) (.cons rfl (.cons rfl (.cons rfl (.cons rfl (.cons rfl (.cons rfl (.cons rfl (.cons rfl .nil)))))))) ?_
      refine wc_mid (fun E0 W0 => ∃ (r2 : Bool), E0 = [(0, .slice (some ⟨b, off, none⟩) l.length cap), (1, intV now), (5, .bool true), (6, ptrV p 0), (7, intV (fillE l)), (9, intV (i : Int)), (10, ptrV bx 0), (8, .bool r2)] ∧ Sat W0 [blkT bx (itV x), worldT p (fillW emptyW l), F] ∧ (r2 = true ↔ (decide ((l.length : Int) ≤ 100) && rightP l i) = true ∧ okA l i x)) ?_ ?_
      · skip
        have hS10 := hS8.drew
        refine wc_draw [0, 1, 2, 3, 4, 5, 6, 7, 8, 9, 10, 11, 12, 13, 14, 15, 16, 17, 18, 19, 20, 21, 22, 23, 24, 25, 26, 27, 28, 29, 30, 31, 32, 33, 34, 35, 36, 37, 38, 39, 40, 41, 42, 43, 44, 45, 46, 47, 48, 49, 50, 51, 52, 53] [] mix (by kernel_rfl) ?_
        refine vc_p rfl rfl rfl (fun _ => (ev_move rfl)) ?_
        refine vc_p rfl rfl rfl (fun _ => (ev_move rfl)) ?_
        refine vc_split 48 rfl (fun h11 => ?_) (fun h11 => ?_)
        · skip
          refine vc_p rfl rfl (guard_yes rfl rfl h11) (fun _ => (Ev.gd (ev_fieldAddr rfl fo_29_0))) ?_
          refine vc_q rfl rfl (guard_yes rfl rfl h11) (Ev.gd (ev_load rfl ag_3 (by first | assumption | exact hS10.cell 0 rfl rfl))) ?_
          refine vc_p rfl rfl (guard_yes rfl rfl h11) (fun _ => (Ev.gd (ev_geq rfl rfl))) ?_
          refine vc_p rfl rfl rfl (fun _ => (ev_pickT rfl h11 rfl)) ?_
          refine vc_p rfl rfl rfl (fun _ => (ev_move rfl)) ?_
          refine vc_splitD 53 rfl (fun h12 => ?_) (fun h12 => ?_)
          · skip
            refine vc_p rfl rfl (guard_yes rfl rfl (decide_eq_true h12)) (fun _ => (Ev.gd (ev_fieldAddr rfl fo_29_0))) ?_
            refine vc_q rfl rfl (guard_yes rfl rfl (decide_eq_true h12)) (Ev.gd (ev_load rfl ag_3 (by first | assumption | exact hS10.cell 0 rfl rfl))) ?_
            refine vc_p rfl rfl (guard_yes rfl rfl (decide_eq_true h12)) (fun _ => (Ev.gd (ev_leq rfl rfl))) ?_
            refine vc_p rfl rfl rfl (fun _ => (ev_pickT rfl (decide_eq_true h12) rfl)) ?_
            refine vc_p rfl rfl rfl (fun _ => (ev_move rfl)) ?_
            refine vc_splitD 58 rfl (fun h13 => ?_) (fun h13 => ?_)
            · skip
              refine vc_p rfl rfl (guard_yes rfl rfl (decide_eq_true h13)) (fun _ => (Ev.gd (ev_fieldAddr rfl fo_29_1))) ?_
              refine vc_q rfl rfl (guard_yes rfl rfl (decide_eq_true h13)) (Ev.gd (ev_load rfl ag_3 (by first | assumption | exact hS10.cell 0 rfl rfl))) ?_
              refine vc_p rfl rfl (guard_yes rfl rfl (decide_eq_true h13)) (fun _ => (Ev.gd (ev_geq rfl rfl))) ?_
              refine vc_p rfl rfl rfl (fun _ => (ev_pickT rfl (decide_eq_true h13) rfl)) ?_
              refine vc_p rfl rfl rfl (fun _ => (ev_move rfl)) ?_
              refine vc_splitD 63 rfl (fun h14 => ?_) (fun h14 => ?_)
              · skip
                refine vc_p rfl rfl (guard_yes rfl rfl (decide_eq_true h14)) (fun _ => (Ev.gd (ev_fieldAddr rfl fo_29_1))) ?_
                refine vc_q rfl rfl (guard_yes rfl rfl (decide_eq_true h14)) (Ev.gd (ev_load rfl ag_3 (by first | assumption | exact hS10.cell 0 rfl rfl))) ?_
                refine vc_p rfl rfl (guard_yes rfl rfl (decide_eq_true h14)) (fun _ => (Ev.gd (ev_lss rfl rfl))) ?_
                refine vc_p rfl rfl rfl (fun _ => (ev_pickT rfl (decide_eq_true h14) rfl)) ?_
                refine vc_p rfl rfl rfl (fun _ => (ev_move rfl)) ?_
                refine vc_splitD 68 rfl (fun h15 => ?_) (fun h15 => ?_)
                · skip
                  refine vc_p rfl rfl (guard_yes rfl rfl (decide_eq_true h15)) (fun _ => (Ev.gd (ev_fieldAddr rfl fo_29_2))) ?_
                  refine vc_q rfl rfl (guard_yes rfl rfl (decide_eq_true h15)) (Ev.gd (ev_load rfl ag_9 (by first | assumption | exact hS10.cell 0 rfl rfl))) ?_
                  refine vc_p rfl rfl (guard_yes rfl rfl (decide_eq_true h15)) (fun _ => (Ev.gd (ev_lenS Tryd.underlying9 rfl))) ?_
                  refine vc_p rfl rfl (guard_yes rfl rfl (decide_eq_true h15)) (fun _ => (Ev.gd (ev_leq rfl rfl))) ?_
                  refine vc_p rfl rfl rfl (fun _ => (ev_pickT rfl (decide_eq_true h15) rfl)) ?_
                  refine vc_p rfl rfl rfl (fun _ => (ev_move rfl)) ?_
                  refine vc_splitD 74 rfl (fun h16 => ?_) (fun h16 => ?_)
                  · skip
                    refine vc_p rfl rfl (guard_yes rfl rfl (decide_eq_true h16)) (fun _ => (Ev.gd (ev_fieldAddr rfl fo_29_1))) ?_
                    refine vc_q rfl rfl (guard_yes rfl rfl (decide_eq_true h16)) (Ev.gd (ev_load rfl ag_3 (by first | assumption | exact hS10.cell 0 rfl rfl))) ?_
                    refine vc_p rfl rfl (guard_yes rfl rfl (decide_eq_true h16)) (fun _ => (Ev.gd (ev_eql rfl rfl))) ?_
                    refine vc_p rfl rfl (guard_yes rfl rfl (decide_eq_true h16)) (fun _ => (Ev.gd (ev_move rfl))) ?_
                    refine vc_splitD 78 rfl (fun h17 => ?_) (fun h17 => ?_)
                    · skip
                      refine vc_not rfl rfl (guard_no rfl rfl (decide_eq_true h17)) ?_
                      refine vc_not rfl rfl (guard_no rfl rfl (decide_eq_true h17)) ?_
                      refine vc_not rfl rfl (guard_no rfl rfl (decide_eq_true h17)) ?_
                      refine vc_p rfl rfl (guard_yes rfl rfl (decide_eq_true h16)) (fun _ => (Ev.gd (ev_pickT rfl (decide_eq_true h17) rfl))) ?_
                      refine vc_p rfl rfl rfl (fun _ => (ev_pickT rfl (decide_eq_true h16) rfl)) ?_
                      refine vc_p rfl rfl rfl (fun _ => (ev_move rfl)) ?_
                      refine vc_p rfl rfl (guard_yes rfl rfl rfl) (fun _ => (Ev.gd (ev_move rfl))) ?_
                      refine vc_p rfl rfl (guard_yes rfl rfl rfl) (fun _ => (Ev.gd (ev_eql rfl rfl))) ?_
                      refine vc_p rfl rfl (guard_yes rfl rfl rfl) (fun _ => (Ev.gd (ev_move rfl))) ?_
                      refine vc_splitD 87 rfl (fun h18 => ?_) (fun h18 => ?_)
                      · skip
                        refine vc_not rfl rfl (guard_no rfl rfl (decide_eq_true h18)) ?_
                        refine vc_not rfl rfl (guard_no rfl rfl (decide_eq_true h18)) ?_
                        refine vc_not rfl rfl (guard_no rfl rfl (decide_eq_true h18)) ?_
                        refine vc_not rfl rfl (guard_no rfl rfl (decide_eq_true h18)) ?_
                        refine vc_not rfl rfl (guard_no rfl rfl (decide_eq_true h18)) ?_
                        refine vc_not rfl rfl (guard_no rfl rfl (decide_eq_true h18)) ?_
                        refine vc_not rfl rfl (guard_no rfl rfl (decide_eq_true h18)) ?_
                        refine vc_not rfl rfl (guard_no rfl rfl (decide_eq_true h18)) ?_
                        refine vc_not rfl rfl (guard_no rfl rfl (decide_eq_true h18)) ?_
                        refine vc_not rfl rfl (guard_no rfl rfl (decide_eq_true h18)) ?_
                        refine vc_p rfl rfl (guard_yes rfl rfl rfl) (fun _ => (Ev.gd (ev_pickT rfl (decide_eq_true h18) rfl))) ?_
                        refine vc_p rfl rfl rfl (fun _ => (ev_pickT rfl rfl rfl)) ?_
                        refine vc_p rfl rfl rfl (fun _ => (ev_assign rfl)) ?_
                        refine VC.nil ?_
                        exact qs_mid (.cons rfl (.cons rfl (.cons rfl (.cons rfl (.cons rfl (.cons rfl (.cons rfl (.cons rfl .nil)))))))) ⟨_, rfl, hS10.pick [0, 1, 2] rfl, by unfold okA; first | (simp_all; done) | (simp_all; omega) | omega⟩
                      · skip
                        refine vc_p rfl rfl (guard_yes rfl rfl (decide_eq_false h18)) (fun _ => (Ev.gd (ev_fieldAddr rfl fo_29_0))) ?_
                        refine vc_q rfl rfl (guard_yes rfl rfl (decide_eq_false h18)) (Ev.gd (ev_load rfl ag_3 (by first | assumption | exact hS10.cell 0 rfl rfl))) ?_
                        refine vc_p rfl rfl (guard_yes rfl rfl (decide_eq_false h18)) (fun _ => (Ev.gd (ev_move rfl))) ?_
                        refine vc_p rfl rfl (guard_yes rfl rfl (decide_eq_false h18)) (fun _ => (Ev.gd (ev_move rfl))) ?_
                        refine vc_p rfl rfl (guard_yes rfl rfl (decide_eq_false h18)) (fun _ => (Ev.gd (ev_sub' rfl rfl (by first | omega | (simp; omega)) (by first | omega | (simp; omega))))) ?_
                        refine vc_p rfl rfl (guard_yes rfl rfl (decide_eq_false h18)) (fun _ => (Ev.gd (ev_maxI rfl rfl))) ?_
                        refine vc_p rfl rfl (guard_yes rfl rfl (decide_eq_false h18)) (fun _ => (Ev.gd (ev_indexAddr (i - 1) rfl rfl (by first | rfl | omega) (by omega) es_22))) ?_
                        refine vc_p rfl rfl (guard_yes rfl rfl (decide_eq_false h18)) (fun _ => (Ev.gd (ev_fieldAddr rfl fo_29_0))) ?_
                        refine vc_q rfl rfl (guard_yes rfl rfl (decide_eq_false h18)) (Ev.gd (ev_load rfl ag_3 (rdl_at (C := itC) (j := 0) (hL.sat hS10 2 rfl) hxp rfl))) ?_
                        refine vc_p rfl rfl (guard_yes rfl rfl (decide_eq_false h18)) (fun _ => (Ev.gd (ev_geq rfl rfl))) ?_
                        refine vc_p rfl rfl (guard_yes rfl rfl rfl) (fun _ => (Ev.gd (ev_pickF rfl (decide_eq_false h18) rfl))) ?_
                        refine vc_p rfl rfl rfl (fun _ => (ev_pickT rfl rfl rfl)) ?_
                        refine vc_p rfl rfl rfl (fun _ => (ev_assign rfl)) ?_
                        refine VC.nil ?_
                        exact qs_mid (.cons rfl (.cons rfl (.cons rfl (.cons rfl (.cons rfl (.cons rfl (.cons rfl (.cons rfl .nil)))))))) ⟨_, rfl, hS10.pick [0, 1, 2] rfl, by unfold okA; first | (simp_all; done) | (simp_all; omega) | omega⟩
                    · skip
                      refine vc_p rfl rfl (guard_yes rfl rfl (decide_eq_false h17)) (fun _ => (Ev.gd (ev_fieldAddr rfl fo_29_2))) ?_
                      refine vc_q rfl rfl (guard_yes rfl rfl (decide_eq_false h17)) (Ev.gd (ev_load rfl ag_9 (by first | assumption | exact hS10.cell 0 rfl rfl))) ?_
                      refine vc_p rfl rfl (guard_yes rfl rfl (decide_eq_false h17)) (fun _ => (Ev.gd (ev_eqlS rfl rfl))) ?_
                      refine vc_p rfl rfl (guard_yes rfl rfl (decide_eq_true h16)) (fun _ => (Ev.gd (ev_pickF rfl (decide_eq_false h17) rfl))) ?_
                      refine vc_p rfl rfl rfl (fun _ => (ev_pickT rfl (decide_eq_true h16) rfl)) ?_
                      refine vc_p rfl rfl rfl (fun _ => (ev_move rfl)) ?_
                      refine vc_splitD 84 rfl (fun h19 => ?_) (fun h19 => ?_)
                      · skip
                        refine vc_p rfl rfl (guard_yes rfl rfl (decide_eq_true h19)) (fun _ => (Ev.gd (ev_move rfl))) ?_
                        refine vc_p rfl rfl (guard_yes rfl rfl (decide_eq_true h19)) (fun _ => (Ev.gd (ev_eql rfl rfl))) ?_
                        refine vc_p rfl rfl (guard_yes rfl rfl (decide_eq_true h19)) (fun _ => (Ev.gd (ev_move rfl))) ?_
                        refine vc_splitD 87 rfl (fun h20 => ?_) (fun h20 => ?_)
                        · skip
                          refine vc_not rfl rfl (guard_no rfl rfl (decide_eq_true h20)) ?_
                          refine vc_not rfl rfl (guard_no rfl rfl (decide_eq_true h20)) ?_
                          refine vc_not rfl rfl (guard_no rfl rfl (decide_eq_true h20)) ?_
                          refine vc_not rfl rfl (guard_no rfl rfl (decide_eq_true h20)) ?_
                          refine vc_not rfl rfl (guard_no rfl rfl (decide_eq_true h20)) ?_
                          refine vc_not rfl rfl (guard_no rfl rfl (decide_eq_true h20)) ?_
                          refine vc_not rfl rfl (guard_no rfl rfl (decide_eq_true h20)) ?_
                          refine vc_not rfl rfl (guard_no rfl rfl (decide_eq_true h20)) ?_
                          refine vc_not rfl rfl (guard_no rfl rfl (decide_eq_true h20)) ?_
                          refine vc_not rfl rfl (guard_no rfl rfl (decide_eq_true h20)) ?_
                          refine vc_p rfl rfl (guard_yes rfl rfl (decide_eq_true h19)) (fun _ => (Ev.gd (ev_pickT rfl (decide_eq_true h20) rfl))) ?_
                          refine vc_p rfl rfl rfl (fun _ => (ev_pickT rfl (decide_eq_true h19) rfl)) ?_
                          refine vc_p rfl rfl rfl (fun _ => (ev_assign rfl)) ?_
                          refine VC.nil ?_
                          exact qs_mid (.cons rfl (.cons rfl (.cons rfl (.cons rfl (.cons rfl (.cons rfl (.cons rfl (.cons rfl .nil)))))))) ⟨_, rfl, hS10.pick [0, 1, 2] rfl, by unfold okA; first | (simp_all; done) | (simp_all; omega) | omega⟩
                        · skip
                          refine vc_p rfl rfl (guard_yes rfl rfl (decide_eq_false h20)) (fun _ => (Ev.gd (ev_fieldAddr rfl fo_29_0))) ?_
                          refine vc_q rfl rfl (guard_yes rfl rfl (decide_eq_false h20)) (Ev.gd (ev_load rfl ag_3 (by first | assumption | exact hS10.cell 0 rfl rfl))) ?_
                          refine vc_p rfl rfl (guard_yes rfl rfl (decide_eq_false h20)) (fun _ => (Ev.gd (ev_move rfl))) ?_
                          refine vc_p rfl rfl (guard_yes rfl rfl (decide_eq_false h20)) (fun _ => (Ev.gd (ev_move rfl))) ?_
                          refine vc_p rfl rfl (guard_yes rfl rfl (decide_eq_false h20)) (fun _ => (Ev.gd (ev_sub' rfl rfl (by first | omega | (simp; omega)) (by first | omega | (simp; omega))))) ?_
                          refine vc_p rfl rfl (guard_yes rfl rfl (decide_eq_false h20)) (fun _ => (Ev.gd (ev_maxI rfl rfl))) ?_
                          refine vc_p rfl rfl (guard_yes rfl rfl (decide_eq_false h20)) (fun _ => (Ev.gd (ev_indexAddr (i - 1) rfl rfl (by first | rfl | omega) (by omega) es_22))) ?_
                          refine vc_p rfl rfl (guard_yes rfl rfl (decide_eq_false h20)) (fun _ => (Ev.gd (ev_fieldAddr rfl fo_29_0))) ?_
                          refine vc_q rfl rfl (guard_yes rfl rfl (decide_eq_false h20)) (Ev.gd (ev_load rfl ag_3 (rdl_at (C := itC) (j := 0) (hL.sat hS10 2 rfl) hxp rfl))) ?_
                          refine vc_p rfl rfl (guard_yes rfl rfl (decide_eq_false h20)) (fun _ => (Ev.gd (ev_geq rfl rfl))) ?_
                          refine vc_p rfl rfl (guard_yes rfl rfl (decide_eq_true h19)) (fun _ => (Ev.gd (ev_pickF rfl (decide_eq_false h20) rfl))) ?_
                          refine vc_p rfl rfl rfl (fun _ => (ev_pickT rfl (decide_eq_true h19) rfl)) ?_
                          refine vc_p rfl rfl rfl (fun _ => (ev_assign rfl)) ?_
                          refine VC.nil ?_
                          exact qs_mid (.cons rfl (.cons rfl (.cons rfl (.cons rfl (.cons rfl (.cons rfl (.cons rfl (.cons rfl .nil)))))))) ⟨_, rfl, hS10.pick [0, 1, 2] rfl, by unfold okA; first | (simp_all; done) | (simp_all; omega) | omega⟩
                      · skip
                        refine vc_not rfl rfl (guard_no rfl rfl (decide_eq_false h19)) ?_
                        refine vc_not rfl rfl (guard_no rfl rfl (decide_eq_false h19)) ?_
                        refine vc_not rfl rfl (guard_no rfl rfl (decide_eq_false h19)) ?_
                        refine vc_not rfl rfl (guard_undef rfl rfl) ?_
                        refine vc_not rfl rfl (guard_undef rfl rfl) ?_
                        refine vc_not rfl rfl (guard_undef rfl rfl) ?_
                        refine vc_not rfl rfl (guard_undef rfl rfl) ?_
                        refine vc_not rfl rfl (guard_undef rfl rfl) ?_
                        refine vc_not rfl rfl (guard_undef rfl rfl) ?_
                        refine vc_not rfl rfl (guard_undef rfl rfl) ?_
                        refine vc_not rfl rfl (guard_undef rfl rfl) ?_
                        refine vc_not rfl rfl (guard_undef rfl rfl) ?_
                        refine vc_not rfl rfl (guard_undef rfl rfl) ?_
                        refine vc_not rfl rfl (guard_no rfl rfl (decide_eq_false h19)) ?_
                        refine vc_p rfl rfl rfl (fun _ => (ev_pickF rfl (decide_eq_false h19) rfl)) ?_
                        refine vc_p rfl rfl rfl (fun _ => (ev_assign rfl)) ?_
                        refine VC.nil ?_
                        exact qs_mid (.cons rfl (.cons rfl (.cons rfl (.cons rfl (.cons rfl (.cons rfl (.cons rfl (.cons rfl .nil)))))))) ⟨_, rfl, hS10.pick [0, 1, 2] rfl, by unfold okA; first | (simp_all; done) | (simp_all; omega) | omega⟩
                  · skip
                    refine vc_not rfl rfl (guard_no rfl rfl (decide_eq_false h16)) ?_
                    refine vc_not rfl rfl (guard_no rfl rfl (decide_eq_false h16)) ?_
                    refine vc_not rfl rfl (guard_no rfl rfl (decide_eq_false h16)) ?_
                    refine vc_not rfl rfl (guard_no rfl rfl (decide_eq_false h16)) ?_
                    refine vc_not rfl rfl (guard_undef rfl rfl) ?_
                    refine vc_not rfl rfl (guard_undef rfl rfl) ?_
                    refine vc_not rfl rfl (guard_undef rfl rfl) ?_
                    refine vc_not rfl rfl (guard_no rfl rfl (decide_eq_false h16)) ?_
                    refine vc_p rfl rfl rfl (fun _ => (ev_pickF rfl (decide_eq_false h16) rfl)) ?_
                    refine vc_p rfl rfl rfl (fun _ => (ev_move rfl)) ?_
                    refine vc_not rfl rfl (guard_no rfl rfl rfl) ?_
                    refine vc_not rfl rfl (guard_no rfl rfl rfl) ?_
                    refine vc_not rfl rfl (guard_no rfl rfl rfl) ?_
                    refine vc_not rfl rfl (guard_undef rfl rfl) ?_
                    refine vc_not rfl rfl (guard_undef rfl rfl) ?_
                    refine vc_not rfl rfl (guard_undef rfl rfl) ?_
                    refine vc_not rfl rfl (guard_undef rfl rfl) ?_
                    refine vc_not rfl rfl (guard_undef rfl rfl) ?_
                    refine vc_not rfl rfl (guard_undef rfl rfl) ?_
                    refine vc_not rfl rfl (guard_undef rfl rfl) ?_
                    refine vc_not rfl rfl (guard_undef rfl rfl) ?_
                    refine vc_not rfl rfl (guard_undef rfl rfl) ?_
                    refine vc_not rfl rfl (guard_undef rfl rfl) ?_
                    refine vc_not rfl rfl (guard_no rfl rfl rfl) ?_
                    refine vc_p rfl rfl rfl (fun _ => (ev_pickF rfl rfl rfl)) ?_
                    refine vc_p rfl rfl rfl (fun _ => (ev_assign rfl)) ?_
                    refine VC.nil ?_
                    exact qs_mid (.cons rfl (.cons rfl (.cons rfl (.cons rfl (.cons rfl (.cons rfl (.cons rfl (.cons rfl .nil)))))))) ⟨_, rfl, hS10.pick [0, 1, 2] rfl, by unfold okA; first | (simp_all; done) | (simp_all; omega) | omega⟩
                · skip
                  refine vc_not rfl rfl (guard_no rfl rfl (decide_eq_false h15)) ?_
                  refine vc_not rfl rfl (guard_no rfl rfl (decide_eq_false h15)) ?_
                  refine vc_not rfl rfl (guard_no rfl rfl (decide_eq_false h15)) ?_
                  refine vc_not rfl rfl (guard_no rfl rfl (decide_eq_false h15)) ?_
                  refine vc_p rfl rfl rfl (fun _ => (ev_pickF rfl (decide_eq_false h15) rfl)) ?_
                  refine vc_p rfl rfl rfl (fun _ => (ev_move rfl)) ?_
                  refine vc_not rfl rfl (guard_no rfl rfl rfl) ?_
                  refine vc_not rfl rfl (guard_no rfl rfl rfl) ?_
                  refine vc_not rfl rfl (guard_no rfl rfl rfl) ?_
                  refine vc_not rfl rfl (guard_no rfl rfl rfl) ?_
                  refine vc_not rfl rfl (guard_undef rfl rfl) ?_
                  refine vc_not rfl rfl (guard_undef rfl rfl) ?_
                  refine vc_not rfl rfl (guard_undef rfl rfl) ?_
                  refine vc_not rfl rfl (guard_no rfl rfl rfl) ?_
                  refine vc_p rfl rfl rfl (fun _ => (ev_pickF rfl rfl rfl)) ?_
                  refine vc_p rfl rfl rfl (fun _ => (ev_move rfl)) ?_
                  refine vc_not rfl rfl (guard_no rfl rfl rfl) ?_
                  refine vc_not rfl rfl (guard_no rfl rfl rfl) ?_
                  refine vc_not rfl rfl (guard_no rfl rfl rfl) ?_
                  refine vc_not rfl rfl (guard_undef rfl rfl) ?_
                  refine vc_not rfl rfl (guard_undef rfl rfl) ?_
                  refine vc_not rfl rfl (guard_undef rfl rfl) ?_
                  refine vc_not rfl rfl (guard_undef rfl rfl) ?_
                  refine vc_not rfl rfl (guard_undef rfl rfl) ?_
                  refine vc_not rfl rfl (guard_undef rfl rfl) ?_
                  refine vc_not rfl rfl (guard_undef rfl rfl) ?_
                  refine vc_not rfl rfl (guard_undef rfl rfl) ?_
                  refine vc_not rfl rfl (guard_undef rfl rfl) ?_
                  refine vc_not rfl rfl (guard_undef rfl rfl) ?_
                  refine vc_not rfl rfl (guard_no rfl rfl rfl) ?_
                  refine vc_p rfl rfl rfl (fun _ => (ev_pickF rfl rfl rfl)) ?_
                  refine vc_p rfl rfl rfl (fun _ => (ev_assign rfl)) ?_
                  refine VC.nil ?_
                  exact qs_mid (.cons rfl (.cons rfl (.cons rfl (.cons rfl (.cons rfl (.cons rfl (.cons rfl (.cons rfl .nil)))))))) ⟨_, rfl, hS10.pick [0, 1, 2] rfl, by unfold okA; first | (simp_all; done) | (simp_all; omega) | omega⟩
              · skip
                refine vc_not rfl rfl (guard_no rfl rfl (decide_eq_false h14)) ?_
                refine vc_not rfl rfl (guard_no rfl rfl (decide_eq_false h14)) ?_
                refine vc_not rfl rfl (guard_no rfl rfl (decide_eq_false h14)) ?_
                refine vc_p rfl rfl rfl (fun _ => (ev_pickF rfl (decide_eq_false h14) rfl)) ?_
                refine vc_p rfl rfl rfl (fun _ => (ev_move rfl)) ?_
                refine vc_not rfl rfl (guard_no rfl rfl rfl) ?_
                refine vc_not rfl rfl (guard_no rfl rfl rfl) ?_
                refine vc_not rfl rfl (guard_no rfl rfl rfl) ?_
                refine vc_not rfl rfl (guard_no rfl rfl rfl) ?_
                refine vc_p rfl rfl rfl (fun _ => (ev_pickF rfl rfl rfl)) ?_
                refine vc_p rfl rfl rfl (fun _ => (ev_move rfl)) ?_
                refine vc_not rfl rfl (guard_no rfl rfl rfl) ?_
                refine vc_not rfl rfl (guard_no rfl rfl rfl) ?_
                refine vc_not rfl rfl (guard_no rfl rfl rfl) ?_
                refine vc_not rfl rfl (guard_no rfl rfl rfl) ?_
                refine vc_not rfl rfl (guard_undef rfl rfl) ?_
                refine vc_not rfl rfl (guard_undef rfl rfl) ?_
                refine vc_not rfl rfl (guard_undef rfl rfl) ?_
                refine vc_not rfl rfl (guard_no rfl rfl rfl) ?_
                refine vc_p rfl rfl rfl (fun _ => (ev_pickF rfl rfl rfl)) ?_
                refine vc_p rfl rfl rfl (fun _ => (ev_move rfl)) ?_
                refine vc_not rfl rfl (guard_no rfl rfl rfl) ?_
                refine vc_not rfl rfl (guard_no rfl rfl rfl) ?_
                refine vc_not rfl rfl (guard_no rfl rfl rfl) ?_
                refine vc_not rfl rfl (guard_undef rfl rfl) ?_
                refine vc_not rfl rfl (guard_undef rfl rfl) ?_
                refine vc_not rfl rfl (guard_undef rfl rfl) ?_
                refine vc_not rfl rfl (guard_undef rfl rfl) ?_
                refine vc_not rfl rfl (guard_undef rfl rfl) ?_
                refine vc_not rfl rfl (guard_undef rfl rfl) ?_
                refine vc_not rfl rfl (guard_undef rfl rfl) ?_
                refine vc_not rfl rfl (guard_undef rfl rfl) ?_
                refine vc_not rfl rfl (guard_undef rfl rfl) ?_
                refine vc_not rfl rfl (guard_undef rfl rfl) ?_
                refine vc_not rfl rfl (guard_no rfl rfl rfl) ?_
                refine vc_p rfl rfl rfl (fun _ => (ev_pickF rfl rfl rfl)) ?_
                refine vc_p rfl rfl rfl (fun _ => (ev_assign rfl)) ?_
                refine VC.nil ?_
                exact qs_mid (.cons rfl (.cons rfl (.cons rfl (.cons rfl (.cons rfl (.cons rfl (.cons rfl (.cons rfl .nil)))))))) ⟨_, rfl, hS10.pick [0, 1, 2] rfl, by unfold okA; first | (simp_all; done) | (simp_all; omega) | omega⟩
            · skip
              refine vc_not rfl rfl (guard_no rfl rfl (decide_eq_false h13)) ?_
              refine vc_not rfl rfl (guard_no rfl rfl (decide_eq_false h13)) ?_
              refine vc_not rfl rfl (guard_no rfl rfl (decide_eq_false h13)) ?_
              refine vc_p rfl rfl rfl (fun _ => (ev_pickF rfl (decide_eq_false h13) rfl)) ?_
              refine vc_p rfl rfl rfl (fun _ => (ev_move rfl)) ?_
              refine vc_not rfl rfl (guard_no rfl rfl rfl) ?_
              refine vc_not rfl rfl (guard_no rfl rfl rfl) ?_
              refine vc_not rfl rfl (guard_no rfl rfl rfl) ?_
              refine vc_p rfl rfl rfl (fun _ => (ev_pickF rfl rfl rfl)) ?_
              refine vc_p rfl rfl rfl (fun _ => (ev_move rfl)) ?_
              refine vc_not rfl rfl (guard_no rfl rfl rfl) ?_
              refine vc_not rfl rfl (guard_no rfl rfl rfl) ?_
              refine vc_not rfl rfl (guard_no rfl rfl rfl) ?_
              refine vc_not rfl rfl (guard_no rfl rfl rfl) ?_
              refine vc_p rfl rfl rfl (fun _ => (ev_pickF rfl rfl rfl)) ?_
              refine vc_p rfl rfl rfl (fun _ => (ev_move rfl)) ?_
              refine vc_not rfl rfl (guard_no rfl rfl rfl) ?_
              refine vc_not rfl rfl (guard_no rfl rfl rfl) ?_
              refine vc_not rfl rfl (guard_no rfl rfl rfl) ?_
              refine vc_not rfl rfl (guard_no rfl rfl rfl) ?_
              refine vc_not rfl rfl (guard_undef rfl rfl) ?_
              refine vc_not rfl rfl (guard_undef rfl rfl) ?_
              refine vc_not rfl rfl (guard_undef rfl rfl) ?_
              refine vc_not rfl rfl (guard_no rfl rfl rfl) ?_
              refine vc_p rfl rfl rfl (fun _ => (ev_pickF rfl rfl rfl)) ?_
              refine vc_p rfl rfl rfl (fun _ => (ev_move rfl)) ?_
              refine vc_not rfl rfl (guard_no rfl rfl rfl) ?_
              refine vc_not rfl rfl (guard_no rfl rfl rfl) ?_
              refine vc_not rfl rfl (guard_no rfl rfl rfl) ?_
              refine vc_not rfl rfl (guard_undef rfl rfl) ?_
              refine vc_not rfl rfl (guard_undef rfl rfl) ?_
              refine vc_not rfl rfl (guard_undef rfl rfl) ?_
              refine vc_not rfl rfl (guard_undef rfl rfl) ?_
              refine vc_not rfl rfl (guard_undef rfl rfl) ?_
              refine vc_not rfl rfl (guard_undef rfl rfl) ?_
              refine vc_not rfl rfl (guard_undef rfl rfl) ?_
              refine vc_not rfl rfl (guard_undef rfl rfl) ?_
              refine vc_not rfl rfl (guard_undef rfl rfl) ?_
              refine vc_not rfl rfl (guard_undef rfl rfl) ?_
              refine vc_not rfl rfl (guard_no rfl rfl rfl) ?_
              refine vc_p rfl rfl rfl (fun _ => (ev_pickF rfl rfl rfl)) ?_
              refine vc_p rfl rfl rfl (fun _ => (ev_assign rfl)) ?_
              refine VC.nil ?_
              exact qs_mid (.cons rfl (.cons rfl (.cons rfl (.cons rfl (.cons rfl (.cons rfl (.cons rfl (.cons rfl .nil)))))))) ⟨_, rfl, hS10.pick [0, 1, 2] rfl, by unfold okA; first | (simp_all; done) | (simp_all; omega) | omega⟩
          · skip
            refine vc_not rfl rfl (guard_no rfl rfl (decide_eq_false h12)) ?_
            refine vc_not rfl rfl (guard_no rfl rfl (decide_eq_false h12)) ?_
            refine vc_not rfl rfl (guard_no rfl rfl (decide_eq_false h12)) ?_
            refine vc_p rfl rfl rfl (fun _ => (ev_pickF rfl (decide_eq_false h12) rfl)) ?_
            refine vc_p rfl rfl rfl (fun _ => (ev_move rfl)) ?_
            refine vc_not rfl rfl (guard_no rfl rfl rfl) ?_
            refine vc_not rfl rfl (guard_no rfl rfl rfl) ?_
            refine vc_not rfl rfl (guard_no rfl rfl rfl) ?_
            refine vc_p rfl rfl rfl (fun _ => (ev_pickF rfl rfl rfl)) ?_
            refine vc_p rfl rfl rfl (fun _ => (ev_move rfl)) ?_
            refine vc_not rfl rfl (guard_no rfl rfl rfl) ?_
            refine vc_not rfl rfl (guard_no rfl rfl rfl) ?_
            refine vc_not rfl rfl (guard_no rfl rfl rfl) ?_
            refine vc_p rfl rfl rfl (fun _ => (ev_pickF rfl rfl rfl)) ?_
            refine vc_p rfl rfl rfl (fun _ => (ev_move rfl)) ?_
            refine vc_not rfl rfl (guard_no rfl rfl rfl) ?_
            refine vc_not rfl rfl (guard_no rfl rfl rfl) ?_
            refine vc_not rfl rfl (guard_no rfl rfl rfl) ?_
            refine vc_not rfl rfl (guard_no rfl rfl rfl) ?_
            refine vc_p rfl rfl rfl (fun _ => (ev_pickF rfl rfl rfl)) ?_
            refine vc_p rfl rfl rfl (fun _ => (ev_move rfl)) ?_
            refine vc_not rfl rfl (guard_no rfl rfl rfl) ?_
            refine vc_not rfl rfl (guard_no rfl rfl rfl) ?_
            refine vc_not rfl rfl (guard_no rfl rfl rfl) ?_
            refine vc_not rfl rfl (guard_no rfl rfl rfl) ?_
            refine vc_not rfl rfl (guard_undef rfl rfl) ?_
            refine vc_not rfl rfl (guard_undef rfl rfl) ?_
            refine vc_not rfl rfl (guard_undef rfl rfl) ?_
            refine vc_not rfl rfl (guard_no rfl rfl rfl) ?_
            refine vc_p rfl rfl rfl (fun _ => (ev_pickF rfl rfl rfl)) ?_
            refine vc_p rfl rfl rfl (fun _ => (ev_move rfl)) ?_
            refine vc_not rfl rfl (guard_no rfl rfl rfl) ?_
            refine vc_not rfl rfl (guard_no rfl rfl rfl) ?_
            refine vc_not rfl rfl (guard_no rfl rfl rfl) ?_
            refine vc_not rfl rfl (guard_undef rfl rfl) ?_
            refine vc_not rfl rfl (guard_undef rfl rfl) ?_
            refine vc_not rfl rfl (guard_undef rfl rfl) ?_
            refine vc_not rfl rfl (guard_undef rfl rfl) ?_
            refine vc_not rfl rfl (guard_undef rfl rfl) ?_
            refine vc_not rfl rfl (guard_undef rfl rfl) ?_
            refine vc_not rfl rfl (guard_undef rfl rfl) ?_
            refine vc_not rfl rfl (guard_undef rfl rfl) ?_
            refine vc_not rfl rfl (guard_undef rfl rfl) ?_
            refine vc_not rfl rfl (guard_undef rfl rfl) ?_
            refine vc_not rfl rfl (guard_no rfl rfl rfl) ?_
            refine vc_p rfl rfl rfl (fun _ => (ev_pickF rfl rfl rfl)) ?_
            refine vc_p rfl rfl rfl (fun _ => (ev_assign rfl)) ?_
            refine VC.nil ?_
            exact qs_mid (.cons rfl (.cons rfl (.cons rfl (.cons rfl (.cons rfl (.cons rfl (.cons rfl (.cons rfl .nil)))))))) ⟨_, rfl, hS10.pick [0, 1, 2] rfl, by unfold okA; first | (simp_all; done) | (simp_all; omega) | omega⟩
        · skip
          refine vc_not rfl rfl (guard_no rfl rfl h11) ?_
          refine vc_not rfl rfl (guard_no rfl rfl h11) ?_
          refine vc_not rfl rfl (guard_no rfl rfl h11) ?_
          refine vc_p rfl rfl rfl (fun _ => (ev_pickF rfl h11 rfl)) ?_
          refine vc_p rfl rfl rfl (fun _ => (ev_move rfl)) ?_
          refine vc_not rfl rfl (guard_no rfl rfl rfl) ?_
          refine vc_not rfl rfl (guard_no rfl rfl rfl) ?_
          refine vc_not rfl rfl (guard_no rfl rfl rfl) ?_
          refine vc_p rfl rfl rfl (fun _ => (ev_pickF rfl rfl rfl)) ?_
          refine vc_p rfl rfl rfl (fun _ => (ev_move rfl)) ?_
          refine vc_not rfl rfl (guard_no rfl rfl rfl) ?_
          refine vc_not rfl rfl (guard_no rfl rfl rfl) ?_
          refine vc_not rfl rfl (guard_no rfl rfl rfl) ?_
          refine vc_p rfl rfl rfl (fun _ => (ev_pickF rfl rfl rfl)) ?_
          refine vc_p rfl rfl rfl (fun _ => (ev_move rfl)) ?_
          refine vc_not rfl rfl (guard_no rfl rfl rfl) ?_
          refine vc_not rfl rfl (guard_no rfl rfl rfl) ?_
          refine vc_not rfl rfl (guard_no rfl rfl rfl) ?_
          refine vc_p rfl rfl rfl (fun _ => (ev_pickF rfl rfl rfl)) ?_
          refine vc_p rfl rfl rfl (fun _ => (ev_move rfl)) ?_
          refine vc_not rfl rfl (guard_no rfl rfl rfl) ?_
          refine vc_not rfl rfl (guard_no rfl rfl rfl) ?_
          refine vc_not rfl rfl (guard_no rfl rfl rfl) ?_
          refine vc_not rfl rfl (guard_no rfl rfl rfl) ?_
          refine vc_p rfl rfl rfl (fun _ => (ev_pickF rfl rfl rfl)) ?_
          refine vc_p rfl rfl rfl (fun _ => (ev_move rfl)) ?_
          refine vc_not rfl rfl (guard_no rfl rfl rfl) ?_
          refine vc_not rfl rfl (guard_no rfl rfl rfl) ?_
          refine vc_not rfl rfl (guard_no rfl rfl rfl) ?_
          refine vc_not rfl rfl (guard_no rfl rfl rfl) ?_
          refine vc_not rfl rfl (guard_undef rfl rfl) ?_
          refine vc_not rfl rfl (guard_undef rfl rfl) ?_
          refine vc_not rfl rfl (guard_undef rfl rfl) ?_
          refine vc_not rfl rfl (guard_no rfl rfl rfl) ?_
          refine vc_p rfl rfl rfl (fun _ => (ev_pickF rfl rfl rfl)) ?_
          refine vc_p rfl rfl rfl (fun _ => (ev_move rfl)) ?_
          refine vc_not rfl rfl (guard_no rfl rfl rfl) ?_
          refine vc_not rfl rfl (guard_no rfl rfl rfl) ?_
          refine vc_not rfl rfl (guard_no rfl rfl rfl) ?_
          refine vc_not rfl rfl (guard_undef rfl rfl) ?_
          refine vc_not rfl rfl (guard_undef rfl rfl) ?_
          refine vc_not rfl rfl (guard_undef rfl rfl) ?_
          refine vc_not rfl rfl (guard_undef rfl rfl) ?_
          refine vc_not rfl rfl (guard_undef rfl rfl) ?_
          refine vc_not rfl rfl (guard_undef rfl rfl) ?_
          refine vc_not rfl rfl (guard_undef rfl rfl) ?_
          refine vc_not rfl rfl (guard_undef rfl rfl) ?_
          refine vc_not rfl rfl (guard_undef rfl rfl) ?_
          refine vc_not rfl rfl (guard_undef rfl rfl) ?_
          refine vc_not rfl rfl (guard_no rfl rfl rfl) ?_
          refine vc_p rfl rfl rfl (fun _ => (ev_pickF rfl rfl rfl)) ?_
          refine vc_p rfl rfl rfl (fun _ => (ev_assign rfl)) ?_
          refine VC.nil ?_
          exact qs_mid (.cons rfl (.cons rfl (.cons rfl (.cons rfl (.cons rfl (.cons rfl (.cons rfl (.cons rfl .nil)))))))) ⟨_, rfl, hS10.pick [0, 1, 2] rfl, by unfold okA; first | (simp_all; done) | (simp_all; omega) | omega⟩
      rintro _ w9 ⟨r2, rfl, hS9, hr2⟩
      refine wc_seq ?_
      refine wc_region ?_
      refine wl_assign rfl rfl ?_
      refine wl_nil ?_
      refine qs_seq ?_
      refine wc_block ?_
      refine wc_loop (fun K0 E0 W0 => ∃ (k : Nat) (r3 : Bool), K0 = x.t.length - k ∧ E0 = [(0, .slice (some ⟨b, off, none⟩) l.length cap), (1, intV now), (5, .bool true), (6, ptrV p 0), (7, intV (fillE l)), (9, intV (i : Int)), (10, ptrV bx 0), (8, .bool r3), (11, intV (k : Int))] ∧ Sat W0 [blkT bx (itV x), worldT p (fillW emptyW l), F] ∧ (k ≤ x.t.length) ∧ (r3 = true ↔ r2 = true ∧ ∀ j, j < k → x.t[j]? ≠ some 10)) (L0 := [(0, _), (1, _), (5, _), (6, _), (7, _), (9, _), (10, _), (8, _), (11, _)]) (x.t.length - 0) (.cons rfl (.cons rfl (.cons rfl (.cons rfl (.cons rfl (.cons rfl (.cons rfl (.cons rfl (.cons rfl .nil))))))))) ⟨0, r2, rfl, rfl, hS9, by omega, ⟨fun q => ⟨q, fun j hj => absurd hj (by omega)⟩, fun q => q.1⟩⟩ ?_
      rintro _ _ w21 ⟨k, r3, rfl, rfl, hS21, hk, hr3⟩
      refine wc_seq ?_
      refine wc_seq ?_
      refine wc_region ?_
      refine wl_move rfl rfl ?_
      refine wl_fieldAddr rfl fo_29_2 rfl ?_
      refine wl_load rfl ag_9 (by first | assumption | exact hS21.cell 0 rfl rfl) rfl ?_
      refine wl_lenS Tryd.underlying9 rfl rfl ?_
      refine wl_lss rfl rfl rfl ?_
      refine wl_move rfl rfl ?_
      refine wl_splitD 105 rfl (fun h22 => ?_) (fun h22 => ?_)
      · skip
        refine wl_guard rfl rfl (decide_eq_true h22) ?_
        refine wl_move rfl rfl ?_
        refine wl_pickT rfl (decide_eq_true h22) rfl rfl ?_
        refine wl_nil ?_
        refine qs_seq ?_
        refine wc_sub (L' := [(107, _), (0, _), (1, _), (5, _), (6, _), (7, _), (9, _), (10, _), (8, _), (11, _)]) (.cons rfl (.cons rfl (.cons rfl (.cons rfl (.cons rfl (.cons rfl (.cons rfl (.cons rfl (.cons rfl (.cons rfl .nil)))))))))) ?_
        refine wc_cond rfl (fun h23 => ?_) (fun h23 => ?_)
        · skip
          have hxl : x.t.length ≤ 200 := okA_len (hr2.1 (hr3.1 (by assumption)).1).2
          obtain ⟨ck, hck⟩ : ∃ ck, x.t[k]? = some ck := ⟨_, List.getElem?_eq_getElem (by omega)⟩
          refine wc_skip ?_
          refine qs_seq ?_
          refine wc_seq ?_
          refine wc_block ?_
          refine wc_region ?_
          refine wl_fieldAddr rfl fo_29_2 rfl ?_
          refine wl_load rfl ag_9 (by first | assumption | exact hS21.cell 0 rfl rfl) rfl ?_
          refine wl_move rfl rfl ?_
          refine wl_indexS _ Tryd.underlying9 rfl rfl (by first | rfl | omega) (by first | assumption | rfl) rfl ?_
          refine wl_neq rfl rfl rfl ?_
          refine wl_assign rfl rfl ?_
          refine wl_nil ?_
          refine qs_block_normal ?_
          refine qs_seq ?_
          refine wc_sub (L' := [(8, _), (0, _), (1, _), (5, _), (6, _), (7, _), (9, _), (10, _), (11, _)]) (.cons rfl (.cons rfl (.cons rfl (.cons rfl (.cons rfl (.cons rfl (.cons rfl (.cons rfl (.cons rfl .nil))))))))) ?_
          refine wc_region ?_
          refine wl_move rfl rfl ?_
          refine wl_add rfl rfl (by first | omega | (simp; omega)) (by first | omega | (simp; omega)) rfl ?_
          refine wl_assign rfl rfl ?_
          refine wl_nil ?_
          exact qs_round (L1 := [(0, _), (1, _), (5, _), (6, _), (7, _), (9, _), (10, _), (8, _), (11, intV ((k + 1 : Nat) : Int))]) (.cons rfl (.cons rfl (.cons rfl (.cons rfl (.cons rfl (.cons rfl (.cons rfl (.cons rfl (.cons rfl .nil))))))))) (k1 := x.t.length - (k + 1)) (by omega) ⟨k + 1, _, rfl, rfl, hS21.pick [0, 1, 2] rfl, by omega, lf_step hck (hr3.1 (by assumption))⟩
        · skip
          refine wc_exit ?_
          refine qs_then_exit ?_
          refine qs_then_exit ?_
          refine qs_block_exit ?_
          refine qs_block_normal ?_
          refine qs_seq ?_
          refine wc_region ?_
          refine wl_move rfl rfl ?_
          refine wl_add rfl rfl (by first | omega | (simp; omega)) (by first | omega | (simp; omega)) rfl ?_
          refine wl_assign rfl rfl ?_
          refine wl_nil ?_
          have hr9 := right_step hx hr2 hr3 (by first | (left; omega) | (right; assumption))
          exact qs_round (L1 := [(0, _), (1, _), (5, _), (6, _), (7, _), (8, _), (9, intV ((i + 1 : Nat) : Int))]) (.cons rfl (.cons rfl (.cons rfl (.cons rfl (.cons rfl (.cons rfl (.cons rfl .nil))))))) (k1 := l.length - (i + 1)) (by omega) ⟨i + 1, rfl, by rw [← hr9], hS21.pick [1, 2] rfl, by omega⟩
      · skip
        refine wl_unwanted rfl rfl (decide_eq_false h22) rfl ?_
        refine wl_pickF rfl (decide_eq_false h22) rfl rfl ?_
        refine wl_nil ?_
        refine qs_seq ?_
        refine wc_sub (L' := [(107, _), (0, _), (1, _), (5, _), (6, _), (7, _), (9, _), (10, _), (8, _), (11, _)]) (.cons rfl (.cons rfl (.cons rfl (.cons rfl (.cons rfl (.cons rfl (.cons rfl (.cons rfl (.cons rfl (.cons rfl .nil)))))))))) ?_
        refine wc_condF rfl ?_
        refine wc_exit ?_
        refine qs_then_exit ?_
        refine qs_then_exit ?_
        refine qs_block_exit ?_
        refine qs_block_normal ?_
        refine qs_seq ?_
        refine wc_region ?_
        refine wl_move rfl rfl ?_
        refine wl_add rfl rfl (by first | omega | (simp; omega)) (by first | omega | (simp; omega)) rfl ?_
        refine wl_assign rfl rfl ?_
        refine wl_nil ?_
        have hr9 := right_step hx hr2 hr3 (by first | (left; omega) | (right; assumption))
        exact qs_round (L1 := [(0, _), (1, _), (5, _), (6, _), (7, _), (8, _), (9, intV ((i + 1 : Nat) : Int))]) (.cons rfl (.cons rfl (.cons rfl (.cons rfl (.cons rfl (.cons rfl (.cons rfl .nil))))))) (k1 := l.length - (i + 1)) (by omega) ⟨i + 1, rfl, by rw [← hr9], hS21.pick [1, 2] rfl, by omega⟩
    · skip
      refine wc_exit ?_
      refine qs_then_exit ?_
      refine qs_then_exit ?_
      refine qs_block_exit ?_
      refine qs_seq ?_
      refine wc_seq ?_
      obtain rfl : i = l.length := by omega
      rw [rightP_end]
      refine wc_region ?_
      refine wl_move rfl rfl ?_
      refine wl_makeIface nif_24 rfl rfl ?_
      refine wl_move rfl rfl ?_
      have hC24 := hS5.split [0] [true, false] rfl; dsimp only [selF, pickA, nthA, List.cons_append, List.nil_append] at hC24
      refine wl_call cal_10 rfl (nextAt_sp hC24 (hG.starL 0 rfl) (TB.empty.fill l) now) rfl ?_
      rintro e w24 ⟨_, rfl, rfl, hS24⟩; refine ⟨_, rfl, ?_⟩
      replace hS24 := hS24.join rfl; dsimp only [List.dropLast, List.cons_append, List.nil_append] at hS24; clear hC24
      clear hS5
      refine wl_move rfl rfl ?_
      refine wl_extract rfl rfl rfl ?_
      refine wl_extract rfl rfl rfl ?_
      refine wl_assign rfl rfl ?_
      refine wl_assign rfl rfl ?_
      refine wl_nil ?_
      refine qs_seq ?_
      refine wc_sub (L' := [(13, _), (12, _), (0, _), (1, _), (5, _), (6, _), (7, _), (8, _)]) (.cons rfl (.cons rfl (.cons rfl (.cons rfl (.cons rfl (.cons rfl (.cons rfl (.cons rfl .nil)))))))) ?_
      refine wc_seq ?_
      refine wc_seq ?_
      refine wc_region ?_
      refine wl_move rfl rfl ?_
      refine wl_not rfl rfl ?_
      refine wl_nil ?_
      refine qs_seq ?_
      refine wc_cond rfl (fun h25 => ?_) (fun h25 => ?_)
      · skip
        have hb : rightB l = false := by simpa using h25
        have hI := items_bad hb
        have hE := fillE_bad hb
        rw [hE, hI]
        refine wc_seq ?_
        refine wc_region ?_
        refine wl_move rfl rfl ?_
        refine wl_move rfl rfl ?_
        refine wl_guard rfl rfl rfl ?_
        refine wl_move rfl rfl ?_
        refine wl_guard rfl rfl rfl ?_
        refine wl_eql rfl rfl rfl ?_
        refine wl_pickT rfl rfl rfl rfl ?_
        refine wl_move rfl rfl ?_
        refine wl_splitD 129 rfl (fun h26 => ?_) (fun h26 => ?_)
        · skip
          refine wl_guard rfl rfl (decide_eq_true h26) ?_
          refine wl_move rfl rfl ?_
          refine wl_guard rfl rfl (decide_eq_true h26) ?_
          refine wl_makeIface nif_24 rfl rfl ?_
          refine wl_guard rfl rfl (decide_eq_true h26) ?_
          have hC27 := hS24.split [0] [true, false] rfl; dsimp only [selF, pickA, nthA, List.cons_append, List.nil_append] at hC27
          refine wl_call cal_11 rfl (items_sp hC27 (hG.starL 0 rfl) (TB.empty.fill l kIn)) rfl ?_
          rintro e w27 ⟨_, rfl, hS27⟩; refine ⟨_, rfl, ?_⟩
          replace hS27 := hS27.join rfl; dsimp only [List.dropLast, List.cons_append, List.nil_append] at hS27; clear hC27
          clear hS24
          refine wl_guard rfl rfl (decide_eq_true h26) ?_
          first | refine wl_lenL Tryd.underlying22 rfl rfl ?_ | refine wl_lenO 0 hS27 Tryd.underlying22 rfl rfl rfl ?_
          refine wl_guard rfl rfl (decide_eq_true h26) ?_
          refine wl_eql rfl rfl rfl ?_
          refine wl_pickT rfl (decide_eq_true h26) rfl rfl ?_
          refine wl_move rfl rfl ?_
          refine wl_splitD 136 rfl (fun h28 => ?_) (fun h28 => ?_)
          · skip
            refine wl_guard rfl rfl (decide_eq_true h28) ?_
            refine wl_move rfl rfl ?_
            refine wl_guard rfl rfl (decide_eq_true h28) ?_
            refine wl_not rfl rfl ?_
            refine wl_pickT rfl (decide_eq_true h28) rfl rfl ?_
            refine wl_assign rfl rfl ?_
            refine wl_nil ?_
            refine qs_seq ?_
            refine wc_sub (L' := [(4, _), (13, _), (12, _), (0, _), (1, _), (5, _), (6, _), (7, _)]) (.cons rfl (.cons rfl (.cons rfl (.cons rfl (.cons rfl (.cons rfl (.cons rfl (.cons rfl .nil)))))))) ?_
            refine wc_ret ?_
            refine qs_then_ret ?_
            refine fin1 (.inr rfl) rfl rfl ?_
            exact ⟨_, rfl, by simp [nextAtF], hS27.pick [2] rfl⟩
          · skip
            simp [hI] at h28
        · skip
          exact absurd rfl h26
      · skip
        have hb : rightB l = true := by simpa using h25
        have hI : itemsW (fillW emptyW l) = l := (TI.fill hb).items
        have hE := fillE_ok hb
        rw [hE, hI]
        obtain ⟨hn1, hn2⟩ := nextAt_least hb now
        refine wc_skip ?_
        refine qs_seq ?_
        refine wc_seq ?_
        refine wc_region ?_
        refine wl_assign rfl rfl ?_
        refine wl_nil ?_
        refine qs_seq ?_
        refine wc_sub (L' := [(14, _), (13, _), (12, _), (0, _), (1, _), (5, _), (6, _), (7, _)]) (.cons rfl (.cons rfl (.cons rfl (.cons rfl (.cons rfl (.cons rfl (.cons rfl (.cons rfl .nil)))))))) ?_
        refine wc_seq ?_
        refine wc_seq ?_
        refine wc_region ?_
        refine wl_assign rfl rfl ?_
        refine wl_nil ?_
        refine qs_seq ?_
        refine wc_block ?_
        refine wc_loop (fun K0 E0 W0 => ∃ (i : Nat) (f : Bool), K0 = l.length - i ∧ E0 = [(0, .slice ao l.length cap), (1, intV now), (5, .bool true), (6, ptrV p 0), (7, intV 0), (12, intV ((nextAtF l now).getD 0)), (13, .bool (nextAtF l now).isSome), (14, .bool f), (15, intV (i : Int))] ∧ Sat W0 [worldT p (fillW emptyW l), F] ∧ (i ≤ l.length) ∧ (f = true ↔ FN l ((nextAtF l now).getD 0) now i)) (L0 := [(0, _), (1, _), (5, _), (6, _), (7, _), (12, _), (13, _), (14, _), (15, _)]) (l.length - 0) (.cons rfl (.cons rfl (.cons rfl (.cons rfl (.cons rfl (.cons rfl (.cons rfl (.cons rfl (.cons rfl .nil))))))))) ⟨0, false, rfl, rfl, hS24, by omega, ⟨fun q => (by cases q), fun ⟨j, x, h, _⟩ => absurd h (by omega)⟩⟩ ?_
        rintro _ _ w29 ⟨i, f, rfl, rfl, hS29, hi, hf⟩
        refine wc_seq ?_
        refine wc_seq ?_
        refine wc_region ?_
        refine wl_move rfl rfl ?_
        refine wl_move rfl rfl ?_
        refine wl_lenL Tryd.underlying22 rfl rfl ?_
        refine wl_lss rfl rfl rfl ?_
        refine wl_nil ?_
        refine qs_seq ?_
        refine wc_sub (L' := [(143, _), (0, _), (1, _), (5, _), (6, _), (7, _), (12, _), (13, _), (14, _), (15, _)]) (.cons rfl (.cons rfl (.cons rfl (.cons rfl (.cons rfl (.cons rfl (.cons rfl (.cons rfl (.cons rfl (.cons rfl .nil)))))))))) ?_
        refine wc_condD rfl (fun h30 => ?_) (fun h30 => ?_)
        · skip
          obtain ⟨x, hx⟩ : ∃ x, l[i]? = some x := ⟨_, List.getElem?_eq_getElem (by omega)⟩
          obtain ⟨b, off, rfl, hc⟩ := (hL.sat hS29 1 rfl).get hx
          refine wc_skip ?_
          refine qs_seq ?_
          refine wc_seq ?_
          refine wc_block ?_
          refine wc_seq ?_
          refine wc_seq ?_
          refine wc_region ?_
          refine wl_move rfl rfl ?_
          refine wl_move rfl rfl ?_
          refine wl_indexAddr i rfl rfl (by first | rfl | omega) (by omega) es_22 rfl ?_
          refine wl_fieldAddr rfl fo_29_0 rfl ?_
          refine wl_load rfl ag_3 (hc 0 _ rfl) rfl ?_
          refine wl_move rfl rfl ?_
          refine wl_gtr rfl rfl rfl ?_
          refine wl_move rfl rfl ?_
          refine wl_splitD 153 rfl (fun h31 => ?_) (fun h31 => ?_)
          · skip
            refine wl_guard rfl rfl (decide_eq_true h31) ?_
            refine wl_move rfl rfl ?_
            refine wl_guard rfl rfl (decide_eq_true h31) ?_
            refine wl_not rfl rfl ?_
            refine wl_guard rfl rfl (decide_eq_true h31) ?_
            refine wl_move rfl rfl ?_
            refine wl_split 156 rfl (fun h32 => ?_) (fun h32 => ?_)
            · skip
              exact absurd (by omega) (hn2 (by simpa using h32) x (List.mem_of_getElem? hx))
            · skip
              refine wl_guard rfl rfl h32 ?_
              refine wl_move rfl rfl ?_
              refine wl_guard rfl rfl h32 ?_
              refine wl_move rfl rfl ?_
              refine wl_guard rfl rfl h32 ?_
              refine wl_indexAddr i rfl rfl (by first | rfl | omega) (by omega) es_22 rfl ?_
              refine wl_guard rfl rfl h32 ?_
              refine wl_fieldAddr rfl fo_29_0 rfl ?_
              refine wl_guard rfl rfl h32 ?_
              refine wl_load rfl ag_3 (hc 0 _ rfl) rfl ?_
              refine wl_guard rfl rfl h32 ?_
              refine wl_move rfl rfl ?_
              refine wl_guard rfl rfl h32 ?_
              refine wl_lss rfl rfl rfl ?_
              refine wl_guard rfl rfl (decide_eq_true h31) ?_
              refine wl_pickF rfl h32 rfl rfl ?_
              refine wl_pickT rfl (decide_eq_true h31) rfl rfl ?_
              refine wl_nil ?_
              refine qs_seq ?_
              refine wc_sub (L' := [(165, _), (0, _), (1, _), (5, _), (6, _), (7, _), (12, _), (13, _), (14, _), (15, _)]) (.cons rfl (.cons rfl (.cons rfl (.cons rfl (.cons rfl (.cons rfl (.cons rfl (.cons rfl (.cons rfl (.cons rfl .nil)))))))))) ?_
              refine wc_condD rfl (fun h33 => ?_) (fun h33 => ?_)
              · skip
                exfalso; exact no_less hb (List.mem_of_getElem? hx) (by assumption) (by assumption) h33
              · skip
                refine wc_skip ?_
                refine qs_seq ?_
                refine wc_region ?_
                refine wl_move rfl rfl ?_
                refine wl_move rfl rfl ?_
                refine wl_split 167 rfl (fun h34 => ?_) (fun h34 => ?_)
                · skip
                  refine wl_unwanted rfl rfl h34 rfl ?_
                  refine wl_unwanted rfl rfl h34 rfl ?_
                  refine wl_unwanted rfl rfl h34 rfl ?_
                  refine wl_unwanted rfl rfl h34 rfl ?_
                  refine wl_unwanted rfl rfl h34 rfl ?_
                  refine wl_unwanted rfl rfl h34 rfl ?_
                  refine wl_unwanted rfl rfl h34 rfl ?_
                  refine wl_unwanted rfl rfl h34 rfl ?_
                  refine wl_unguarded rfl rfl rfl ?_
                  refine wl_unguarded rfl rfl rfl ?_
                  refine wl_unguarded rfl rfl rfl ?_
                  refine wl_unwanted rfl rfl h34 rfl ?_
                  refine wl_pickT rfl h34 rfl rfl ?_
                  refine wl_assign rfl rfl ?_
                  refine wl_nil ?_
                  refine qs_block_normal ?_
                  refine qs_seq ?_
                  refine wc_sub (L' := [(14, _), (0, _), (1, _), (5, _), (6, _), (7, _), (12, _), (13, _), (15, _)]) (.cons rfl (.cons rfl (.cons rfl (.cons rfl (.cons rfl (.cons rfl (.cons rfl (.cons rfl (.cons rfl .nil))))))))) ?_
                  refine wc_region ?_
                  refine wl_move rfl rfl ?_
                  refine wl_add rfl rfl (by first | omega | (simp; omega)) (by first | omega | (simp; omega)) rfl ?_
                  refine wl_assign rfl rfl ?_
                  refine wl_nil ?_
                  exact qs_round (L1 := [(0, _), (1, _), (5, _), (6, _), (7, _), (12, _), (13, _), (14, _), (15, intV ((i + 1 : Nat) : Int))]) (.cons rfl (.cons rfl (.cons rfl (.cons rfl (.cons rfl (.cons rfl (.cons rfl (.cons rfl (.cons rfl .nil))))))))) (k1 := l.length - (i + 1)) (by omega) ⟨i + 1, _, rfl, rfl, hS29.pick [0, 1] rfl, by omega, by rw [FN_succ hx, ← hf]; first | (simp_all; done) | (simp_all; omega)⟩
                · skip
                  refine wl_guard rfl rfl h34 ?_
                  refine wl_move rfl rfl ?_
                  refine wl_guard rfl rfl h34 ?_
                  refine wl_move rfl rfl ?_
                  refine wl_guard rfl rfl h34 ?_
                  refine wl_indexAddr i rfl rfl (by first | rfl | omega) (by omega) es_22 rfl ?_
                  refine wl_guard rfl rfl h34 ?_
                  refine wl_fieldAddr rfl fo_29_0 rfl ?_
                  refine wl_guard rfl rfl h34 ?_
                  refine wl_load rfl ag_3 (hc 0 _ rfl) rfl ?_
                  refine wl_guard rfl rfl h34 ?_
                  refine wl_move rfl rfl ?_
                  refine wl_guard rfl rfl h34 ?_
                  refine wl_eql rfl rfl rfl ?_
                  refine wl_guard rfl rfl h34 ?_
                  refine wl_move rfl rfl ?_
                  refine wl_splitD 175 rfl (fun h35 => ?_) (fun h35 => ?_)
                  · skip
                    refine wl_guard rfl rfl (decide_eq_true h35) ?_
                    refine wl_move rfl rfl ?_
                    refine wl_guard rfl rfl (decide_eq_true h35) ?_
                    refine wl_move rfl rfl ?_
                    refine wl_guard rfl rfl (decide_eq_true h35) ?_
                    refine wl_gtr rfl rfl rfl ?_
                    refine wl_guard rfl rfl h34 ?_
                    refine wl_pickT rfl (decide_eq_true h35) rfl rfl ?_
                    refine wl_pickF rfl h34 rfl rfl ?_
                    refine wl_assign rfl rfl ?_
                    refine wl_nil ?_
                    refine qs_block_normal ?_
                    refine qs_seq ?_
                    refine wc_sub (L' := [(14, _), (0, _), (1, _), (5, _), (6, _), (7, _), (12, _), (13, _), (15, _)]) (.cons rfl (.cons rfl (.cons rfl (.cons rfl (.cons rfl (.cons rfl (.cons rfl (.cons rfl (.cons rfl .nil))))))))) ?_
                    refine wc_region ?_
                    refine wl_move rfl rfl ?_
                    refine wl_add rfl rfl (by first | omega | (simp; omega)) (by first | omega | (simp; omega)) rfl ?_
                    refine wl_assign rfl rfl ?_
                    refine wl_nil ?_
                    exact qs_round (L1 := [(0, _), (1, _), (5, _), (6, _), (7, _), (12, _), (13, _), (14, _), (15, intV ((i + 1 : Nat) : Int))]) (.cons rfl (.cons rfl (.cons rfl (.cons rfl (.cons rfl (.cons rfl (.cons rfl (.cons rfl (.cons rfl .nil))))))))) (k1 := l.length - (i + 1)) (by omega) ⟨i + 1, _, rfl, rfl, hS29.pick [0, 1] rfl, by omega, by rw [FN_succ hx, ← hf]; first | (simp_all; done) | (simp_all; omega)⟩
                  · skip
                    refine wl_unwanted rfl rfl (decide_eq_false h35) rfl ?_
                    refine wl_unwanted rfl rfl (decide_eq_false h35) rfl ?_
                    refine wl_unwanted rfl rfl (decide_eq_false h35) rfl ?_
                    refine wl_guard rfl rfl h34 ?_
                    refine wl_pickF rfl (decide_eq_false h35) rfl rfl ?_
                    refine wl_pickF rfl h34 rfl rfl ?_
                    refine wl_assign rfl rfl ?_
                    refine wl_nil ?_
                    refine qs_block_normal ?_
                    refine qs_seq ?_
                    refine wc_sub (L' := [(14, _), (0, _), (1, _), (5, _), (6, _), (7, _), (12, _), (13, _), (15, _)]) (.cons rfl (.cons rfl (.cons rfl (.cons rfl (.cons rfl (.cons rfl (.cons rfl (.cons rfl (.cons rfl .nil))))))))) ?_
                    refine wc_region ?_
                    refine wl_move rfl rfl ?_
                    refine wl_add rfl rfl (by first | omega | (simp; omega)) (by first | omega | (simp; omega)) rfl ?_
                    refine wl_assign rfl rfl ?_
                    refine wl_nil ?_
                    exact qs_round (L1 := [(0, _), (1, _), (5, _), (6, _), (7, _), (12, _), (13, _), (14, _), (15, intV ((i + 1 : Nat) : Int))]) (.cons rfl (.cons rfl (.cons rfl (.cons rfl (.cons rfl (.cons rfl (.cons rfl (.cons rfl (.cons rfl .nil))))))))) (k1 := l.length - (i + 1)) (by omega) ⟨i + 1, _, rfl, rfl, hS29.pick [0, 1] rfl, by omega, by rw [FN_succ hx, ← hf]; first | (simp_all; done) | (simp_all; omega)⟩
          · skip
            refine wl_unwanted rfl rfl (decide_eq_false h31) rfl ?_
            refine wl_unwanted rfl rfl (decide_eq_false h31) rfl ?_
            refine wl_unwanted rfl rfl (decide_eq_false h31) rfl ?_
            refine wl_unguarded rfl rfl rfl ?_
            refine wl_unguarded rfl rfl rfl ?_
            refine wl_unguarded rfl rfl rfl ?_
            refine wl_unguarded rfl rfl rfl ?_
            refine wl_unguarded rfl rfl rfl ?_
            refine wl_unguarded rfl rfl rfl ?_
            refine wl_unguarded rfl rfl rfl ?_
            refine wl_unwanted rfl rfl (decide_eq_false h31) rfl ?_
            refine wl_pickF rfl (decide_eq_false h31) rfl rfl ?_
            refine wl_nil ?_
            refine qs_seq ?_
            refine wc_sub (L' := [(165, _), (0, _), (1, _), (5, _), (6, _), (7, _), (12, _), (13, _), (14, _), (15, _)]) (.cons rfl (.cons rfl (.cons rfl (.cons rfl (.cons rfl (.cons rfl (.cons rfl (.cons rfl (.cons rfl (.cons rfl .nil)))))))))) ?_
            refine wc_condF rfl ?_
            refine wc_skip ?_
            refine qs_seq ?_
            refine wc_region ?_
            refine wl_move rfl rfl ?_
            refine wl_move rfl rfl ?_
            refine wl_split 167 rfl (fun h36 => ?_) (fun h36 => ?_)
            · skip
              refine wl_unwanted rfl rfl h36 rfl ?_
              refine wl_unwanted rfl rfl h36 rfl ?_
              refine wl_unwanted rfl rfl h36 rfl ?_
              refine wl_unwanted rfl rfl h36 rfl ?_
              refine wl_unwanted rfl rfl h36 rfl ?_
              refine wl_unwanted rfl rfl h36 rfl ?_
              refine wl_unwanted rfl rfl h36 rfl ?_
              refine wl_unwanted rfl rfl h36 rfl ?_
              refine wl_unguarded rfl rfl rfl ?_
              refine wl_unguarded rfl rfl rfl ?_
              refine wl_unguarded rfl rfl rfl ?_
              refine wl_unwanted rfl rfl h36 rfl ?_
              refine wl_pickT rfl h36 rfl rfl ?_
              refine wl_assign rfl rfl ?_
              refine wl_nil ?_
              refine qs_block_normal ?_
              refine qs_seq ?_
              refine wc_sub (L' := [(14, _), (0, _), (1, _), (5, _), (6, _), (7, _), (12, _), (13, _), (15, _)]) (.cons rfl (.cons rfl (.cons rfl (.cons rfl (.cons rfl (.cons rfl (.cons rfl (.cons rfl (.cons rfl .nil))))))))) ?_
              refine wc_region ?_
              refine wl_move rfl rfl ?_
              refine wl_add rfl rfl (by first | omega | (simp; omega)) (by first | omega | (simp; omega)) rfl ?_
              refine wl_assign rfl rfl ?_
              refine wl_nil ?_
              exact qs_round (L1 := [(0, _), (1, _), (5, _), (6, _), (7, _), (12, _), (13, _), (14, _), (15, intV ((i + 1 : Nat) : Int))]) (.cons rfl (.cons rfl (.cons rfl (.cons rfl (.cons rfl (.cons rfl (.cons rfl (.cons rfl (.cons rfl .nil))))))))) (k1 := l.length - (i + 1)) (by omega) ⟨i + 1, _, rfl, rfl, hS29.pick [0, 1] rfl, by omega, by rw [FN_succ hx, ← hf]; first | (simp_all; done) | (simp_all; omega)⟩
            · skip
              refine wl_guard rfl rfl h36 ?_
              refine wl_move rfl rfl ?_
              refine wl_guard rfl rfl h36 ?_
              refine wl_move rfl rfl ?_
              refine wl_guard rfl rfl h36 ?_
              refine wl_indexAddr i rfl rfl (by first | rfl | omega) (by omega) es_22 rfl ?_
              refine wl_guard rfl rfl h36 ?_
              refine wl_fieldAddr rfl fo_29_0 rfl ?_
              refine wl_guard rfl rfl h36 ?_
              refine wl_load rfl ag_3 (hc 0 _ rfl) rfl ?_
              refine wl_guard rfl rfl h36 ?_
              refine wl_move rfl rfl ?_
              refine wl_guard rfl rfl h36 ?_
              refine wl_eql rfl rfl rfl ?_
              refine wl_guard rfl rfl h36 ?_
              refine wl_move rfl rfl ?_
              refine wl_splitD 175 rfl (fun h37 => ?_) (fun h37 => ?_)
              · skip
                refine wl_guard rfl rfl (decide_eq_true h37) ?_
                refine wl_move rfl rfl ?_
                refine wl_guard rfl rfl (decide_eq_true h37) ?_
                refine wl_move rfl rfl ?_
                refine wl_guard rfl rfl (decide_eq_true h37) ?_
                refine wl_gtr rfl rfl rfl ?_
                refine wl_guard rfl rfl h36 ?_
                refine wl_pickT rfl (decide_eq_true h37) rfl rfl ?_
                refine wl_pickF rfl h36 rfl rfl ?_
                refine wl_assign rfl rfl ?_
                refine wl_nil ?_
                refine qs_block_normal ?_
                refine qs_seq ?_
                refine wc_sub (L' := [(14, _), (0, _), (1, _), (5, _), (6, _), (7, _), (12, _), (13, _), (15, _)]) (.cons rfl (.cons rfl (.cons rfl (.cons rfl (.cons rfl (.cons rfl (.cons rfl (.cons rfl (.cons rfl .nil))))))))) ?_
                refine wc_region ?_
                refine wl_move rfl rfl ?_
                refine wl_add rfl rfl (by first | omega | (simp; omega)) (by first | omega | (simp; omega)) rfl ?_
                refine wl_assign rfl rfl ?_
                refine wl_nil ?_
                exact qs_round (L1 := [(0, _), (1, _), (5, _), (6, _), (7, _), (12, _), (13, _), (14, _), (15, intV ((i + 1 : Nat) : Int))]) (.cons rfl (.cons rfl (.cons rfl (.cons rfl (.cons rfl (.cons rfl (.cons rfl (.cons rfl (.cons rfl .nil))))))))) (k1 := l.length - (i + 1)) (by omega) ⟨i + 1, _, rfl, rfl, hS29.pick [0, 1] rfl, by omega, by rw [FN_succ hx, ← hf]; first | (simp_all; done) | (simp_all; omega)⟩
              · skip
                refine wl_unwanted rfl rfl (decide_eq_false h37) rfl ?_
                refine wl_unwanted rfl rfl (decide_eq_false h37) rfl ?_
                refine wl_unwanted rfl rfl (decide_eq_false h37) rfl ?_
                refine wl_guard rfl rfl h36 ?_
                refine wl_pickF rfl (decide_eq_false h37) rfl rfl ?_
                refine wl_pickF rfl h36 rfl rfl ?_
                refine wl_assign rfl rfl ?_
                refine wl_nil ?_
                refine qs_block_normal ?_
                refine qs_seq ?_
                refine wc_sub (L' := [(14, _), (0, _), (1, _), (5, _), (6, _), (7, _), (12, _), (13, _), (15, _)]) (.cons rfl (.cons rfl (.cons rfl (.cons rfl (.cons rfl (.cons rfl (.cons rfl (.cons rfl (.cons rfl .nil))))))))) ?_
                refine wc_region ?_
                refine wl_move rfl rfl ?_
                refine wl_add rfl rfl (by first | omega | (simp; omega)) (by first | omega | (simp; omega)) rfl ?_
                refine wl_assign rfl rfl ?_
                refine wl_nil ?_
                exact qs_round (L1 := [(0, _), (1, _), (5, _), (6, _), (7, _), (12, _), (13, _), (14, _), (15, intV ((i + 1 : Nat) : Int))]) (.cons rfl (.cons rfl (.cons rfl (.cons rfl (.cons rfl (.cons rfl (.cons rfl (.cons rfl (.cons rfl .nil))))))))) (k1 := l.length - (i + 1)) (by omega) ⟨i + 1, _, rfl, rfl, hS29.pick [0, 1] rfl, by omega, by rw [FN_succ hx, ← hf]; first | (simp_all; done) | (simp_all; omega)⟩
        · skip
          refine wc_exit ?_
          refine qs_then_exit ?_
          refine qs_then_exit ?_
          refine qs_block_exit ?_
          refine qs_seq ?_
          refine wc_seq ?_
          refine wc_region ?_
          refine wl_move rfl rfl ?_
          refine wl_move rfl rfl ?_
          refine wl_guard rfl rfl rfl ?_
          refine wl_move rfl rfl ?_
          refine wl_guard rfl rfl rfl ?_
          refine wl_eql rfl rfl rfl ?_
          refine wl_pickT rfl rfl rfl rfl ?_
          refine wl_move rfl rfl ?_
          refine wl_splitD 186 rfl (fun h38 => ?_) (fun h38 => ?_)
          · skip
            refine wl_guard rfl rfl (decide_eq_true h38) ?_
            refine wl_move rfl rfl ?_
            refine wl_guard rfl rfl (decide_eq_true h38) ?_
            refine wl_makeIface nif_24 rfl rfl ?_
            refine wl_guard rfl rfl (decide_eq_true h38) ?_
            have hC39 := hS29.split [0] [true, false] rfl; dsimp only [selF, pickA, nthA, List.cons_append, List.nil_append] at hC39
            refine wl_call cal_11 rfl (items_sp hC39 (hG.starL 0 rfl) (TB.empty.fill l kIn)) rfl ?_
            rintro e w39 ⟨_, rfl, hS39⟩; refine ⟨_, rfl, ?_⟩
            replace hS39 := hS39.join rfl; dsimp only [List.dropLast, List.cons_append, List.nil_append] at hS39; clear hC39
            clear hS29
            refine wl_guard rfl rfl (decide_eq_true h38) ?_
            refine wl_move rfl rfl ?_
            refine wl_guard rfl rfl (decide_eq_true h38) ?_
            have hC40 := hS39.split [] [false, false, false] rfl; dsimp only [selF, pickA, nthA, List.cons_append, List.nil_append] at hC40
            refine wl_call cal_12 rfl (sameI_sp hC40 (Ent.starL (ent_row (C := itC) (l := itemsW (fillW emptyW l)) (by rw [hI]; omega)) 0 rfl) (hL.starL 2 rfl)) rfl ?_
            rintro e w40 ⟨_, rfl, rfl, hS40⟩; refine ⟨_, rfl, ?_⟩
            replace hS40 := hS40.join rfl; dsimp only [List.dropLast, List.cons_append, List.nil_append] at hS40; clear hC40
            clear hS39
            refine wl_pickT rfl (decide_eq_true h38) rfl rfl ?_
            refine wl_move rfl rfl ?_
            refine wl_split 193 rfl (fun h41 => ?_) (fun h41 => ?_)
            · skip
              refine wl_guard rfl rfl h41 ?_
              refine wl_move rfl rfl ?_
              refine wl_guard rfl rfl h41 ?_
              refine wl_move rfl rfl ?_
              refine wl_guard rfl rfl h41 ?_
              refine wl_eqlB Tryd.underlying4 rfl rfl rfl ?_
              refine wl_pickT rfl h41 rfl rfl ?_
              refine wl_assign rfl rfl ?_
              refine wl_nil ?_
              refine qs_seq ?_
              refine wc_sub (L' := [(4, _)]) (.cons rfl .nil) ?_
              refine wc_ret ?_
              refine fin1 (.inr rfl) rfl rfl ?_
              have hfe := FN_end hb (show i = l.length by omega) hf
              exact ⟨_, rfl, by rw [hfe]; simp, hS40.pick [2] rfl⟩
            · skip
              simp [hI] at h41
          · skip
            exact absurd rfl h38

end Go.Proofs.YtdkfppcafpjomaaDoor
