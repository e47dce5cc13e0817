/- reference 15: Full -/
import Derived.Test.YtieelilkkpcmdaaGreatDoorRx7
namespace Go.Proofs.YtieelilkkpcmdaaGreatDoor
open Go.RowKit M
set_option linter.unusedVariables false
def trimO (x : ObD) : Bs := Lib.trimRightB x.data 0
structure FullOf (O : List ObD) (i : Nat) (l : List Bs) : Prop where
  sorted : l.Pairwise (· < ·)
  mem : ∀ k, k ∈ l ↔ ∃ x ∈ O.take i, x.name = k ∧ trimO x ≠ []
structure Slot (m l : List Bs) (k : Nat) : Prop where
  len : m.length = l.length + 1
  lo : ∀ j, j < k → m[j]? = l[j]?
  hi : ∀ j, k ≤ j → m[j + 1]? = l[j]?
theorem Slot.start (l : List Bs) (x : Bs) : Slot (l ++ [x]) l l.length :=
  ⟨by simp, fun j hj => by rw [List.getElem?_append_left hj], fun j hj => by rw [List.getElem?_eq_none (by simp; omega), List.getElem?_eq_none hj]⟩
theorem Slot.down {m l : List Bs} {k : Nat} {y : Bs} (h : Slot m l k) (h0 : 0 < k) (hk : k ≤ l.length) (hy : m[k - 1]? = some y) : Slot (m.set k y) l (k - 1) := by
  refine ⟨by rw [List.length_set]; exact h.len, fun j hj => ?_, fun j hj => ?_⟩
  · rw [List.getElem?_set_ne (by omega)]; exact h.lo j (by omega)
  · by_cases e : j = k - 1
    · subst e
      rw [show k - 1 + 1 = k by omega, List.getElem?_set_self (by have := h.len; omega), ← hy]
      exact h.lo _ (by omega)
    · rw [List.getElem?_set_ne (by omega)]; exact h.hi j (by omega)
theorem Slot.fill {m l : List Bs} {k : Nat} {x : Bs} (h : Slot m l k) (hk : k ≤ l.length) : m.set k x = l.take k ++ x :: l.drop k := by
  refine List.ext_getElem? fun j => ?_
  have hlt : (l.take k).length = k := by rw [List.length_take]; omega
  rcases Nat.lt_trichotomy j k with g | g | g
  · rw [List.getElem?_set_ne (by omega), List.getElem?_append_left (by omega), List.getElem?_take, if_pos g]; exact h.lo j g
  · subst g
    rw [List.getElem?_set_self (by have := h.len; omega), List.getElem?_append_right (by omega), hlt, Nat.sub_self]; rfl
  · obtain ⟨q, rfl⟩ : ∃ q, j = q + 1 := ⟨j - 1, by omega⟩
    rw [List.getElem?_set_ne (by omega), List.getElem?_append_right (by omega), hlt, show q + 1 - k = (q - k) + 1 by omega, List.getElem?_cons_succ, List.getElem?_drop, show k + (q - k) = q by omega]
    exact h.hi q (by omega)
theorem bs_le {a b : Bs} (h : ¬ b < a) (hne : a ≠ b) : a < b := Decidable.byContradiction fun q => hne (List.le_antisymm (List.not_lt.1 h) (List.not_lt.1 q))
theorem full_skip {O : List ObD} {i : Nat} {l : List Bs} {x : ObD} (h : FullOf O i l) (hx : O[i]? = some x) (ht : trimO x = []) : FullOf O (i + 1) l := by
  refine ⟨h.sorted, fun k => ?_⟩
  rw [h.mem, List.take_add_one, hx]
  constructor
  · rintro ⟨y, hy, h1⟩; exact ⟨y, List.mem_append_left _ hy, h1⟩
  · rintro ⟨y, hy, h1, h2⟩
    rcases List.mem_append.1 hy with hy | hy
    · exact ⟨y, hy, h1, h2⟩
    · simp at hy; subst hy; exact absurd ht h2
theorem full_new {O : List ObD} {i : Nat} {l : List Bs} {x : ObD} (h : FullOf O i l) (hn : (O.map (·.name)).Nodup) (hx : O[i]? = some x) : x.name ∉ l := fun hm => by
  obtain ⟨y, hy, h1, _⟩ := (h.mem _).1 hm
  obtain ⟨j, hj⟩ := List.mem_iff_getElem?.1 hy
  rw [List.getElem?_take] at hj
  split at hj
  · have := name_inj hn hj hx h1; omega
  · cases hj
theorem full_ins {O : List ObD} {i k : Nat} {l m : List Bs} {x : ObD} (h : FullOf O i l) (hn : (O.map (·.name)).Nodup) (hx : O[i]? = some x) (ht : trimO x ≠ []) (hs : Slot m l k) (hk : k ≤ l.length) (hgt : ∀ j y, k ≤ j → l[j]? = some y → x.name < y) (hlo : k = 0 ∨ ∃ y, m[k - 1]? = some y ∧ ¬ x.name < y) : FullOf O (i + 1) (m.set k x.name) := by
  have hnm := full_new h hn hx
  rw [hs.fill hk]
  refine ⟨?_, fun q => ?_⟩
  · have hp := h.sorted
    have hlt : ∀ a ∈ l.take k, a < x.name := fun a ha => by
      obtain ⟨j, hj⟩ := List.mem_iff_getElem?.1 ha
      rw [List.getElem?_take] at hj
      split at hj
      · rename_i hjk
        rcases hlo with rfl | ⟨y, hy, hny⟩
        · omega
        · rw [hs.lo _ (by omega)] at hy
          have hyx : y < x.name := bs_le hny (fun e => hnm (by rw [← e]; exact List.mem_of_getElem? hy))
          by_cases e : j = k - 1
          · subst e; rw [hj] at hy; cases hy; exact hyx
          · obtain ⟨g1, g2⟩ := List.getElem?_eq_some_iff.1 hj
            obtain ⟨g3, g4⟩ := List.getElem?_eq_some_iff.1 hy
            have := List.pairwise_iff_getElem.1 hp j (k - 1) g1 g3 (by omega)
            rw [g2, g4] at this
            exact List.lt_trans this hyx
      · cases hj
    have hgt2 : ∀ b ∈ l.drop k, x.name < b := fun b hb => by
      obtain ⟨j, hj⟩ := List.mem_iff_getElem?.1 hb
      rw [List.getElem?_drop] at hj
      exact hgt _ _ (by omega) hj
    refine List.pairwise_append.2 ⟨hp.sublist (List.take_sublist _ _), List.pairwise_cons.2 ⟨hgt2, hp.sublist (List.drop_sublist _ _)⟩, fun a ha b hb => ?_⟩
    rcases List.mem_cons.1 hb with rfl | hb
    · exact hlt a ha
    · exact List.lt_trans (hlt a ha) (hgt2 b hb)
  · have e1 : q ∈ l.take k ++ x.name :: l.drop k ↔ q = x.name ∨ q ∈ l := by
      conv => rhs; rw [← List.take_append_drop k l]
      simp only [List.mem_append, List.mem_cons]
      constructor
      · rintro (h | h | h)
        · exact .inr (.inl h)
        · exact .inl h
        · exact .inr (.inr h)
      · rintro (h | h | h)
        · exact .inr (.inl h)
        · exact .inl h
        · exact .inr (.inr h)
    rw [e1, h.mem, List.take_add_one, hx]
    constructor
    · rintro (rfl | ⟨y, hy, h1⟩)
      · exact ⟨x, by simp, rfl, ht⟩
      · exact ⟨y, List.mem_append_left _ hy, h1⟩
    · rintro ⟨y, hy, h1, h2⟩
      rcases List.mem_append.1 hy with hy | hy
      · exact .inr ⟨y, hy, h1, h2⟩
      · simp at hy; subst hy; exact .inl h1.symm
theorem full_len {O : List ObD} {i : Nat} {l : List Bs} (h : FullOf O i l) : l.length ≤ O.length := by
  have h1 : l.Nodup := h.sorted.imp fun {a b} hab e => by subst e; exact List.lt_irrefl _ hab
  have := List.Nodup.length_le_of_subset (l₂ := O.map (·.name)) h1 fun k hk => by
    obtain ⟨x, hx, rfl, _⟩ := (h.mem k).1 hk
    exact List.mem_map.2 ⟨x, List.mem_of_mem_take hx, rfl⟩
  simpa using this
theorem trimO_of {O : List ObD} (hn : (O.map (·.name)).Nodup) {i : Nat} {x : ObD} (hx : O[i]? = some x) {s : Bs} (h : (∃ y ∈ O, y.name = x.name ∧ s = Lib.trimRightB y.data 0) ∨ (x.name ∉ O.map (·.name) ∧ s = [])) : s = trimO x := by
  rcases h with ⟨y, hy, h1, rfl⟩ | ⟨h1, _⟩
  · obtain ⟨j, hj⟩ := List.mem_iff_getElem?.1 hy
    have := name_inj hn hj hx h1
    subst this; rw [hx] at hj; cases hj; rfl
  · exact absurd (List.mem_map.2 ⟨x, List.mem_of_getElem? hx, rfl⟩) h1
set_option maxRecDepth 100000 in
theorem fFull_sp {w : World} {p : Nat} {Z : List (Bs × Bs)} {O : List ObD} {G : List (Bs × Bs)} {t : Int} {F : Th} (hS : Sat w [fullT p Z O G t, F]) {f : Bs → Int → UInt8} (hO : ObjR O f) (hn : O.length ≤ 100000) :
    Calls Tryz.prog 15 #[ptrV p 0] w (Ret fun v w' => ∃ l, (l.Pairwise (· < ·) ∧ ∀ k : Bs, k ∈ l ↔ ∃ x ∈ O, x.name = k ∧ trimO x ≠ []) ∧ Sat w' [rowT stC v l, fullT p Z O G t, F]) := by
  refine calls_enter Tryz.func15 rfl Tryz.ntmps15 rfl ?_
  refine wc_seq ?_
  refine wc_region ?_
  refine wl_assign rfl rfl ?_
  refine wl_nil ?_
  refine qs_seq ?_
  refine wc_seq ?_
  refine wc_region ?_
  refine wl_assign rfl rfl ?_
  refine wl_nil ?_
  refine qs_seq ?_
  refine wc_seq ?_
  refine wc_seq ?_
  refine wc_region ?_
  refine wl_assign rfl rfl ?_
  refine wl_nil ?_
  refine qs_seq ?_
  refine wc_block ?_
  refine wc_loop (fun K0 E0 W0 => ∃ (i : Nat) (ov : Value) (l : List Bs), K0 = O.length - i ∧ E0 = [(0, ptrV p 0), (3, ov), (4, intV (i : Int))] ∧ Sat W0 [fullT p Z O G t, rowT stC ov l, F] ∧ (i ≤ O.length) ∧ (FullOf O i l)) (L0 := [(0, _), (3, _), (4, _)]) (O.length - 0) (.cons rfl (.cons rfl (.cons rfl .nil))) ⟨0, _, [], rfl, rfl, (hS.row_nil stC).reorder [1, 0, 2] rfl, by omega, ⟨List.Pairwise.nil, by simp⟩⟩ ?_
  rintro _ _ w1 ⟨i, ov, l, rfl, rfl, hS1, hi, hF⟩
  refine wc_seq ?_
  refine wc_seq ?_
  obtain ⟨kv, vv, nv, sv, lv, tv, hOp⟩ := full_open (hS1.pull 0 rfl)
  refine wc_region ?_
  refine wl_move rfl rfl ?_
  refine wl_move rfl rfl ?_
  refine wl_nilCheck rfl rfl ?_
  refine wl_fieldAddr rfl fo_31_2 rfl ?_
  refine wl_load rfl ag_28 (hOp.cell 0 rfl rfl) rfl ?_
  refine wl_lenO 3 hOp Tryz.underlying28 rfl rfl rfl ?_
  refine wl_lss rfl rfl rfl ?_
  refine wl_nil ?_
  refine qs_seq ?_
  refine wc_condD rfl (fun h2 => ?_) (fun h2 => ?_)
  · skip
    have hil : i < O.length := by simp at h2; omega
    obtain ⟨x, hx⟩ : ∃ x, O[i]? = some x := ⟨_, List.getElem?_eq_getElem hil⟩
    have hname : (O.map (·.name))[i]? = some x.name := by rw [List.getElem?_map, hx]; rfl
    have hll := full_len hF
    refine wc_skip ?_
    refine qs_seq ?_
    refine wc_seq ?_
    refine wc_block ?_
    refine wc_seq ?_
    refine wc_seq ?_
    obtain ⟨kv, vv, nv, sv, lv, tv, hOp⟩ := full_open (hS1.pull 0 rfl)
    obtain ⟨nb, ncap, rfl, _⟩ := hOp.own_at 3 rfl (by simp; omega)
    refine wc_region ?_
    refine wl_move rfl rfl ?_
    refine wl_move rfl rfl ?_
    refine wl_nilCheck rfl rfl ?_
    refine wl_fieldAddr rfl fo_31_2 rfl ?_
    refine wl_load rfl ag_28 (hOp.cell 0 rfl rfl) rfl ?_
    refine wl_move rfl rfl ?_
    refine wl_indexAddr i rfl rfl (by first | rfl | omega) (by simp; omega) es_28 rfl ?_
    refine wl_rowLoad0 stC 3 i 0 hOp rfl hname ag_9 rfl rfl rfl ?_
    have hC3 := hS1.split [0] [true, false, false] rfl; dsimp only [selF, pickA, nthA, List.cons_append, List.nil_append] at hC3
    refine wl_call cal_17 rfl (fObject_sp hC3 hO hn x.name) rfl ?_
    rintro e w3 ⟨_, rfl, s, rfl, hs, hS3⟩; refine ⟨_, rfl, ?_⟩
    replace hS3 := hS3.join rfl; dsimp only [List.dropLast, List.cons_append, List.nil_append] at hS3; clear hC3
    clear hS1
    have hs0 := trimO_of hO.nd hx hs
    refine wl_eqlS rfl rfl rfl ?_
    refine wl_nil ?_
    refine qs_seq ?_
    refine wc_sub (L' := [(24, _), (0, _), (3, _), (4, _)]) (.cons rfl (.cons rfl (.cons rfl (.cons rfl .nil)))) ?_
    refine wc_condD rfl (fun h4 => ?_) (fun h4 => ?_)
    · skip
      refine wc_exit ?_
      refine qs_then_exit ?_
      refine qs_block_exit ?_
      refine qs_seq ?_
      refine wc_region ?_
      refine wl_move rfl rfl ?_
      refine wl_add rfl rfl (by omega) (by omega) rfl ?_
      refine wl_assign rfl rfl ?_
      refine wl_nil ?_
      exact qs_round (L1 := [(0, _), (3, _), (4, intV ((i + 1 : Nat) : Int))]) (.cons rfl (.cons rfl (.cons rfl .nil))) (k1 := O.length - (i + 1)) (by omega) ⟨i + 1, _, l, rfl, rfl, hS3.pick [0, 1, 2] rfl, by omega, full_skip hF hx (by rw [← hs0]; assumption)⟩
    · skip
      refine wc_skip ?_
      refine qs_seq ?_
      refine wc_seq ?_
      refine wc_region ?_
      refine wl_move rfl rfl ?_
      first | refine wl_lenL Tryz.underlying28 rfl rfl ?_ | refine wl_lenO 1 hS3 Tryz.underlying28 rfl rfl rfl ?_
      refine wl_assign rfl rfl ?_
      refine wl_nil ?_
      refine qs_seq ?_
      refine wc_seq ?_
      refine wc_region ?_
      refine wl_move rfl rfl ?_
      refine wl_rowBuild stC [[]] hS3 rfl Tryz.underlying28 ifz_9 rfl rfl rfl rfl (by first | rfl | simp [RowC.cells, fillL, splice]) rfl ?_
      intro b5 w5 hS5
      clear hS3
      refine wl_rowApp stC 2 hS5 rfl rfl rfl (hS5.rd 0 rfl (by simp)) Tryz.underlying28 Tryz.underlying28 (by intro k hk; cases hk) ifo_9 rfl (by simp; omega) rfl (by simp; omega) ?_
      intro v6 w6 hS6; dsimp only [List.set] at hS6
      clear hS5
      have h1v6 : v6.oneCell' = true := hS6.own_one 2 rfl
      refine wl_assign rfl rfl ?_
      refine wl_nil ?_
      refine qs_seq ?_
      refine wc_seq ?_
      refine wc_block ?_
      refine wc_loop (fun K0 E0 W0 => ∃ (k : Nat) (rv : Value) (m : List Bs), K0 = k + 1 ∧ E0 = [(0, ptrV p 0), (3, rv), (4, intV (i : Int)), (5, intV (k : Int))] ∧ Sat W0 [fullT p Z O G t, rowT stC rv m, F] ∧ (k ≤ l.length) ∧ (Slot m l k) ∧ (∀ j y, k ≤ j → l[j]? = some y → x.name < y)) (L0 := [(0, _), (3, _), (4, _), (5, _)]) (l.length + 1) (.cons rfl (.cons rfl (.cons rfl (.cons rfl .nil)))) ⟨l.length, _, _, rfl, rfl, hS6.pick [1, 2, 3] rfl, by omega, Slot.start l [], fun j y hj hy => by rw [List.getElem?_eq_none hj] at hy; cases hy⟩ ?_
      rintro _ _ w7 ⟨k, rv, m, rfl, rfl, hS7, hk, hsl, hgt⟩
      have hml := hsl.len
      refine wc_seq ?_
      refine wc_seq ?_
      have hS8 := hS7.drew
      obtain ⟨kv, vv, nv, sv, lv, tv, hOp⟩ := full_open (hS8.pull 0 rfl)
      obtain ⟨nb, ncap, rfl, _⟩ := hOp.own_at 3 rfl (by simp; omega)
      obtain ⟨rb, rcap, rfl, _⟩ := hS8.own_at 1 rfl (by omega)
      refine wc_draw [0, 1, 2, 3, 4, 5, 6, 7, 8, 9, 10, 11, 12, 13, 14, 15, 16, 17] [] mix (by kernel_rfl) ?_
      refine vc_p rfl rfl rfl (fun _ => (ev_move rfl)) ?_
      refine vc_p rfl rfl rfl (fun _ => (ev_gtr rfl rfl)) ?_
      refine vc_p rfl rfl rfl (fun _ => (ev_move rfl)) ?_
      refine vc_splitD 32 rfl (fun h9 => ?_) (fun h9 => ?_)
      · skip
        obtain ⟨y, hmk⟩ : ∃ y, m[k - 1]? = some y := ⟨_, List.getElem?_eq_getElem (by omega)⟩
        refine vc_p rfl rfl (guard_yes rfl rfl (decide_eq_true h9)) (fun _ => (Ev.gd (ev_move rfl))) ?_
        refine vc_p rfl rfl (guard_yes rfl rfl (decide_eq_true h9)) (fun _ => (Ev.gd (ev_move rfl))) ?_
        refine vc_p rfl rfl (guard_yes rfl rfl (decide_eq_true h9)) (fun _ => (Ev.gd (ev_sub' rfl rfl (by omega) (by omega)))) ?_
        refine vc_p rfl rfl (guard_yes rfl rfl (decide_eq_true h9)) (fun _ => (Ev.gd (ev_maxI rfl rfl))) ?_
        refine vc_p rfl rfl (guard_yes rfl rfl (decide_eq_true h9)) (fun _ => (Ev.gd (ev_indexAddr (k - 1) rfl rfl (by first | rfl | omega) (by first | omega | exact (List.getElem?_eq_some_iff.1 hmk).1) es_28))) ?_
        refine vc_q rfl rfl (guard_yes rfl rfl (decide_eq_true h9)) (Ev.gd (ev_rowLoad0 stC 1 (k - 1) 0 hS8 rfl hmk ag_9 rfl rfl)) ?_
        refine vc_p rfl rfl (guard_yes rfl rfl (decide_eq_true h9)) (fun _ => (Ev.gd (ev_move rfl))) ?_
        refine vc_p rfl rfl (guard_yes rfl rfl (decide_eq_true h9)) (fun _ => (Ev.gd (ev_nilCheck rfl))) ?_
        refine vc_p rfl rfl (guard_yes rfl rfl (decide_eq_true h9)) (fun _ => (Ev.gd (ev_fieldAddr rfl fo_31_2))) ?_
        refine vc_q rfl rfl (guard_yes rfl rfl (decide_eq_true h9)) (Ev.gd (ev_load rfl ag_28 (hOp.cell 0 rfl rfl))) ?_
        refine vc_p rfl rfl (guard_yes rfl rfl (decide_eq_true h9)) (fun _ => (Ev.gd (ev_move rfl))) ?_
        refine vc_p rfl rfl (guard_yes rfl rfl (decide_eq_true h9)) (fun _ => (Ev.gd (ev_indexAddr i rfl rfl (by first | rfl | omega) (by simp; omega) es_28))) ?_
        refine vc_q rfl rfl (guard_yes rfl rfl (decide_eq_true h9)) (Ev.gd (ev_rowLoad0 stC 3 i 0 hOp rfl hname ag_9 rfl rfl)) ?_
        refine vc_p rfl rfl (guard_yes rfl rfl (decide_eq_true h9)) (fun _ => (Ev.gd (ev_gtrS rfl rfl))) ?_
        refine vc_p rfl rfl rfl (fun _ => (ev_pickT rfl (decide_eq_true h9) rfl)) ?_
        refine VC.nil ?_
        refine qs_seq ?_
        refine wc_sub (L' := [(47, _), (0, _), (3, _), (4, _), (5, _)]) (.cons rfl (.cons rfl (.cons rfl (.cons rfl (.cons rfl .nil))))) ?_
        refine wc_condD rfl (fun h10 => ?_) (fun h10 => ?_)
        · skip
          refine wc_skip ?_
          refine qs_seq ?_
          refine wc_block ?_
          refine wc_seq ?_
          obtain ⟨z, hz⟩ : ∃ z, m[k]? = some z := ⟨_, List.getElem?_eq_getElem (by omega)⟩
          refine wc_region ?_
          refine wl_move rfl rfl ?_
          refine wl_move rfl rfl ?_
          refine wl_move rfl rfl ?_
          refine wl_move rfl rfl ?_
          refine wl_sub' rfl rfl (by omega) (by omega) rfl ?_
          refine wl_indexAddr (k - 1) rfl rfl (by first | rfl | omega) (by first | omega | exact (List.getElem?_eq_some_iff.1 hmk).1) es_28 rfl ?_
          refine wl_rowLoad0 stC 1 (k - 1) 0 hS8 rfl hmk ag_9 rfl rfl rfl ?_
          refine wl_rowIdx stC 1 k hS8 rfl rfl rfl (by first | rfl | omega) hz es_28 rfl ?_
          intro bx11 capx11 hvx11
          refine wl_rowStore 1 k y hS8 rfl hvx11 rfl rfl sz_9 (by first | rfl | (simp; done)) (by first | omega | exact (List.getElem?_eq_some_iff.1 hz).1) ?_
          intro w12 hS13; dsimp only [List.set] at hS13
          clear hS8
          refine wl_nil ?_
          refine qs_seq ?_
          refine wc_sub (L' := [(0, _), (3, _), (4, _), (5, _)]) (.cons rfl (.cons rfl (.cons rfl (.cons rfl .nil)))) ?_
          refine wc_region ?_
          refine wl_move rfl rfl ?_
          refine wl_sub' rfl rfl (by omega) (by omega) rfl ?_
          refine wl_assign rfl rfl ?_
          refine wl_nil ?_
          refine qs_block_normal ?_
          exact qs_round (L1 := [(0, _), (3, _), (4, _), (5, intV ((k - 1 : Nat) : Int))]) (.cons rfl (.cons rfl (.cons rfl (.cons (by rw [show ((k - 1 : Nat) : Int) = (k : Int) - 1 by omega]; rfl) .nil)))) (k1 := k - 1 + 1) (by omega) ⟨k - 1, _, m.set k y, rfl, rfl, hS13.pick [0, 1, 2] rfl, by omega, hsl.down (by omega) hk hmk, fun j z hj hz => by by_cases e : j = k - 1; (subst e; rw [hsl.lo _ (by omega), hz] at hmk; cases hmk; assumption); exact hgt j z (by omega) hz⟩
        · skip
          refine wc_exit ?_
          refine qs_then_exit ?_
          refine qs_then_exit ?_
          refine qs_block_exit ?_
          refine qs_seq ?_
          have hlo : k = 0 ∨ ∃ y, m[k - 1]? = some y ∧ ¬ x.name < y := .inr ⟨y, hmk, by assumption⟩
          obtain ⟨kv, vv, nv, sv, lv, tv, hOp⟩ := full_open (hS8.pull 0 rfl)
          obtain ⟨nb, ncap, rfl, _⟩ := hOp.own_at 3 rfl (by simp; omega)
          obtain ⟨z, hz⟩ : ∃ z, m[k]? = some z := ⟨_, List.getElem?_eq_getElem (by omega)⟩
          refine wc_region ?_
          refine wl_move rfl rfl ?_
          refine wl_move rfl rfl ?_
          refine wl_move rfl rfl ?_
          refine wl_nilCheck rfl rfl ?_
          refine wl_fieldAddr rfl fo_31_2 rfl ?_
          refine wl_load rfl ag_28 (hOp.cell 0 rfl rfl) rfl ?_
          refine wl_move rfl rfl ?_
          refine wl_indexAddr i rfl rfl (by first | rfl | omega) (by simp; omega) es_28 rfl ?_
          refine wl_rowLoad0 stC 3 i 0 hOp rfl hname ag_9 rfl rfl rfl ?_
          refine wl_rowIdx stC 1 k hS8 rfl rfl rfl (by first | rfl | omega) hz es_28 rfl ?_
          intro bx14 capx14 hvx14
          refine wl_rowStore 1 k x.name hS8 rfl hvx14 rfl rfl sz_9 (by first | rfl | (simp; done)) (by first | omega | exact (List.getElem?_eq_some_iff.1 hz).1) ?_
          intro w15 hS16; dsimp only [List.set] at hS16
          clear hS8
          refine wl_nil ?_
          refine qs_block_normal ?_
          refine qs_seq ?_
          refine wc_sub (L' := [(0, _), (3, _), (4, _)]) (.cons rfl (.cons rfl (.cons rfl .nil))) ?_
          refine wc_region ?_
          refine wl_move rfl rfl ?_
          refine wl_add rfl rfl (by omega) (by omega) rfl ?_
          refine wl_assign rfl rfl ?_
          refine wl_nil ?_
          exact qs_round (L1 := [(0, _), (3, _), (4, intV ((i + 1 : Nat) : Int))]) (.cons rfl (.cons rfl (.cons rfl .nil))) (k1 := O.length - (i + 1)) (by omega) ⟨i + 1, _, (m.set k x.name), rfl, rfl, hS16.pick [0, 1, 2] rfl, by omega, full_ins hF hO.nd hx (by rw [← hs0]; assumption) hsl hk hgt hlo⟩
      · skip
        refine vc_not rfl rfl (guard_no rfl rfl (decide_eq_false h9)) ?_
        refine vc_not rfl rfl (guard_no rfl rfl (decide_eq_false h9)) ?_
        refine vc_not rfl rfl (guard_no rfl rfl (decide_eq_false h9)) ?_
        refine vc_not rfl rfl (guard_no rfl rfl (decide_eq_false h9)) ?_
        refine vc_not rfl rfl (guard_no rfl rfl (decide_eq_false h9)) ?_
        refine vc_not rfl rfl (guard_no rfl rfl (decide_eq_false h9)) ?_
        refine vc_not rfl rfl (guard_no rfl rfl (decide_eq_false h9)) ?_
        refine vc_not rfl rfl (guard_no rfl rfl (decide_eq_false h9)) ?_
        refine vc_not rfl rfl (guard_no rfl rfl (decide_eq_false h9)) ?_
        refine vc_not rfl rfl (guard_no rfl rfl (decide_eq_false h9)) ?_
        refine vc_not rfl rfl (guard_no rfl rfl (decide_eq_false h9)) ?_
        refine vc_not rfl rfl (guard_no rfl rfl (decide_eq_false h9)) ?_
        refine vc_not rfl rfl (guard_no rfl rfl (decide_eq_false h9)) ?_
        refine vc_not rfl rfl (guard_no rfl rfl (decide_eq_false h9)) ?_
        refine vc_p rfl rfl rfl (fun _ => (ev_pickF rfl (decide_eq_false h9) rfl)) ?_
        refine VC.nil ?_
        refine qs_seq ?_
        refine wc_sub (L' := [(47, _), (0, _), (3, _), (4, _), (5, _)]) (.cons rfl (.cons rfl (.cons rfl (.cons rfl (.cons rfl .nil))))) ?_
        refine wc_condF rfl ?_
        refine wc_exit ?_
        refine qs_then_exit ?_
        refine qs_then_exit ?_
        refine qs_block_exit ?_
        refine qs_seq ?_
        have hlo : k = 0 ∨ ∃ y, m[k - 1]? = some y ∧ ¬ x.name < y := .inl (by omega)
        obtain ⟨kv, vv, nv, sv, lv, tv, hOp⟩ := full_open (hS8.pull 0 rfl)
        obtain ⟨nb, ncap, rfl, _⟩ := hOp.own_at 3 rfl (by simp; omega)
        obtain ⟨z, hz⟩ : ∃ z, m[k]? = some z := ⟨_, List.getElem?_eq_getElem (by omega)⟩
        refine wc_region ?_
        refine wl_move rfl rfl ?_
        refine wl_move rfl rfl ?_
        refine wl_move rfl rfl ?_
        refine wl_nilCheck rfl rfl ?_
        refine wl_fieldAddr rfl fo_31_2 rfl ?_
        refine wl_load rfl ag_28 (hOp.cell 0 rfl rfl) rfl ?_
        refine wl_move rfl rfl ?_
        refine wl_indexAddr i rfl rfl (by first | rfl | omega) (by simp; omega) es_28 rfl ?_
        refine wl_rowLoad0 stC 3 i 0 hOp rfl hname ag_9 rfl rfl rfl ?_
        refine wl_rowIdx stC 1 k hS8 rfl rfl rfl (by first | rfl | omega) hz es_28 rfl ?_
        intro bx17 capx17 hvx17
        refine wl_rowStore 1 k x.name hS8 rfl hvx17 rfl rfl sz_9 (by first | rfl | (simp; done)) (by first | omega | exact (List.getElem?_eq_some_iff.1 hz).1) ?_
        intro w18 hS19; dsimp only [List.set] at hS19
        clear hS8
        refine wl_nil ?_
        refine qs_block_normal ?_
        refine qs_seq ?_
        refine wc_sub (L' := [(0, _), (3, _), (4, _)]) (.cons rfl (.cons rfl (.cons rfl .nil))) ?_
        refine wc_region ?_
        refine wl_move rfl rfl ?_
        refine wl_add rfl rfl (by omega) (by omega) rfl ?_
        refine wl_assign rfl rfl ?_
        refine wl_nil ?_
        exact qs_round (L1 := [(0, _), (3, _), (4, intV ((i + 1 : Nat) : Int))]) (.cons rfl (.cons rfl (.cons rfl .nil))) (k1 := O.length - (i + 1)) (by omega) ⟨i + 1, _, (m.set k x.name), rfl, rfl, hS19.pick [0, 1, 2] rfl, by omega, full_ins hF hO.nd hx (by rw [← hs0]; assumption) hsl hk hgt hlo⟩
  · skip
    refine wc_exit ?_
    refine qs_then_exit ?_
    refine qs_then_exit ?_
    refine qs_block_exit ?_
    refine qs_seq ?_
    refine wc_seq ?_
    refine wc_region ?_
    refine wl_move rfl rfl ?_
    refine wl_assign rfl rfl ?_
    refine wl_nil ?_
    refine qs_seq ?_
    refine wc_sub (L' := [(2, _)]) (.cons rfl .nil) ?_
    refine wc_ret ?_
    refine fin1 (.inr rfl) rfl rfl ?_
    exact ⟨_, rfl, l, ⟨hF.sorted, by have := hF.mem; rwa [List.take_of_length_le (by first | omega | (simp at *; omega))] at this⟩, hS1.pick [1, 0, 2] rfl⟩

end Go.Proofs.YtieelilkkpcmdaaGreatDoor
