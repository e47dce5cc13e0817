/- cell: Open -/
import Derived.Test.YtfmkodmmbgibgaaGreatDoorOp4
import Derived.Test.YtfmkodmmbgibgaaGreatDoorDf
namespace Go.Proofs.YtfmkodmmbgibgaaGreatDoor
open Go.RowKit M
set_option linter.unusedVariables false
def acc (b1 b2 b3 b4 : UInt8) : Nat → Nat
  | 0 => ((b4.toNat * 256 + b3.toNat) * 256 + b2.toNat) * 256 + b1.toNat
  | 1 => (b4.toNat * 256 + b3.toNat) * 256 + b2.toNat
  | 2 => b4.toNat * 256 + b3.toNat
  | 3 => b4.toNat
  | _ => 0
theorem acc_step {b0 b1 b2 b3 b4 c : UInt8} {i : Nat} (h0 : 0 < i) (h4 : i ≤ 4) (hc : [b0, b1, b2, b3, b4][i]? = some c) : acc b1 b2 b3 b4 (i - 1) = acc b1 b2 b3 b4 i * 256 + c.toNat := by
  obtain rfl | rfl | rfl | rfl : i = 1 ∨ i = 2 ∨ i = 3 ∨ i = 4 := by omega
  all_goals (simp at hc; subst hc; simp [acc])
theorem acc_lt2 {b1 b2 b3 b4 : UInt8} {i : Nat} (h : 0 < i) : acc b1 b2 b3 b4 i < 16777216 := by
  have := u8_lt b1; have := u8_lt b2; have := u8_lt b3; have := u8_lt b4
  unfold acc; split <;> omega
theorem acc_end (b1 b2 b3 b4 : UInt8) : acc b1 b2 b3 b4 0 = hdrN b1 b2 b3 b4 := by simp only [acc, hdrN]; omega
theorem u8_ne {b : UInt8} {k : Nat} (hk : k < 256) (h : ¬ ((b.toNat : Int) = (k : Int))) : b ≠ UInt8.ofNat k := by
  intro e; subst e; apply h; simp; omega
theorem u8_eq {b : UInt8} {k : Nat} (hk : k < 256) (h : (b.toNat : Int) = (k : Int)) : b = UInt8.ofNat k := by
  apply UInt8.toNat_inj.1; simp; omega
theorem five {h : Bytes} (h1 : h.length = 5) {b0 : UInt8} {r : Bytes} (hb : h = b0 :: r) : ∃ b1 b2 b3 b4, r = [b1, b2, b3, b4] := by
  subst hb
  match r, h1 with
  | [b1, b2, b3, b4], _ => exact ⟨_, _, _, _, rfl⟩
theorem hdr_none {h : Bytes} (hh : h = [] ∨ ∃ r, h = 0 :: r) : hdrOf h = .none := by
  rcases hh with rfl | ⟨r, rfl⟩
  · rfl
  · simp [hdrOf]
theorem hdr_short {b0 : UInt8} {r : Bytes} (h0 : b0 ≠ 0) (hl : r.length ≠ 4) : hdrOf (b0 :: r) = .bad := by
  unfold hdrOf
  simp only [h0, if_false]
  split
  · simp at hl
  · rfl
theorem hdr_bad {b0 b1 b2 b3 b4 : UInt8} (h0 : b0 ≠ 0) (hb : ¬ ((b0 = 1 ∨ b0 = 2) ∧ hdrN b1 b2 b3 b4 ≤ 65536)) : hdrOf [b0, b1, b2, b3, b4] = .bad := by
  simp only [hdrOf, h0, if_false, if_neg hb]
theorem hdr_ok {b0 b1 b2 b3 b4 : UInt8} (hb : b0 = 1 ∨ b0 = 2) (hn : hdrN b1 b2 b3 b4 ≤ 65536) : hdrOf [b0, b1, b2, b3, b4] = .slot b0.toNat (hdrN b1 b2 b3 b4) := by
  have h0 : b0 ≠ 0 := by rcases hb with rfl | rfl <;> decide
  simp only [hdrOf, h0, if_false, if_pos (And.intro hb hn)]
theorem open_none {D : DS} {f : Int} (h1 : ReadE D f 0 5 = 0) (h2 : hdrOf (ReadS D f 0 5) = .none) : openE D f = 0 ∧ openC D f = newC f := by
  rw [openE, openC, if_neg (by omega), h2]; exact ⟨rfl, rfl⟩
theorem open_err {D : DS} {f : Int} (h1 : ReadE D f 0 5 ≠ 0) : openE D f ≠ 0 ∧ openE D f = ReadE D f 0 5 := by
  have : openE D f = ReadE D f 0 5 := by rw [openE, if_pos h1]
  exact ⟨by rw [this]; exact h1, this⟩
theorem open_bad {D : DS} {f : Int} (h1 : ReadE D f 0 5 = 0) (h2 : hdrOf (ReadS D f 0 5) = .bad) : openE D f ≠ 0 ∧ openE D f = 2 := by
  have : openE D f = 2 := by rw [openE, if_neg (by omega), h2]
  exact ⟨by rw [this]; decide, this⟩
theorem open_cut {D : DS} {f : Int} {s n : Nat} (h1 : ReadE D f 0 5 = 0) (h2 : hdrOf (ReadS D f 0 5) = .slot s n) (h3 : (ReadS D f (slotOff s) n).length < n) : openE D f ≠ 0 ∧ openE D f = 2 := by
  have : openE D f = 2 := by rw [openE, if_neg (by omega), h2]; simp only; rw [if_pos h3]
  exact ⟨by rw [this]; decide, this⟩
theorem open_ok {D : DS} {f : Int} {s n : Nat} (h1 : ReadE D f 0 5 = 0) (h2 : hdrOf (ReadS D f 0 5) = .slot s n) (h3 : ¬ (ReadS D f (slotOff s) n).length < n) : openE D f = 0 ∧ openC D f = ⟨f, s, ReadS D f (slotOff s) n, false⟩ := by
  refine ⟨?_, ?_⟩
  · rw [openE, if_neg (by omega), h2]; simp only; rw [if_neg h3]
  · rw [openC, h2]
set_option maxRecDepth 100000 in
theorem open_sp {w : World} {p : Nat} {D : DS} {F : Th} (hS : Sat w [dT p D, F]) (hG : Ent F (Glob 0)) (f : Int) :
    Calls Tryz.prog 35 #[ptrV p 0, intV f] w (Ret fun v w' => (openE D f = 0 ∧ ∃ c, v = .tuple #[ptrV c 0, intV 0] ∧ Sat w' [blkT c (cellV p (openC D f)), dT p D, F]) ∨ (openE D f ≠ 0 ∧ v = .tuple #[.pointer none, intV (openE D f)] ∧ Sat w' [dT p D, F])) := by
  refine calls_enter Tryz.func35 rfl Tryz.ntmps35 rfl ?_
  refine wc_seq ?_
  refine wc_region ?_
  refine wl_assign rfl rfl ?_
  refine wl_assign rfl rfl ?_
  refine wl_nil ?_
  refine qs_seq ?_
  refine wc_seq ?_
  refine wc_region ?_
  refine wl_move rfl rfl ?_
  refine wl_move rfl rfl ?_
  refine wl_buildS rfl pl_109_0_1 asz_109 zr_109 rfl rfl ?_
  refine wl_box hS rfl rfl rfl ?_
  intro b1 w1 hS1
  refine wl_assign rfl rfl ?_
  refine wl_nil ?_
  refine qs_seq ?_
  refine wc_seq ?_
  refine wc_region ?_
  refine wl_move rfl rfl ?_
  refine wl_move rfl rfl ?_
  have hC2 := hS1.split [1] [false, true, false] rfl; dsimp only [selF, pickA, nthA, List.cons_append, List.nil_append] at hC2
  refine wl_call cal_31 rfl (dreadT hC2 f 0 5) rfl ?_
  rintro e w2 ⟨_, rfl, rfl, hS2⟩; refine ⟨_, rfl, ?_⟩
  replace hS2 := hS2.join rfl; dsimp only [List.dropLast, List.cons_append, List.nil_append] at hS2; clear hC2
  clear hS1
  refine wl_move rfl rfl ?_
  refine wl_extract rfl rfl rfl ?_
  refine wl_extract rfl rfl rfl ?_
  refine wl_assign rfl rfl ?_
  refine wl_assign rfl rfl ?_
  refine wl_nil ?_
  obtain ⟨h, hH⟩ : ∃ h, h = ReadS D f 0 5 := ⟨_, rfl⟩
  rw [← hH]
  have hh5 : (h.length : Int) ≤ 5 := by have := ReadS_len (D := D) (f := f) (a := 0) (n := 5); rw [← hH] at this; omega
  refine qs_seq ?_
  refine wc_sub (L' := [(8, _), (7, _), (6, _), (5, _), (4, _), (0, _), (1, _)]) (.cons rfl (.cons rfl (.cons rfl (.cons rfl (.cons rfl (.cons rfl (.cons rfl .nil))))))) ?_
  refine wc_seq ?_
  refine wc_seq ?_
  refine wc_region ?_
  refine wl_move rfl rfl ?_
  refine wl_neq rfl rfl rfl ?_
  refine wl_nil ?_
  refine qs_seq ?_
  refine wc_condD rfl (fun h3 => ?_) (fun h3 => ?_)
  · skip
    have hE : ReadE D f 0 5 ≠ 0 := h3
    refine wc_seq ?_
    refine wc_region ?_
    refine wl_move rfl rfl ?_
    refine wl_assign rfl rfl ?_
    refine wl_assign rfl rfl ?_
    refine wl_nil ?_
    refine qs_seq ?_
    refine wc_ret ?_
    refine qs_then_ret ?_
    refine fin2 (.inr rfl) rfl rfl rfl ?_
    exact ⟨_, rfl, .inr ⟨(open_err hE).1, by rw [(open_err hE).2], hS2.pick [0, 2] rfl⟩⟩
  have hE : ReadE D f 0 5 = 0 := Decidable.not_not.1 h3
  refine wc_skip ?_
  refine qs_seq ?_
  refine wc_seq ?_
  refine wc_seq ?_
  refine wc_region ?_
  refine wl_move rfl rfl ?_
  refine wl_eqlS rfl rfl rfl ?_
  refine wl_move rfl rfl ?_
  refine wl_splitD 26 rfl (fun h4 => ?_) (fun h4 => ?_)
  · skip
    have hh0 : h = [] := h4
    refine wl_unwanted rfl rfl (decide_eq_true h4) rfl ?_
    refine wl_unwanted rfl rfl (decide_eq_true h4) rfl ?_
    refine wl_unwanted rfl rfl (decide_eq_true h4) rfl ?_
    refine wl_pickT rfl (decide_eq_true h4) rfl rfl ?_
    refine wl_nil ?_
    refine qs_seq ?_
    refine wc_sub (L' := [(30, _), (8, _), (7, _), (6, _), (5, _), (4, _), (0, _), (1, _)]) (.cons rfl (.cons rfl (.cons rfl (.cons rfl (.cons rfl (.cons rfl (.cons rfl (.cons rfl .nil)))))))) ?_
    refine wc_condT rfl ?_
    refine wc_seq ?_
    refine wc_region ?_
    refine wl_move rfl rfl ?_
    refine wl_assign rfl rfl ?_
    refine wl_assign rfl rfl ?_
    refine wl_nil ?_
    refine qs_seq ?_
    refine wc_ret ?_
    refine qs_then_ret ?_
    refine fin2 (.inr rfl) rfl rfl rfl ?_
    subst hh0
    exact ⟨_, rfl, .inl ⟨(open_none hE (by rw [← hH]; exact hdr_none (.inl rfl))).1, _, rfl, by rw [(open_none hE (by rw [← hH]; exact hdr_none (.inl rfl))).2]; exact hS2.pick [1, 0, 2] rfl⟩⟩
  obtain ⟨b0, r, rfl⟩ := List.exists_cons_of_ne_nil h4
  refine wl_guard rfl rfl (decide_eq_false h4) ?_
  refine wl_move rfl rfl ?_
  refine wl_guard rfl rfl (decide_eq_false h4) ?_
  refine wl_indexS _ Tryz.underlying9 rfl rfl (by first | rfl | omega) (by first | assumption | rfl) rfl ?_
  refine wl_guard rfl rfl (decide_eq_false h4) ?_
  refine wl_eql rfl rfl rfl ?_
  refine wl_pickF rfl (decide_eq_false h4) rfl rfl ?_
  refine wl_nil ?_
  refine qs_seq ?_
  refine wc_sub (L' := [(30, _), (8, _), (7, _), (6, _), (5, _), (4, _), (0, _), (1, _)]) (.cons rfl (.cons rfl (.cons rfl (.cons rfl (.cons rfl (.cons rfl (.cons rfl (.cons rfl .nil)))))))) ?_
  refine wc_condD rfl (fun h5 => ?_) (fun h5 => ?_)
  · skip
    have hb00 : b0 = 0 := u8_eq (k := 0) (by omega) h5
    refine wc_seq ?_
    refine wc_region ?_
    refine wl_move rfl rfl ?_
    refine wl_assign rfl rfl ?_
    refine wl_assign rfl rfl ?_
    refine wl_nil ?_
    refine qs_seq ?_
    refine wc_ret ?_
    refine qs_then_ret ?_
    refine fin2 (.inr rfl) rfl rfl rfl ?_
    exact ⟨_, rfl, .inl ⟨(open_none hE (by rw [← hH]; exact hdr_none (.inr ⟨r, by rw [hb00]⟩))).1, _, rfl, by rw [(open_none hE (by rw [← hH]; exact hdr_none (.inr ⟨r, by rw [hb00]⟩))).2]; exact hS2.pick [1, 0, 2] rfl⟩⟩
  have hb0 : b0 ≠ 0 := u8_ne (k := 0) (by omega) h5
  refine wc_skip ?_
  refine qs_seq ?_
  refine wc_seq ?_
  refine wc_seq ?_
  refine wc_region ?_
  refine wl_move rfl rfl ?_
  refine wl_lenS Tryz.underlying9 rfl rfl ?_
  refine wl_lss rfl rfl rfl ?_
  refine wl_move rfl rfl ?_
  refine wl_splitD 35 rfl (fun h6 => ?_) (fun h6 => ?_)
  · skip
    have hlen5 := h6
    refine wl_unwanted rfl rfl (decide_eq_true h6) rfl ?_
    refine wl_unwanted rfl rfl (decide_eq_true h6) rfl ?_
    refine wl_unwanted rfl rfl (decide_eq_true h6) rfl ?_
    refine wl_unwanted rfl rfl (decide_eq_true h6) rfl ?_
    refine wl_unguarded rfl rfl rfl ?_
    refine wl_unguarded rfl rfl rfl ?_
    refine wl_unguarded rfl rfl rfl ?_
    refine wl_unwanted rfl rfl (decide_eq_true h6) rfl ?_
    refine wl_pickT rfl (decide_eq_true h6) rfl rfl ?_
    refine wl_nil ?_
    refine qs_seq ?_
    refine wc_sub (L' := [(44, _), (8, _), (7, _), (6, _), (5, _), (4, _), (0, _), (1, _)]) (.cons rfl (.cons rfl (.cons rfl (.cons rfl (.cons rfl (.cons rfl (.cons rfl (.cons rfl .nil)))))))) ?_
    refine wc_condT rfl ?_
    refine wc_seq ?_
    refine wc_region ?_
    refine wl_assign rfl rfl ?_
    refine wl_assign rfl rfl ?_
    refine wl_nil ?_
    refine qs_seq ?_
    refine wc_ret ?_
    refine qs_then_ret ?_
    refine fin2 (.inr rfl) rfl rfl rfl ?_
    exact ⟨_, rfl, .inr ⟨(open_bad hE (by rw [← hH]; exact hdr_short hb0 (by simp at hlen5; omega))).1, by rw [(open_bad hE (by rw [← hH]; exact hdr_short hb0 (by simp at hlen5; omega))).2], hS2.pick [0, 2] rfl⟩⟩
  have hlen5 : r.length = 4 := by simp at hh5; have := h6; simp at this; omega
  obtain ⟨b1_, b2, b3, b4, rfl⟩ : ∃ b1 b2 b3 b4, r = [b1, b2, b3, b4] := by match r, hlen5 with | [b1, b2, b3, b4], _ => exact ⟨_, _, _, _, rfl⟩
  refine wl_guard rfl rfl (decide_eq_false h6) ?_
  refine wl_move rfl rfl ?_
  refine wl_guard rfl rfl (decide_eq_false h6) ?_
  refine wl_indexS _ Tryz.underlying9 rfl rfl (by first | rfl | omega) (by first | assumption | rfl) rfl ?_
  refine wl_guard rfl rfl (decide_eq_false h6) ?_
  refine wl_neq rfl rfl rfl ?_
  refine wl_guard rfl rfl (decide_eq_false h6) ?_
  refine wl_move rfl rfl ?_
  refine wl_splitD 39 rfl (fun h7 => ?_) (fun h7 => ?_)
  · skip
    have hn1 := u8_ne (k := 1) (by omega) h7
    refine wl_guard rfl rfl (decide_eq_true h7) ?_
    refine wl_move rfl rfl ?_
    refine wl_guard rfl rfl (decide_eq_true h7) ?_
    refine wl_indexS _ Tryz.underlying9 rfl rfl (by first | rfl | omega) (by first | assumption | rfl) rfl ?_
    refine wl_guard rfl rfl (decide_eq_true h7) ?_
    refine wl_neq rfl rfl rfl ?_
    refine wl_guard rfl rfl (decide_eq_false h6) ?_
    refine wl_pickT rfl (decide_eq_true h7) rfl rfl ?_
    refine wl_pickF rfl (decide_eq_false h6) rfl rfl ?_
    refine wl_nil ?_
    refine qs_seq ?_
    refine wc_sub (L' := [(44, _), (8, _), (7, _), (6, _), (5, _), (4, _), (0, _), (1, _)]) (.cons rfl (.cons rfl (.cons rfl (.cons rfl (.cons rfl (.cons rfl (.cons rfl (.cons rfl .nil)))))))) ?_
    refine wc_condD rfl (fun h8 => ?_) (fun h8 => ?_)
    · skip
      have hn2 := u8_ne (k := 2) (by omega) h8
      refine wc_seq ?_
      refine wc_region ?_
      refine wl_assign rfl rfl ?_
      refine wl_assign rfl rfl ?_
      refine wl_nil ?_
      refine qs_seq ?_
      refine wc_ret ?_
      refine qs_then_ret ?_
      refine fin2 (.inr rfl) rfl rfl rfl ?_
      exact ⟨_, rfl, .inr ⟨(open_bad hE (by rw [← hH]; exact hdr_bad hb0 (by rintro ⟨h12, _⟩; rcases h12 with rfl | rfl <;> simp_all))).1, by rw [(open_bad hE (by rw [← hH]; exact hdr_bad hb0 (by rintro ⟨h12, _⟩; rcases h12 with rfl | rfl <;> simp_all))).2], hS2.pick [0, 2] rfl⟩⟩
    have h12 : b0 = 1 ∨ b0 = 2 := .inr (u8_eq (k := 2) (by omega) (Decidable.not_not.1 h8))
    refine wc_skip ?_
    refine qs_seq ?_
    refine wc_seq ?_
    refine wc_region ?_
    refine wl_assign rfl rfl ?_
    refine wl_nil ?_
    refine qs_seq ?_
    refine wc_seq ?_
    refine wc_seq ?_
    refine wc_region ?_
    refine wl_assign rfl rfl ?_
    refine wl_nil ?_
    refine qs_seq ?_
    refine wc_block ?_
    refine wc_loop (fun K0 E0 W0 => ∃ (i : Nat), K0 = 1 * i ∧ E0 = [(0, ptrV p 0), (1, intV f), (6, ptrV b1 0), (7, strV [b0, b1_, b2, b3, b4]), (9, intV (acc b1_ b2 b3 b4 i : Nat)), (10, intV (i : Int))] ∧ Sat W0 [blkT b1 (cellV p (newC f)), dT p D, F] ∧ (i ≤ 4)) (L0 := [(0, _), (1, _), (6, _), (7, _), (9, _), (10, _)]) (4) (.cons rfl (.cons rfl (.cons rfl (.cons rfl (.cons rfl (.cons rfl .nil)))))) ⟨4, rfl, rfl, hS2.reorder [1, 0, 2] rfl, by omega⟩ ?_
    rintro _ _ w9 ⟨i, rfl, rfl, hS9, hi⟩
    refine wc_seq ?_
    refine wc_seq ?_
    refine wc_region ?_
    refine wl_move rfl rfl ?_
    refine wl_gtr rfl rfl rfl ?_
    refine wl_nil ?_
    refine qs_seq ?_
    refine wc_condD rfl (fun h10 => ?_) (fun h10 => ?_)
    · skip
      obtain ⟨c, hc⟩ : ∃ c, [b0, b1_, b2, b3, b4][i]? = some c := ⟨_, List.getElem?_eq_getElem (by simp; omega)⟩
      have hacc := acc_step (by omega) hi hc
      have hal := acc_lt2 (b1 := b1_) (b2 := b2) (b3 := b3) (b4 := b4) (show 0 < i by omega)
      have hcl := u8_lt c
      have hi1 : ((i - 1 : Nat) : Int) = (i : Int) - 1 := by omega
      refine wc_skip ?_
      refine qs_seq ?_
      refine wc_seq ?_
      refine wc_block ?_
      refine wc_region ?_
      refine wl_move rfl rfl ?_
      refine wl_shl 8 rfl rfl rfl rfl (q := 256) rfl (by omega) (by omega) rfl ?_
      refine wl_move rfl rfl ?_
      refine wl_move rfl rfl ?_
      refine wl_indexS _ Tryz.underlying9 rfl rfl (by first | rfl | omega) (by first | assumption | rfl) rfl ?_
      refine wl_convU8 Tryz.underlying5 Tryz.underlying3 rfl rfl ?_
      refine wl_or 8 (acc b1_ b2 b3 b4 i) rfl rfl (by first | rfl | omega) (by constructor <;> omega) (by omega) rfl ?_
      refine wl_assign rfl rfl ?_
      refine wl_nil ?_
      refine qs_block_normal ?_
      refine qs_seq ?_
      refine wc_sub (L' := [(9, _), (0, _), (1, _), (6, _), (7, _), (10, _)]) (.cons rfl (.cons rfl (.cons rfl (.cons rfl (.cons rfl (.cons rfl .nil)))))) ?_
      refine wc_region ?_
      refine wl_move rfl rfl ?_
      refine wl_sub' rfl rfl (by omega) (by omega) rfl ?_
      refine wl_assign rfl rfl ?_
      refine wl_nil ?_
      exact qs_round (L1 := [(0, _), (1, _), (6, _), (7, _), (9, intV ((acc b1_ b2 b3 b4 (i - 1) : Nat) : Int)), (10, intV ((i - 1 : Nat) : Int))]) (.cons rfl (.cons rfl (.cons rfl (.cons rfl (.cons (by rw [hacc]; rfl) (.cons (by rw [hi1]; rfl) .nil)))))) (k1 := 1 * (i - 1)) (by omega) ⟨i - 1, rfl, rfl, hS9, by omega⟩
    obtain rfl : i = 0 := by omega
    refine wc_exit ?_
    refine qs_then_exit ?_
    refine qs_then_exit ?_
    refine qs_block_exit ?_
    refine qs_seq ?_
    refine wc_seq ?_
    refine wc_seq ?_
    refine wc_region ?_
    refine wl_move rfl rfl ?_
    refine wl_gtr rfl rfl rfl ?_
    refine wl_nil ?_
    refine qs_seq ?_
    refine wc_condD rfl (fun h11 => ?_) (fun h11 => ?_)
    · skip
      refine wc_seq ?_
      refine wc_region ?_
      refine wl_assign rfl rfl ?_
      refine wl_assign rfl rfl ?_
      refine wl_nil ?_
      refine qs_seq ?_
      refine wc_sub (L' := [(5, _), (4, _), (0, _), (1, _), (6, _), (7, _), (9, _)]) (.cons rfl (.cons rfl (.cons rfl (.cons rfl (.cons rfl (.cons rfl (.cons rfl .nil))))))) ?_
      refine wc_ret ?_
      refine qs_then_ret ?_
      refine fin2 (.inr rfl) rfl rfl rfl ?_
      exact ⟨_, rfl, .inr ⟨(open_bad hE (by rw [← hH]; exact hdr_bad hb0 (by rw [← acc_end]; omega))).1, by rw [(open_bad hE (by rw [← hH]; exact hdr_bad hb0 (by rw [← acc_end]; omega))).2], hS9.pick [1, 2] rfl⟩⟩
    have hn : hdrN b1_ b2 b3 b4 ≤ 65536 := by rw [← acc_end]; omega
    have hSl : hdrOf (ReadS D f 0 5) = .slot b0.toNat (hdrN b1_ b2 b3 b4) := by rw [← hH]; exact hdr_ok h12 hn
    rw [acc_end]
    obtain ⟨n, hN⟩ : ∃ n, n = hdrN b1_ b2 b3 b4 := ⟨_, rfl⟩
    rw [← hN] at hSl hn ⊢
    have h12n : b0.toNat = 1 ∨ b0.toNat = 2 := by rcases h12 with rfl | rfl <;> simp
    refine wc_skip ?_
    refine qs_seq ?_
    refine wc_seq ?_
    refine wc_region ?_
    refine wl_move rfl rfl ?_
    refine wl_move rfl rfl ?_
    refine wl_indexS _ Tryz.underlying9 rfl rfl (by first | rfl | omega) (by first | assumption | rfl) rfl ?_
    refine wl_convU8 Tryz.underlying5 Tryz.underlying3 rfl rfl ?_
    refine wl_nilCheck rfl rfl ?_
    refine wl_fieldAddr rfl fo_109_2 rfl ?_
    first | (refine wl_store hS9 rfl rfl sz_3 (by first | rfl | assumption) (i := 0) rfl (by first | decide | exact Nat.le_of_ble_eq_true rfl | (simp; done) | omega) ?_)
    intro w12 hS13; dsimp only [List.set] at hS13
    clear hS9
    refine wl_nil ?_
    refine qs_seq ?_
    refine wc_sub (L' := [(0, _), (1, _), (6, _), (9, _)]) (.cons rfl (.cons rfl (.cons rfl (.cons rfl .nil)))) ?_
    refine wc_seq ?_
    refine wc_region ?_
    refine wl_move rfl rfl ?_
    refine wl_move rfl rfl ?_
    refine wl_move rfl rfl ?_
    refine wl_move rfl rfl ?_
    refine wl_nilCheck rfl rfl ?_
    refine wl_fieldAddr rfl fo_109_2 rfl ?_
    refine wl_load rfl ag_3 (by first | assumption | exact hS13.cell 0 rfl rfl) rfl ?_
    refine wl_indexAddrA _ Tryz.underlying111 rfl rfl (by first | rfl | omega) (by omega) sz_3 rfl ?_
    have hg := (hG.sat hS13 2 rfl).off h12n
    refine wl_load rfl ag_3 (by first | assumption | exact hS13.cell 0 rfl rfl) rfl ?_
    refine wl_move rfl rfl ?_
    have hC14 := hS13.split [1] [false, true, false] rfl; dsimp only [selF, pickA, nthA, List.cons_append, List.nil_append] at hC14
    refine wl_call cal_31 rfl (dreadT hC14 f (slotOff b0.toNat) n) rfl ?_
    rintro e w14 ⟨_, rfl, rfl, hS14⟩; refine ⟨_, rfl, ?_⟩
    replace hS14 := hS14.join rfl; dsimp only [List.dropLast, List.cons_append, List.nil_append] at hS14; clear hC14
    clear hS13
    have hE2 : ReadE D f (slotOff b0.toNat) n = 0 := ReadE_same hE (slotOff_pos _) (by omega)
    rw [hE2]
    refine wl_move rfl rfl ?_
    refine wl_extract rfl rfl rfl ?_
    refine wl_extract rfl rfl rfl ?_
    refine wl_nilCheck rfl rfl ?_
    refine wl_fieldAddr rfl fo_109_3 rfl ?_
    first | (refine wl_store hS14 rfl rfl sz_9 (by first | rfl | assumption) (i := 1) rfl (by first | decide | exact Nat.le_of_ble_eq_true rfl | (simp; done) | omega) ?_)
    intro w15 hS16; dsimp only [List.set] at hS16
    clear hS14
    refine wl_assign rfl rfl ?_
    refine wl_nil ?_
    have hE2 : ReadE D f (slotOff b0.toNat) n = 0 := ReadE_same hE (slotOff_pos _) (by omega)
    refine qs_seq ?_
    refine wc_sub (L' := [(8, _), (6, _), (9, _)]) (.cons rfl (.cons rfl (.cons rfl .nil))) ?_
    refine wc_seq ?_
    refine wc_seq ?_
    refine wc_region ?_
    refine wl_move rfl rfl ?_
    refine wl_eql rfl rfl rfl ?_
    refine wl_move rfl rfl ?_
    refine wl_splitD 82 rfl (fun h17 => ?_) (fun h17 => ?_)
    · skip
      refine wl_guard rfl rfl (decide_eq_true h17) ?_
      refine wl_move rfl rfl ?_
      refine wl_guard rfl rfl (decide_eq_true h17) ?_
      refine wl_nilCheck rfl rfl ?_
      refine wl_guard rfl rfl (decide_eq_true h17) ?_
      refine wl_fieldAddr rfl fo_109_3 rfl ?_
      refine wl_guard rfl rfl (decide_eq_true h17) ?_
      refine wl_load rfl ag_9 (by first | assumption | exact hS16.cell 1 rfl rfl) rfl ?_
      refine wl_guard rfl rfl (decide_eq_true h17) ?_
      refine wl_lenS Tryz.underlying9 rfl rfl ?_
      refine wl_guard rfl rfl (decide_eq_true h17) ?_
      refine wl_move rfl rfl ?_
      refine wl_guard rfl rfl (decide_eq_true h17) ?_
      refine wl_lss rfl rfl rfl ?_
      refine wl_pickT rfl (decide_eq_true h17) rfl rfl ?_
      refine wl_nil ?_
      refine qs_seq ?_
      refine wc_sub (L' := [(90, _), (8, _), (6, _)]) (.cons rfl (.cons rfl (.cons rfl .nil))) ?_
      refine wc_condD rfl (fun h18 => ?_) (fun h18 => ?_)
      · skip
        refine wc_region ?_
        refine wl_assign rfl rfl ?_
        refine wl_nil ?_
        refine qs_seq ?_
        refine wc_seq ?_
        refine wc_seq ?_
        refine wc_region ?_
        refine wl_move rfl rfl ?_
        refine wl_neq rfl rfl rfl ?_
        refine wl_nil ?_
        refine qs_seq ?_
        refine wc_condD rfl (fun h19 => ?_) (fun h19 => ?_)
        · skip
          refine wc_seq ?_
          refine wc_region ?_
          refine wl_move rfl rfl ?_
          refine wl_assign rfl rfl ?_
          refine wl_assign rfl rfl ?_
          refine wl_nil ?_
          refine qs_seq ?_
          refine wc_ret ?_
          refine qs_then_ret ?_
          refine fin2 (.inr rfl) rfl rfl rfl ?_
          exact ⟨_, rfl, .inr ⟨(open_cut hE hSl (by omega)).1, by rw [(open_cut hE hSl (by omega)).2], hS16.pick [0, 2] rfl⟩⟩
        refine wc_skip ?_
        refine qs_seq ?_
        refine wc_seq ?_
        refine wc_region ?_
        refine wl_move rfl rfl ?_
        refine wl_assign rfl rfl ?_
        refine wl_assign rfl rfl ?_
        refine wl_nil ?_
        refine qs_seq ?_
        refine wc_ret ?_
        refine fin2 (.inr rfl) rfl rfl rfl ?_
        exact absurd (by decide) h19
      refine wc_skip ?_
      refine qs_seq ?_
      refine wc_seq ?_
      refine wc_seq ?_
      refine wc_region ?_
      refine wl_move rfl rfl ?_
      refine wl_neq rfl rfl rfl ?_
      refine wl_nil ?_
      refine qs_seq ?_
      refine wc_condD rfl (fun h20 => ?_) (fun h20 => ?_)
      · skip
        refine wc_seq ?_
        refine wc_region ?_
        refine wl_move rfl rfl ?_
        refine wl_assign rfl rfl ?_
        refine wl_assign rfl rfl ?_
        refine wl_nil ?_
        refine qs_seq ?_
        refine wc_ret ?_
        refine qs_then_ret ?_
        refine fin2 (.inr rfl) rfl rfl rfl ?_
        exact absurd rfl h20
      refine wc_skip ?_
      refine qs_seq ?_
      refine wc_seq ?_
      refine wc_region ?_
      refine wl_move rfl rfl ?_
      refine wl_assign rfl rfl ?_
      refine wl_assign rfl rfl ?_
      refine wl_nil ?_
      refine qs_seq ?_
      refine wc_ret ?_
      refine fin2 (.inr rfl) rfl rfl rfl ?_
      exact ⟨_, rfl, .inl ⟨(open_ok hE hSl (by omega)).1, _, rfl, by rw [(open_ok hE hSl (by omega)).2]; exact hS16.pick [1, 0, 2] rfl⟩⟩
    refine wl_unwanted rfl rfl (decide_eq_false h17) rfl ?_
    refine wl_unwanted rfl rfl (decide_eq_false h17) rfl ?_
    refine wl_unwanted rfl rfl (decide_eq_false h17) rfl ?_
    refine wl_unwanted rfl rfl (decide_eq_false h17) rfl ?_
    refine wl_unwanted rfl rfl (decide_eq_false h17) rfl ?_
    refine wl_unwanted rfl rfl (decide_eq_false h17) rfl ?_
    refine wl_unwanted rfl rfl (decide_eq_false h17) rfl ?_
    refine wl_pickF rfl (decide_eq_false h17) rfl rfl ?_
    refine wl_nil ?_
    refine qs_seq ?_
    refine wc_sub (L' := [(90, _), (8, _), (6, _)]) (.cons rfl (.cons rfl (.cons rfl .nil))) ?_
    refine wc_condF rfl ?_
    refine wc_skip ?_
    refine qs_seq ?_
    refine wc_seq ?_
    refine wc_seq ?_
    refine wc_region ?_
    refine wl_move rfl rfl ?_
    refine wl_neq rfl rfl rfl ?_
    refine wl_nil ?_
    refine qs_seq ?_
    refine wc_condD rfl (fun h21 => ?_) (fun h21 => ?_)
    · skip
      refine wc_seq ?_
      refine wc_region ?_
      refine wl_move rfl rfl ?_
      refine wl_assign rfl rfl ?_
      refine wl_assign rfl rfl ?_
      refine wl_nil ?_
      refine qs_seq ?_
      refine wc_ret ?_
      refine qs_then_ret ?_
      refine fin2 (.inr rfl) rfl rfl rfl ?_
      exact absurd rfl h21
    refine wc_skip ?_
    refine qs_seq ?_
    refine wc_seq ?_
    refine wc_region ?_
    refine wl_move rfl rfl ?_
    refine wl_assign rfl rfl ?_
    refine wl_assign rfl rfl ?_
    refine wl_nil ?_
    refine qs_seq ?_
    refine wc_ret ?_
    refine fin2 (.inr rfl) rfl rfl rfl ?_
    exact ⟨_, rfl, .inl ⟨(open_ok hE hSl (by omega)).1, _, rfl, by rw [(open_ok hE hSl (by omega)).2]; exact hS16.pick [1, 0, 2] rfl⟩⟩
  have h12 : b0 = 1 ∨ b0 = 2 := .inl (u8_eq (k := 1) (by omega) (Decidable.not_not.1 h7))
  refine wl_unwanted rfl rfl (decide_eq_false h7) rfl ?_
  refine wl_unwanted rfl rfl (decide_eq_false h7) rfl ?_
  refine wl_unwanted rfl rfl (decide_eq_false h7) rfl ?_
  refine wl_guard rfl rfl (decide_eq_false h6) ?_
  refine wl_pickF rfl (decide_eq_false h7) rfl rfl ?_
  refine wl_pickF rfl (decide_eq_false h6) rfl rfl ?_
  refine wl_nil ?_
  refine qs_seq ?_
  refine wc_sub (L' := [(44, _), (8, _), (7, _), (6, _), (5, _), (4, _), (0, _), (1, _)]) (.cons rfl (.cons rfl (.cons rfl (.cons rfl (.cons rfl (.cons rfl (.cons rfl (.cons rfl .nil)))))))) ?_
  refine wc_condF rfl ?_
  refine wc_skip ?_
  refine qs_seq ?_
  refine wc_seq ?_
  refine wc_region ?_
  refine wl_assign rfl rfl ?_
  refine wl_nil ?_
  refine qs_seq ?_
  refine wc_seq ?_
  refine wc_seq ?_
  refine wc_region ?_
  refine wl_assign rfl rfl ?_
  refine wl_nil ?_
  refine qs_seq ?_
  refine wc_block ?_
  refine wc_loop (fun K0 E0 W0 => ∃ (i : Nat), K0 = 1 * i ∧ E0 = [(0, ptrV p 0), (1, intV f), (6, ptrV b1 0), (7, strV [b0, b1_, b2, b3, b4]), (9, intV (acc b1_ b2 b3 b4 i : Nat)), (10, intV (i : Int))] ∧ Sat W0 [blkT b1 (cellV p (newC f)), dT p D, F] ∧ (i ≤ 4)) (L0 := [(0, _), (1, _), (6, _), (7, _), (9, _), (10, _)]) (4) (.cons rfl (.cons rfl (.cons rfl (.cons rfl (.cons rfl (.cons rfl .nil)))))) ⟨4, rfl, rfl, hS2.reorder [1, 0, 2] rfl, by omega⟩ ?_
  rintro _ _ w22 ⟨i, rfl, rfl, hS22, hi⟩
  refine wc_seq ?_
  refine wc_seq ?_
  refine wc_region ?_
  refine wl_move rfl rfl ?_
  refine wl_gtr rfl rfl rfl ?_
  refine wl_nil ?_
  refine qs_seq ?_
  refine wc_condD rfl (fun h23 => ?_) (fun h23 => ?_)
  · skip
    obtain ⟨c, hc⟩ : ∃ c, [b0, b1_, b2, b3, b4][i]? = some c := ⟨_, List.getElem?_eq_getElem (by simp; omega)⟩
    have hacc := acc_step (by omega) hi hc
    have hal := acc_lt2 (b1 := b1_) (b2 := b2) (b3 := b3) (b4 := b4) (show 0 < i by omega)
    have hcl := u8_lt c
    have hi1 : ((i - 1 : Nat) : Int) = (i : Int) - 1 := by omega
    refine wc_skip ?_
    refine qs_seq ?_
    refine wc_seq ?_
    refine wc_block ?_
    refine wc_region ?_
    refine wl_move rfl rfl ?_
    refine wl_shl 8 rfl rfl rfl rfl (q := 256) rfl (by omega) (by omega) rfl ?_
    refine wl_move rfl rfl ?_
    refine wl_move rfl rfl ?_
    refine wl_indexS _ Tryz.underlying9 rfl rfl (by first | rfl | omega) (by first | assumption | rfl) rfl ?_
    refine wl_convU8 Tryz.underlying5 Tryz.underlying3 rfl rfl ?_
    refine wl_or 8 (acc b1_ b2 b3 b4 i) rfl rfl (by first | rfl | omega) (by constructor <;> omega) (by omega) rfl ?_
    refine wl_assign rfl rfl ?_
    refine wl_nil ?_
    refine qs_block_normal ?_
    refine qs_seq ?_
    refine wc_sub (L' := [(9, _), (0, _), (1, _), (6, _), (7, _), (10, _)]) (.cons rfl (.cons rfl (.cons rfl (.cons rfl (.cons rfl (.cons rfl .nil)))))) ?_
    refine wc_region ?_
    refine wl_move rfl rfl ?_
    refine wl_sub' rfl rfl (by omega) (by omega) rfl ?_
    refine wl_assign rfl rfl ?_
    refine wl_nil ?_
    exact qs_round (L1 := [(0, _), (1, _), (6, _), (7, _), (9, intV ((acc b1_ b2 b3 b4 (i - 1) : Nat) : Int)), (10, intV ((i - 1 : Nat) : Int))]) (.cons rfl (.cons rfl (.cons rfl (.cons rfl (.cons (by rw [hacc]; rfl) (.cons (by rw [hi1]; rfl) .nil)))))) (k1 := 1 * (i - 1)) (by omega) ⟨i - 1, rfl, rfl, hS22, by omega⟩
  obtain rfl : i = 0 := by omega
  refine wc_exit ?_
  refine qs_then_exit ?_
  refine qs_then_exit ?_
  refine qs_block_exit ?_
  refine qs_seq ?_
  refine wc_seq ?_
  refine wc_seq ?_
  refine wc_region ?_
  refine wl_move rfl rfl ?_
  refine wl_gtr rfl rfl rfl ?_
  refine wl_nil ?_
  refine qs_seq ?_
  refine wc_condD rfl (fun h24 => ?_) (fun h24 => ?_)
  · skip
    refine wc_seq ?_
    refine wc_region ?_
    refine wl_assign rfl rfl ?_
    refine wl_assign rfl rfl ?_
    refine wl_nil ?_
    refine qs_seq ?_
    refine wc_sub (L' := [(5, _), (4, _), (0, _), (1, _), (6, _), (7, _), (9, _)]) (.cons rfl (.cons rfl (.cons rfl (.cons rfl (.cons rfl (.cons rfl (.cons rfl .nil))))))) ?_
    refine wc_ret ?_
    refine qs_then_ret ?_
    refine fin2 (.inr rfl) rfl rfl rfl ?_
    exact ⟨_, rfl, .inr ⟨(open_bad hE (by rw [← hH]; exact hdr_bad hb0 (by rw [← acc_end]; omega))).1, by rw [(open_bad hE (by rw [← hH]; exact hdr_bad hb0 (by rw [← acc_end]; omega))).2], hS22.pick [1, 2] rfl⟩⟩
  have hn : hdrN b1_ b2 b3 b4 ≤ 65536 := by rw [← acc_end]; omega
  have hSl : hdrOf (ReadS D f 0 5) = .slot b0.toNat (hdrN b1_ b2 b3 b4) := by rw [← hH]; exact hdr_ok h12 hn
  rw [acc_end]
  obtain ⟨n, hN⟩ : ∃ n, n = hdrN b1_ b2 b3 b4 := ⟨_, rfl⟩
  rw [← hN] at hSl hn ⊢
  have h12n : b0.toNat = 1 ∨ b0.toNat = 2 := by rcases h12 with rfl | rfl <;> simp
  refine wc_skip ?_
  refine qs_seq ?_
  refine wc_seq ?_
  refine wc_region ?_
  refine wl_move rfl rfl ?_
  refine wl_move rfl rfl ?_
  refine wl_indexS _ Tryz.underlying9 rfl rfl (by first | rfl | omega) (by first | assumption | rfl) rfl ?_
  refine wl_convU8 Tryz.underlying5 Tryz.underlying3 rfl rfl ?_
  refine wl_nilCheck rfl rfl ?_
  refine wl_fieldAddr rfl fo_109_2 rfl ?_
  first | (refine wl_store hS22 rfl rfl sz_3 (by first | rfl | assumption) (i := 0) rfl (by first | decide | exact Nat.le_of_ble_eq_true rfl | (simp; done) | omega) ?_)
  intro w25 hS26; dsimp only [List.set] at hS26
  clear hS22
  refine wl_nil ?_
  refine qs_seq ?_
  refine wc_sub (L' := [(0, _), (1, _), (6, _), (9, _)]) (.cons rfl (.cons rfl (.cons rfl (.cons rfl .nil)))) ?_
  refine wc_seq ?_
  refine wc_region ?_
  refine wl_move rfl rfl ?_
  refine wl_move rfl rfl ?_
  refine wl_move rfl rfl ?_
  refine wl_move rfl rfl ?_
  refine wl_nilCheck rfl rfl ?_
  refine wl_fieldAddr rfl fo_109_2 rfl ?_
  refine wl_load rfl ag_3 (by first | assumption | exact hS26.cell 0 rfl rfl) rfl ?_
  refine wl_indexAddrA _ Tryz.underlying111 rfl rfl (by first | rfl | omega) (by omega) sz_3 rfl ?_
  have hg := (hG.sat hS26 2 rfl).off h12n
  refine wl_load rfl ag_3 (by first | assumption | exact hS26.cell 0 rfl rfl) rfl ?_
  refine wl_move rfl rfl ?_
  have hC27 := hS26.split [1] [false, true, false] rfl; dsimp only [selF, pickA, nthA, List.cons_append, List.nil_append] at hC27
  refine wl_call cal_31 rfl (dreadT hC27 f (slotOff b0.toNat) n) rfl ?_
  rintro e w27 ⟨_, rfl, rfl, hS27⟩; refine ⟨_, rfl, ?_⟩
  replace hS27 := hS27.join rfl; dsimp only [List.dropLast, List.cons_append, List.nil_append] at hS27; clear hC27
  clear hS26
  have hE2 : ReadE D f (slotOff b0.toNat) n = 0 := ReadE_same hE (slotOff_pos _) (by omega)
  rw [hE2]
  refine wl_move rfl rfl ?_
  refine wl_extract rfl rfl rfl ?_
  refine wl_extract rfl rfl rfl ?_
  refine wl_nilCheck rfl rfl ?_
  refine wl_fieldAddr rfl fo_109_3 rfl ?_
  first | (refine wl_store hS27 rfl rfl sz_9 (by first | rfl | assumption) (i := 1) rfl (by first | decide | exact Nat.le_of_ble_eq_true rfl | (simp; done) | omega) ?_)
  intro w28 hS29; dsimp only [List.set] at hS29
  clear hS27
  refine wl_assign rfl rfl ?_
  refine wl_nil ?_
  have hE2 : ReadE D f (slotOff b0.toNat) n = 0 := ReadE_same hE (slotOff_pos _) (by omega)
  refine qs_seq ?_
  refine wc_sub (L' := [(8, _), (6, _), (9, _)]) (.cons rfl (.cons rfl (.cons rfl .nil))) ?_
  refine wc_seq ?_
  refine wc_seq ?_
  refine wc_region ?_
  refine wl_move rfl rfl ?_
  refine wl_eql rfl rfl rfl ?_
  refine wl_move rfl rfl ?_
  refine wl_splitD 82 rfl (fun h30 => ?_) (fun h30 => ?_)
  · skip
    refine wl_guard rfl rfl (decide_eq_true h30) ?_
    refine wl_move rfl rfl ?_
    refine wl_guard rfl rfl (decide_eq_true h30) ?_
    refine wl_nilCheck rfl rfl ?_
    refine wl_guard rfl rfl (decide_eq_true h30) ?_
    refine wl_fieldAddr rfl fo_109_3 rfl ?_
    refine wl_guard rfl rfl (decide_eq_true h30) ?_
    refine wl_load rfl ag_9 (by first | assumption | exact hS29.cell 1 rfl rfl) rfl ?_
    refine wl_guard rfl rfl (decide_eq_true h30) ?_
    refine wl_lenS Tryz.underlying9 rfl rfl ?_
    refine wl_guard rfl rfl (decide_eq_true h30) ?_
    refine wl_move rfl rfl ?_
    refine wl_guard rfl rfl (decide_eq_true h30) ?_
    refine wl_lss rfl rfl rfl ?_
    refine wl_pickT rfl (decide_eq_true h30) rfl rfl ?_
    refine wl_nil ?_
    refine qs_seq ?_
    refine wc_sub (L' := [(90, _), (8, _), (6, _)]) (.cons rfl (.cons rfl (.cons rfl .nil))) ?_
    refine wc_condD rfl (fun h31 => ?_) (fun h31 => ?_)
    · skip
      refine wc_region ?_
      refine wl_assign rfl rfl ?_
      refine wl_nil ?_
      refine qs_seq ?_
      refine wc_seq ?_
      refine wc_seq ?_
      refine wc_region ?_
      refine wl_move rfl rfl ?_
      refine wl_neq rfl rfl rfl ?_
      refine wl_nil ?_
      refine qs_seq ?_
      refine wc_condD rfl (fun h32 => ?_) (fun h32 => ?_)
      · skip
        refine wc_seq ?_
        refine wc_region ?_
        refine wl_move rfl rfl ?_
        refine wl_assign rfl rfl ?_
        refine wl_assign rfl rfl ?_
        refine wl_nil ?_
        refine qs_seq ?_
        refine wc_ret ?_
        refine qs_then_ret ?_
        refine fin2 (.inr rfl) rfl rfl rfl ?_
        exact ⟨_, rfl, .inr ⟨(open_cut hE hSl (by omega)).1, by rw [(open_cut hE hSl (by omega)).2], hS29.pick [0, 2] rfl⟩⟩
      refine wc_skip ?_
      refine qs_seq ?_
      refine wc_seq ?_
      refine wc_region ?_
      refine wl_move rfl rfl ?_
      refine wl_assign rfl rfl ?_
      refine wl_assign rfl rfl ?_
      refine wl_nil ?_
      refine qs_seq ?_
      refine wc_ret ?_
      refine fin2 (.inr rfl) rfl rfl rfl ?_
      exact absurd (by decide) h32
    refine wc_skip ?_
    refine qs_seq ?_
    refine wc_seq ?_
    refine wc_seq ?_
    refine wc_region ?_
    refine wl_move rfl rfl ?_
    refine wl_neq rfl rfl rfl ?_
    refine wl_nil ?_
    refine qs_seq ?_
    refine wc_condD rfl (fun h33 => ?_) (fun h33 => ?_)
    · skip
      refine wc_seq ?_
      refine wc_region ?_
      refine wl_move rfl rfl ?_
      refine wl_assign rfl rfl ?_
      refine wl_assign rfl rfl ?_
      refine wl_nil ?_
      refine qs_seq ?_
      refine wc_ret ?_
      refine qs_then_ret ?_
      refine fin2 (.inr rfl) rfl rfl rfl ?_
      exact absurd rfl h33
    refine wc_skip ?_
    refine qs_seq ?_
    refine wc_seq ?_
    refine wc_region ?_
    refine wl_move rfl rfl ?_
    refine wl_assign rfl rfl ?_
    refine wl_assign rfl rfl ?_
    refine wl_nil ?_
    refine qs_seq ?_
    refine wc_ret ?_
    refine fin2 (.inr rfl) rfl rfl rfl ?_
    exact ⟨_, rfl, .inl ⟨(open_ok hE hSl (by omega)).1, _, rfl, by rw [(open_ok hE hSl (by omega)).2]; exact hS29.pick [1, 0, 2] rfl⟩⟩
  refine wl_unwanted rfl rfl (decide_eq_false h30) rfl ?_
  refine wl_unwanted rfl rfl (decide_eq_false h30) rfl ?_
  refine wl_unwanted rfl rfl (decide_eq_false h30) rfl ?_
  refine wl_unwanted rfl rfl (decide_eq_false h30) rfl ?_
  refine wl_unwanted rfl rfl (decide_eq_false h30) rfl ?_
  refine wl_unwanted rfl rfl (decide_eq_false h30) rfl ?_
  refine wl_unwanted rfl rfl (decide_eq_false h30) rfl ?_
  refine wl_pickF rfl (decide_eq_false h30) rfl rfl ?_
  refine wl_nil ?_
  refine qs_seq ?_
  refine wc_sub (L' := [(90, _), (8, _), (6, _)]) (.cons rfl (.cons rfl (.cons rfl .nil))) ?_
  refine wc_condF rfl ?_
  refine wc_skip ?_
  refine qs_seq ?_
  refine wc_seq ?_
  refine wc_seq ?_
  refine wc_region ?_
  refine wl_move rfl rfl ?_
  refine wl_neq rfl rfl rfl ?_
  refine wl_nil ?_
  refine qs_seq ?_
  refine wc_condD rfl (fun h34 => ?_) (fun h34 => ?_)
  · skip
    refine wc_seq ?_
    refine wc_region ?_
    refine wl_move rfl rfl ?_
    refine wl_assign rfl rfl ?_
    refine wl_assign rfl rfl ?_
    refine wl_nil ?_
    refine qs_seq ?_
    refine wc_ret ?_
    refine qs_then_ret ?_
    refine fin2 (.inr rfl) rfl rfl rfl ?_
    exact absurd rfl h34
  refine wc_skip ?_
  refine qs_seq ?_
  refine wc_seq ?_
  refine wc_region ?_
  refine wl_move rfl rfl ?_
  refine wl_assign rfl rfl ?_
  refine wl_assign rfl rfl ?_
  refine wl_nil ?_
  refine qs_seq ?_
  refine wc_ret ?_
  refine fin2 (.inr rfl) rfl rfl rfl ?_
  exact ⟨_, rfl, .inl ⟨(open_ok hE hSl (by omega)).1, _, rfl, by rw [(open_ok hE hSl (by omega)).2]; exact hS29.pick [1, 0, 2] rfl⟩⟩
end Go.Proofs.YtfmkodmmbgibgaaGreatDoor
