/- the reference of cell: Open -/
import Derived.Test.YtleaahajkncnpaaDoorCb
namespace Go.Proofs.YtleaahajkncnpaaDoor
open Go.RowKit M
set_option linter.unusedVariables false
theorem sum_eq (b1 b2 b3 b4 : UInt8) : ((b1.toNat : Int) + 256 * (b2.toNat : Int) + 65536 * (b3.toNat : Int) + 16777216 * (b4.toNat : Int)).toNat = hdrN b1 b2 b3 b4 := by simp only [hdrN]; omega
set_option maxRecDepth 100000 in
theorem openR_sp {w : World} {p : Nat} {D : DS} {F : Th} (hS : Sat w [rT p D, F]) (f : Int) :
    Calls Tryd.prog 14 #[ptrV p 0, intV f] w (Ret fun v w' => (openE D f = 0 ∧ ∃ c, v = .tuple #[ptrV c 0, intV 0] ∧ Sat w' [blkT c (cellV p (openC D f)), rT p D, F]) ∨ (openE D f ≠ 0 ∧ v = .tuple #[.pointer none, intV (openE D f)] ∧ Sat w' [rT p D, F])) := by
  refine calls_enter Tryd.func14 rfl Tryd.ntmps14 rfl ?_
  refine wc_seq ?_
  refine wc_region ?_
  refine wl_assign rfl rfl ?_
  refine wl_assign rfl rfl ?_
  refine wl_nil ?_
  refine qs_seq ?_
  refine wc_seq ?_
  refine wc_region ?_
  refine wl_move rfl rfl ?_
  refine wl_move rfl rfl ?_
  have hC1 := hS.split [0] [true, false] rfl; dsimp only [selF, pickA, nthA, List.cons_append, List.nil_append] at hC1
  refine wl_call cal_32 rfl (readRT hC1 f 0 5) rfl ?_
  rintro e w1 ⟨_, rfl, rfl, hS1⟩; refine ⟨_, rfl, ?_⟩
  replace hS1 := hS1.join rfl; dsimp only [List.dropLast, List.cons_append, List.nil_append] at hS1; clear hC1
  refine wl_move rfl rfl ?_
  refine wl_extract rfl rfl rfl ?_
  refine wl_extract rfl rfl rfl ?_
  refine wl_assign rfl rfl ?_
  refine wl_assign rfl rfl ?_
  refine wl_nil ?_
  obtain ⟨h, hH⟩ : ∃ h, h = ReadS D f 0 5 := ⟨_, rfl⟩
  rw [← hH]
  have hh5 : (h.length : Int) ≤ 5 := by have := ReadS_len (D := D) (f := f) (a := 0) (n := 5); rw [← hH] at this; omega
  refine qs_seq ?_
  refine wc_sub (L' := [(7, _), (6, _), (5, _), (4, _), (0, _), (1, _)]) (.cons rfl (.cons rfl (.cons rfl (.cons rfl (.cons rfl (.cons rfl .nil)))))) ?_
  refine wc_seq ?_
  refine wc_seq ?_
  refine wc_region ?_
  refine wl_move rfl rfl ?_
  refine wl_neq rfl rfl rfl ?_
  refine wl_nil ?_
  refine qs_seq ?_
  refine wc_condD rfl (fun h2 => ?_) (fun h2 => ?_)
  · skip
    have hE : ReadE D f 0 5 ≠ 0 := h2
    refine wc_seq ?_
    refine wc_region ?_
    refine wl_move rfl rfl ?_
    refine wl_assign rfl rfl ?_
    refine wl_assign rfl rfl ?_
    refine wl_nil ?_
    refine qs_seq ?_
    refine wc_ret ?_
    refine qs_then_ret ?_
    refine fin2 (.inr rfl) rfl rfl rfl ?_
    exact ⟨_, rfl, .inr ⟨(open_err hE).1, by rw [(open_err hE).2], hS1.pick [0, 1] rfl⟩⟩
  · skip
    have hE : ReadE D f 0 5 = 0 := Decidable.not_not.1 h2
    refine wc_skip ?_
    refine qs_seq ?_
    refine wc_seq ?_
    refine wc_region ?_
    refine wl_move rfl rfl ?_
    refine wl_move rfl rfl ?_
    refine wl_buildS rfl pl_74_0_1 asz_74 zr_74 rfl rfl ?_
    refine wl_box hS1 rfl rfl rfl ?_
    intro b3 w3 hS3
    clear hS1
    refine wl_assign rfl rfl ?_
    refine wl_nil ?_
    refine qs_seq ?_
    refine wc_sub (L' := [(8, _), (7, _), (6, _), (5, _), (4, _), (0, _), (1, _)]) (.cons rfl (.cons rfl (.cons rfl (.cons rfl (.cons rfl (.cons rfl (.cons rfl .nil))))))) ?_
    refine wc_seq ?_
    refine wc_seq ?_
    refine wc_region ?_
    refine wl_move rfl rfl ?_
    refine wl_eqlS rfl rfl rfl ?_
    refine wl_nil ?_
    refine qs_seq ?_
    refine wc_condD rfl (fun h4 => ?_) (fun h4 => ?_)
    · skip
      have hh0 : h = [] := h4
      refine wc_seq ?_
      refine wc_region ?_
      refine wl_move rfl rfl ?_
      refine wl_assign rfl rfl ?_
      refine wl_assign rfl rfl ?_
      refine wl_nil ?_
      refine qs_seq ?_
      refine wc_ret ?_
      refine qs_then_ret ?_
      refine fin2 (.inr rfl) rfl rfl rfl ?_
      subst hh0
      exact ⟨_, rfl, .inl ⟨(open_none hE (by rw [← hH]; exact hdr_none (.inl rfl))).1, _, rfl, by rw [(open_none hE (by rw [← hH]; exact hdr_none (.inl rfl))).2]; exact hS3.pick [0, 1, 2] rfl⟩⟩
    · skip
      obtain ⟨b0, r, rfl⟩ := List.exists_cons_of_ne_nil h4
      refine wc_skip ?_
      refine qs_seq ?_
      refine wc_seq ?_
      refine wc_seq ?_
      refine wc_region ?_
      refine wl_move rfl rfl ?_
      refine wl_indexS _ Tryd.underlying9 rfl rfl (by first | rfl | omega) (by first | assumption | rfl) rfl ?_
      refine wl_eql rfl rfl rfl ?_
      refine wl_nil ?_
      refine qs_seq ?_
      refine wc_sub (L' := [(28, _), (8, _), (7, _), (6, _), (5, _), (4, _), (0, _), (1, _)]) (.cons rfl (.cons rfl (.cons rfl (.cons rfl (.cons rfl (.cons rfl (.cons rfl (.cons rfl .nil)))))))) ?_
      refine wc_condD rfl (fun h5 => ?_) (fun h5 => ?_)
      · skip
        have hb00 : b0 = 0 := u8_eq (k := 0) (by omega) h5
        refine wc_seq ?_
        refine wc_region ?_
        refine wl_move rfl rfl ?_
        refine wl_assign rfl rfl ?_
        refine wl_assign rfl rfl ?_
        refine wl_nil ?_
        refine qs_seq ?_
        refine wc_ret ?_
        refine qs_then_ret ?_
        refine fin2 (.inr rfl) rfl rfl rfl ?_
        exact ⟨_, rfl, .inl ⟨(open_none hE (by rw [← hH]; exact hdr_none (.inr ⟨r, by rw [hb00]⟩))).1, _, rfl, by rw [(open_none hE (by rw [← hH]; exact hdr_none (.inr ⟨r, by rw [hb00]⟩))).2]; exact hS3.pick [0, 1, 2] rfl⟩⟩
      · skip
        have hb0 : b0 ≠ 0 := u8_ne (k := 0) (by omega) h5
        refine wc_skip ?_
        refine qs_seq ?_
        refine wc_seq ?_
        refine wc_seq ?_
        refine wc_region ?_
        refine wl_move rfl rfl ?_
        refine wl_lenS Tryd.underlying9 rfl rfl ?_
        refine wl_lss rfl rfl rfl ?_
        refine wl_nil ?_
        refine qs_seq ?_
        refine wc_sub (L' := [(32, _), (8, _), (7, _), (6, _), (5, _), (4, _), (0, _), (1, _)]) (.cons rfl (.cons rfl (.cons rfl (.cons rfl (.cons rfl (.cons rfl (.cons rfl (.cons rfl .nil)))))))) ?_
        refine wc_condD rfl (fun h6 => ?_) (fun h6 => ?_)
        · skip
          have hlen5 := h6
          refine wc_seq ?_
          refine wc_region ?_
          refine wl_assign rfl rfl ?_
          refine wl_assign rfl rfl ?_
          refine wl_nil ?_
          refine qs_seq ?_
          refine wc_ret ?_
          refine qs_then_ret ?_
          refine fin2 (.inr rfl) rfl rfl rfl ?_
          exact ⟨_, rfl, .inr ⟨(open_bad hE (by rw [← hH]; exact hdr_short hb0 (by simp at hlen5; omega))).1, by rw [(open_bad hE (by rw [← hH]; exact hdr_short hb0 (by simp at hlen5; omega))).2], hS3.pick [1, 2] rfl⟩⟩
        · skip
          have hlen5 : r.length = 4 := by simp at hh5; have := h6; simp at this; omega
          obtain ⟨b1_, b2, b3, b4, rfl⟩ : ∃ b1 b2 b3 b4, r = [b1, b2, b3, b4] := by match r, hlen5 with | [b1, b2, b3, b4], _ => exact ⟨_, _, _, _, rfl⟩
          have hl1 := u8_lt b1_; have hl2 := u8_lt b2; have hl3 := u8_lt b3; have hl4 := u8_lt b4
          refine wc_skip ?_
          refine qs_seq ?_
          refine wc_seq ?_
          have hS7 := hS3.drew
          refine wc_draw [0, 1, 2, 3, 4, 5, 6, 7, 8, 9, 10, 11, 12, 13, 14, 15, 16, 17, 18] [] mix (by kernel_rfl) ?_
          refine vc_p rfl rfl rfl (fun _ => (ev_move rfl)) ?_
          refine vc_q rfl rfl rfl (ev_indexS _ Tryd.underlying9 rfl rfl (by first | rfl | omega) (by first | assumption | rfl)) ?_
          refine vc_p rfl rfl rfl (fun _ => (ev_convU8 Tryd.underlying5 Tryd.underlying3 rfl)) ?_
          refine vc_p rfl rfl rfl (fun _ => (ev_move rfl)) ?_
          refine vc_q rfl rfl rfl (ev_indexS _ Tryd.underlying9 rfl rfl (by first | rfl | omega) (by first | assumption | rfl)) ?_
          refine vc_p rfl rfl rfl (fun _ => (ev_convU8 Tryd.underlying5 Tryd.underlying3 rfl)) ?_
          refine vc_p rfl rfl rfl (fun _ => (ev_mul rfl rfl (by omega) (by omega))) ?_
          refine vc_p rfl rfl rfl (fun _ => (ev_add rfl rfl (by omega) (by omega))) ?_
          refine vc_p rfl rfl rfl (fun _ => (ev_move rfl)) ?_
          refine vc_q rfl rfl rfl (ev_indexS _ Tryd.underlying9 rfl rfl (by first | rfl | omega) (by first | assumption | rfl)) ?_
          refine vc_p rfl rfl rfl (fun _ => (ev_convU8 Tryd.underlying5 Tryd.underlying3 rfl)) ?_
          refine vc_p rfl rfl rfl (fun _ => (ev_mul rfl rfl (by omega) (by omega))) ?_
          refine vc_p rfl rfl rfl (fun _ => (ev_add rfl rfl (by omega) (by omega))) ?_
          refine vc_p rfl rfl rfl (fun _ => (ev_move rfl)) ?_
          refine vc_q rfl rfl rfl (ev_indexS _ Tryd.underlying9 rfl rfl (by first | rfl | omega) (by first | assumption | rfl)) ?_
          refine vc_p rfl rfl rfl (fun _ => (ev_convU8 Tryd.underlying5 Tryd.underlying3 rfl)) ?_
          refine vc_p rfl rfl rfl (fun _ => (ev_mul rfl rfl (by omega) (by omega))) ?_
          refine vc_p rfl rfl rfl (fun _ => (ev_add rfl rfl (by omega) (by omega))) ?_
          refine vc_p rfl rfl rfl (fun _ => (ev_assign rfl)) ?_
          refine VC.nil ?_
          refine qs_seq ?_
          refine wc_sub (L' := [(9, _), (8, _), (7, _), (6, _), (5, _), (4, _), (0, _), (1, _)]) (.cons rfl (.cons rfl (.cons rfl (.cons rfl (.cons rfl (.cons rfl (.cons rfl (.cons rfl .nil)))))))) ?_
          refine wc_seq ?_
          refine wc_seq ?_
          refine wc_region ?_
          refine wl_move rfl rfl ?_
          refine wl_indexS _ Tryd.underlying9 rfl rfl (by first | rfl | omega) (by first | assumption | rfl) rfl ?_
          refine wl_neq rfl rfl rfl ?_
          refine wl_move rfl rfl ?_
          refine wl_splitD 54 rfl (fun h8 => ?_) (fun h8 => ?_)
          · skip
            have hn1 := u8_ne (k := 1) (by omega) h8
            refine wl_guard rfl rfl (decide_eq_true h8) ?_
            refine wl_move rfl rfl ?_
            refine wl_guard rfl rfl (decide_eq_true h8) ?_
            refine wl_indexS _ Tryd.underlying9 rfl rfl (by first | rfl | omega) (by first | assumption | rfl) rfl ?_
            refine wl_guard rfl rfl (decide_eq_true h8) ?_
            refine wl_neq rfl rfl rfl ?_
            refine wl_pickT rfl (decide_eq_true h8) rfl rfl ?_
            refine wl_move rfl rfl ?_
            refine wl_splitD 59 rfl (fun h9 => ?_) (fun h9 => ?_)
            · skip
              have hn2 := u8_ne (k := 2) (by omega) h9
              refine wl_unwanted rfl rfl (decide_eq_true h9) rfl ?_
              refine wl_unwanted rfl rfl (decide_eq_true h9) rfl ?_
              refine wl_pickT rfl (decide_eq_true h9) rfl rfl ?_
              refine wl_nil ?_
              refine qs_seq ?_
              refine wc_sub (L' := [(62, _), (9, _), (8, _), (7, _), (6, _), (5, _), (4, _), (0, _), (1, _)]) (.cons rfl (.cons rfl (.cons rfl (.cons rfl (.cons rfl (.cons rfl (.cons rfl (.cons rfl (.cons rfl .nil))))))))) ?_
              refine wc_condT rfl ?_
              refine wc_seq ?_
              refine wc_region ?_
              refine wl_assign rfl rfl ?_
              refine wl_assign rfl rfl ?_
              refine wl_nil ?_
              refine qs_seq ?_
              refine wc_ret ?_
              refine qs_then_ret ?_
              refine fin2 (.inr rfl) rfl rfl rfl ?_
              exact ⟨_, rfl, .inr ⟨(open_bad hE (by rw [← hH]; exact hdr_bad hb0 (by rintro ⟨h12, _⟩; rcases h12 with rfl | rfl <;> simp_all))).1, by rw [(open_bad hE (by rw [← hH]; exact hdr_bad hb0 (by rintro ⟨h12, _⟩; rcases h12 with rfl | rfl <;> simp_all))).2], hS7.pick [1, 2] rfl⟩⟩
            · skip
              have hq := h9
              refine wl_guard rfl rfl (decide_eq_false h9) ?_
              refine wl_move rfl rfl ?_
              refine wl_guard rfl rfl (decide_eq_false h9) ?_
              refine wl_gtr rfl rfl rfl ?_
              refine wl_pickF rfl (decide_eq_false h9) rfl rfl ?_
              refine wl_nil ?_
              refine qs_seq ?_
              refine wc_sub (L' := [(62, _), (9, _), (8, _), (7, _), (6, _), (5, _), (4, _), (0, _), (1, _)]) (.cons rfl (.cons rfl (.cons rfl (.cons rfl (.cons rfl (.cons rfl (.cons rfl (.cons rfl (.cons rfl .nil))))))))) ?_
              refine wc_condD rfl (fun h10 => ?_) (fun h10 => ?_)
              · skip
                refine wc_seq ?_
                refine wc_region ?_
                refine wl_assign rfl rfl ?_
                refine wl_assign rfl rfl ?_
                refine wl_nil ?_
                refine qs_seq ?_
                refine wc_ret ?_
                refine qs_then_ret ?_
                refine fin2 (.inr rfl) rfl rfl rfl ?_
                exact ⟨_, rfl, .inr ⟨(open_bad hE (by rw [← hH]; exact hdr_bad hb0 (by rw [← sum_eq]; omega))).1, by rw [(open_bad hE (by rw [← hH]; exact hdr_bad hb0 (by rw [← sum_eq]; omega))).2], hS7.pick [1, 2] rfl⟩⟩
              · skip
                have h12 : b0 = 1 ∨ b0 = 2 := .inr (u8_eq (k := 2) (by omega) (Decidable.not_not.1 hq))
                have hn : hdrN b1_ b2 b3 b4 ≤ 65536 := by rw [← sum_eq]; omega
                have hSl : hdrOf (ReadS D f 0 5) = .slot b0.toNat (hdrN b1_ b2 b3 b4) := by rw [← hH]; exact hdr_ok h12 hn
                have hsum : (b1_.toNat : Int) + 256 * (b2.toNat : Int) + 65536 * (b3.toNat : Int) + 16777216 * (b4.toNat : Int) = ((hdrN b1_ b2 b3 b4 : Nat) : Int) := by simp only [hdrN]; omega
                rw [hsum]
                obtain ⟨n, hN⟩ : ∃ n, n = hdrN b1_ b2 b3 b4 := ⟨_, rfl⟩
                rw [← hN] at hSl hn ⊢
                refine wc_skip ?_
                refine qs_seq ?_
                refine wc_seq ?_
                refine wc_region ?_
                refine wl_move rfl rfl ?_
                refine wl_move rfl rfl ?_
                refine wl_indexS _ Tryd.underlying9 rfl rfl (by first | rfl | omega) (by first | assumption | rfl) rfl ?_
                refine wl_convU8 Tryd.underlying5 Tryd.underlying3 rfl rfl ?_
                refine wl_nilCheck rfl rfl ?_
                refine wl_fieldAddr rfl fo_74_2 rfl ?_
                first | (refine wl_store hS7 rfl rfl sz_3 (by first | rfl | assumption) (i := 0) rfl (by first | decide | exact Nat.le_of_ble_eq_true rfl | (simp; done) | omega) ?_)
                intro w11 hS12; dsimp only [List.set] at hS12
                clear hS7
                refine wl_nil ?_
                refine qs_seq ?_
                refine wc_sub (L' := [(9, _), (8, _), (7, _), (5, _), (4, _), (0, _), (1, _)]) (.cons rfl (.cons rfl (.cons rfl (.cons rfl (.cons rfl (.cons rfl (.cons rfl .nil))))))) ?_
                refine wc_seq ?_
                refine wc_region ?_
                refine wl_move rfl rfl ?_
                refine wl_move rfl rfl ?_
                refine wl_move rfl rfl ?_
                refine wl_move rfl rfl ?_
                refine wl_nilCheck rfl rfl ?_
                refine wl_fieldAddr rfl fo_74_2 rfl ?_
                refine wl_load rfl ag_3 (by first | assumption | exact hS12.cell 0 rfl rfl) rfl ?_
                have hC13 := hS12.split [] [false, false, false] rfl; dsimp only [selF, pickA, nthA, List.cons_append, List.nil_append] at hC13
                refine wl_call cal_40 rfl (begin_sp hC13 b0.toNat) rfl ?_
                rintro e w13 ⟨_, rfl, rfl, hS13⟩; refine ⟨_, rfl, ?_⟩
                replace hS13 := hS13.join rfl; dsimp only [List.dropLast, List.cons_append, List.nil_append] at hS13; clear hC13
                clear hS12
                refine wl_move rfl rfl ?_
                have hC14 := hS13.split [1] [false, true, false] rfl; dsimp only [selF, pickA, nthA, List.cons_append, List.nil_append] at hC14
                refine wl_call cal_32 rfl (readRT hC14 f (slotOff b0.toNat) n) rfl ?_
                rintro e w14 ⟨_, rfl, rfl, hS14⟩; refine ⟨_, rfl, ?_⟩
                replace hS14 := hS14.join rfl; dsimp only [List.dropLast, List.cons_append, List.nil_append] at hS14; clear hC14
                clear hS13
                have hE2 : ReadE D f (slotOff b0.toNat) n = 0 := ReadE_same hE (slotOff_pos _) (by omega)
                rw [hE2]
                refine wl_move rfl rfl ?_
                refine wl_extract rfl rfl rfl ?_
                refine wl_extract rfl rfl rfl ?_
                refine wl_nilCheck rfl rfl ?_
                refine wl_fieldAddr rfl fo_74_3 rfl ?_
                first | (refine wl_store hS14 rfl rfl sz_9 (by first | rfl | assumption) (i := 1) rfl (by first | decide | exact Nat.le_of_ble_eq_true rfl | (simp; done) | omega) ?_)
                intro w15 hS16; dsimp only [List.set] at hS16
                clear hS14
                refine wl_assign rfl rfl ?_
                refine wl_nil ?_
                refine qs_seq ?_
                refine wc_sub (L' := [(7, _), (9, _), (8, _), (5, _), (4, _)]) (.cons rfl (.cons rfl (.cons rfl (.cons rfl (.cons rfl .nil))))) ?_
                refine wc_seq ?_
                refine wc_seq ?_
                refine wc_region ?_
                refine wl_move rfl rfl ?_
                refine wl_neq rfl rfl rfl ?_
                refine wl_nil ?_
                refine qs_seq ?_
                refine wc_condD rfl (fun h17 => ?_) (fun h17 => ?_)
                · skip
                  refine wc_seq ?_
                  refine wc_region ?_
                  refine wl_move rfl rfl ?_
                  refine wl_assign rfl rfl ?_
                  refine wl_assign rfl rfl ?_
                  refine wl_nil ?_
                  refine qs_seq ?_
                  refine wc_ret ?_
                  refine qs_then_ret ?_
                  refine fin2 (.inr rfl) rfl rfl rfl ?_
                  exact absurd rfl h17
                · skip
                  refine wc_skip ?_
                  refine qs_seq ?_
                  refine wc_seq ?_
                  refine wc_seq ?_
                  refine wc_region ?_
                  refine wl_move rfl rfl ?_
                  refine wl_nilCheck rfl rfl ?_
                  refine wl_fieldAddr rfl fo_74_3 rfl ?_
                  refine wl_load rfl ag_9 (by first | assumption | exact hS16.cell 1 rfl rfl) rfl ?_
                  refine wl_lenS Tryd.underlying9 rfl rfl ?_
                  refine wl_move rfl rfl ?_
                  refine wl_neq rfl rfl rfl ?_
                  refine wl_nil ?_
                  refine qs_seq ?_
                  refine wc_sub (L' := [(93, _), (8, _), (5, _), (4, _)]) (.cons rfl (.cons rfl (.cons rfl (.cons rfl .nil)))) ?_
                  refine wc_condD rfl (fun h18 => ?_) (fun h18 => ?_)
                  · skip
                    refine wc_seq ?_
                    refine wc_region ?_
                    refine wl_assign rfl rfl ?_
                    refine wl_assign rfl rfl ?_
                    refine wl_nil ?_
                    refine qs_seq ?_
                    refine wc_ret ?_
                    refine qs_then_ret ?_
                    refine fin2 (.inr rfl) rfl rfl rfl ?_
                    exact ⟨_, rfl, .inr ⟨(open_cut hE hSl (by have := ReadS_len (D := D) (f := f) (a := slotOff b0.toNat) (n := n); omega)).1, by rw [(open_cut hE hSl (by have := ReadS_len (D := D) (f := f) (a := slotOff b0.toNat) (n := n); omega)).2], hS16.pick [0, 2] rfl⟩⟩
                  · skip
                    refine wc_skip ?_
                    refine qs_seq ?_
                    refine wc_seq ?_
                    refine wc_region ?_
                    refine wl_move rfl rfl ?_
                    refine wl_assign rfl rfl ?_
                    refine wl_assign rfl rfl ?_
                    refine wl_nil ?_
                    refine qs_seq ?_
                    refine wc_ret ?_
                    refine fin2 (.inr rfl) rfl rfl rfl ?_
                    exact ⟨_, rfl, .inl ⟨(open_ok hE hSl (by omega)).1, _, rfl, by rw [(open_ok hE hSl (by omega)).2]; exact hS16.pick [1, 0, 2] rfl⟩⟩
          · skip
            have h12 : b0 = 1 ∨ b0 = 2 := .inl (u8_eq (k := 1) (by omega) (Decidable.not_not.1 h8))
            refine wl_unwanted rfl rfl (decide_eq_false h8) rfl ?_
            refine wl_unwanted rfl rfl (decide_eq_false h8) rfl ?_
            refine wl_unwanted rfl rfl (decide_eq_false h8) rfl ?_
            refine wl_pickF rfl (decide_eq_false h8) rfl rfl ?_
            refine wl_move rfl rfl ?_
            refine wl_guard rfl rfl rfl ?_
            refine wl_move rfl rfl ?_
            refine wl_guard rfl rfl rfl ?_
            refine wl_gtr rfl rfl rfl ?_
            refine wl_pickF rfl rfl rfl rfl ?_
            refine wl_nil ?_
            refine qs_seq ?_
            refine wc_sub (L' := [(62, _), (9, _), (8, _), (7, _), (6, _), (5, _), (4, _), (0, _), (1, _)]) (.cons rfl (.cons rfl (.cons rfl (.cons rfl (.cons rfl (.cons rfl (.cons rfl (.cons rfl (.cons rfl .nil))))))))) ?_
            refine wc_condD rfl (fun h19 => ?_) (fun h19 => ?_)
            · skip
              refine wc_seq ?_
              refine wc_region ?_
              refine wl_assign rfl rfl ?_
              refine wl_assign rfl rfl ?_
              refine wl_nil ?_
              refine qs_seq ?_
              refine wc_ret ?_
              refine qs_then_ret ?_
              refine fin2 (.inr rfl) rfl rfl rfl ?_
              exact ⟨_, rfl, .inr ⟨(open_bad hE (by rw [← hH]; exact hdr_bad hb0 (by rw [← sum_eq]; omega))).1, by rw [(open_bad hE (by rw [← hH]; exact hdr_bad hb0 (by rw [← sum_eq]; omega))).2], hS7.pick [1, 2] rfl⟩⟩
            · skip
              have hn : hdrN b1_ b2 b3 b4 ≤ 65536 := by rw [← sum_eq]; omega
              have hSl : hdrOf (ReadS D f 0 5) = .slot b0.toNat (hdrN b1_ b2 b3 b4) := by rw [← hH]; exact hdr_ok h12 hn
              have hsum : (b1_.toNat : Int) + 256 * (b2.toNat : Int) + 65536 * (b3.toNat : Int) + 16777216 * (b4.toNat : Int) = ((hdrN b1_ b2 b3 b4 : Nat) : Int) := by simp only [hdrN]; omega
              rw [hsum]
              obtain ⟨n, hN⟩ : ∃ n, n = hdrN b1_ b2 b3 b4 := ⟨_, rfl⟩
              rw [← hN] at hSl hn ⊢
              refine wc_skip ?_
              refine qs_seq ?_
              refine wc_seq ?_
              refine wc_region ?_
              refine wl_move rfl rfl ?_
              refine wl_move rfl rfl ?_
              refine wl_indexS _ Tryd.underlying9 rfl rfl (by first | rfl | omega) (by first | assumption | rfl) rfl ?_
              refine wl_convU8 Tryd.underlying5 Tryd.underlying3 rfl rfl ?_
              refine wl_nilCheck rfl rfl ?_
              refine wl_fieldAddr rfl fo_74_2 rfl ?_
              first | (refine wl_store hS7 rfl rfl sz_3 (by first | rfl | assumption) (i := 0) rfl (by first | decide | exact Nat.le_of_ble_eq_true rfl | (simp; done) | omega) ?_)
              intro w20 hS21; dsimp only [List.set] at hS21
              clear hS7
              refine wl_nil ?_
              refine qs_seq ?_
              refine wc_sub (L' := [(9, _), (8, _), (7, _), (5, _), (4, _), (0, _), (1, _)]) (.cons rfl (.cons rfl (.cons rfl (.cons rfl (.cons rfl (.cons rfl (.cons rfl .nil))))))) ?_
              refine wc_seq ?_
              refine wc_region ?_
              refine wl_move rfl rfl ?_
              refine wl_move rfl rfl ?_
              refine wl_move rfl rfl ?_
              refine wl_move rfl rfl ?_
              refine wl_nilCheck rfl rfl ?_
              refine wl_fieldAddr rfl fo_74_2 rfl ?_
              refine wl_load rfl ag_3 (by first | assumption | exact hS21.cell 0 rfl rfl) rfl ?_
              have hC22 := hS21.split [] [false, false, false] rfl; dsimp only [selF, pickA, nthA, List.cons_append, List.nil_append] at hC22
              refine wl_call cal_40 rfl (begin_sp hC22 b0.toNat) rfl ?_
              rintro e w22 ⟨_, rfl, rfl, hS22⟩; refine ⟨_, rfl, ?_⟩
              replace hS22 := hS22.join rfl; dsimp only [List.dropLast, List.cons_append, List.nil_append] at hS22; clear hC22
              clear hS21
              refine wl_move rfl rfl ?_
              have hC23 := hS22.split [1] [false, true, false] rfl; dsimp only [selF, pickA, nthA, List.cons_append, List.nil_append] at hC23
              refine wl_call cal_32 rfl (readRT hC23 f (slotOff b0.toNat) n) rfl ?_
              rintro e w23 ⟨_, rfl, rfl, hS23⟩; refine ⟨_, rfl, ?_⟩
              replace hS23 := hS23.join rfl; dsimp only [List.dropLast, List.cons_append, List.nil_append] at hS23; clear hC23
              clear hS22
              have hE2 : ReadE D f (slotOff b0.toNat) n = 0 := ReadE_same hE (slotOff_pos _) (by omega)
              rw [hE2]
              refine wl_move rfl rfl ?_
              refine wl_extract rfl rfl rfl ?_
              refine wl_extract rfl rfl rfl ?_
              refine wl_nilCheck rfl rfl ?_
              refine wl_fieldAddr rfl fo_74_3 rfl ?_
              first | (refine wl_store hS23 rfl rfl sz_9 (by first | rfl | assumption) (i := 1) rfl (by first | decide | exact Nat.le_of_ble_eq_true rfl | (simp; done) | omega) ?_)
              intro w24 hS25; dsimp only [List.set] at hS25
              clear hS23
              refine wl_assign rfl rfl ?_
              refine wl_nil ?_
              refine qs_seq ?_
              refine wc_sub (L' := [(7, _), (9, _), (8, _), (5, _), (4, _)]) (.cons rfl (.cons rfl (.cons rfl (.cons rfl (.cons rfl .nil))))) ?_
              refine wc_seq ?_
              refine wc_seq ?_
              refine wc_region ?_
              refine wl_move rfl rfl ?_
              refine wl_neq rfl rfl rfl ?_
              refine wl_nil ?_
              refine qs_seq ?_
              refine wc_condD rfl (fun h26 => ?_) (fun h26 => ?_)
              · skip
                refine wc_seq ?_
                refine wc_region ?_
                refine wl_move rfl rfl ?_
                refine wl_assign rfl rfl ?_
                refine wl_assign rfl rfl ?_
                refine wl_nil ?_
                refine qs_seq ?_
                refine wc_ret ?_
                refine qs_then_ret ?_
                refine fin2 (.inr rfl) rfl rfl rfl ?_
                exact absurd rfl h26
              · skip
                refine wc_skip ?_
                refine qs_seq ?_
                refine wc_seq ?_
                refine wc_seq ?_
                refine wc_region ?_
                refine wl_move rfl rfl ?_
                refine wl_nilCheck rfl rfl ?_
                refine wl_fieldAddr rfl fo_74_3 rfl ?_
                refine wl_load rfl ag_9 (by first | assumption | exact hS25.cell 1 rfl rfl) rfl ?_
                refine wl_lenS Tryd.underlying9 rfl rfl ?_
                refine wl_move rfl rfl ?_
                refine wl_neq rfl rfl rfl ?_
                refine wl_nil ?_
                refine qs_seq ?_
                refine wc_sub (L' := [(93, _), (8, _), (5, _), (4, _)]) (.cons rfl (.cons rfl (.cons rfl (.cons rfl .nil)))) ?_
                refine wc_condD rfl (fun h27 => ?_) (fun h27 => ?_)
                · skip
                  refine wc_seq ?_
                  refine wc_region ?_
                  refine wl_assign rfl rfl ?_
                  refine wl_assign rfl rfl ?_
                  refine wl_nil ?_
                  refine qs_seq ?_
                  refine wc_ret ?_
                  refine qs_then_ret ?_
                  refine fin2 (.inr rfl) rfl rfl rfl ?_
                  exact ⟨_, rfl, .inr ⟨(open_cut hE hSl (by have := ReadS_len (D := D) (f := f) (a := slotOff b0.toNat) (n := n); omega)).1, by rw [(open_cut hE hSl (by have := ReadS_len (D := D) (f := f) (a := slotOff b0.toNat) (n := n); omega)).2], hS25.pick [0, 2] rfl⟩⟩
                · skip
                  refine wc_skip ?_
                  refine qs_seq ?_
                  refine wc_seq ?_
                  refine wc_region ?_
                  refine wl_move rfl rfl ?_
                  refine wl_assign rfl rfl ?_
                  refine wl_assign rfl rfl ?_
                  refine wl_nil ?_
                  refine qs_seq ?_
                  refine wc_ret ?_
                  refine fin2 (.inr rfl) rfl rfl rfl ?_
                  exact ⟨_, rfl, .inl ⟨(open_ok hE hSl (by omega)).1, _, rfl, by rw [(open_ok hE hSl (by omega)).2]; exact hS25.pick [1, 0, 2] rfl⟩⟩

end Go.Proofs.YtleaahajkncnpaaDoor
