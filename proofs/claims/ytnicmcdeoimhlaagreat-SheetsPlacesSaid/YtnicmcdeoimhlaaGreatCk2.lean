/- reclaim: victim, pass -/
import Derived.Test.YtnicmcdeoimhlaaGreatCk1
import Derived.Test.YtnicmcdeoimhlaaGreatRow
namespace Go.Proofs.YtnicmcdeoimhlaaGreat
open Go.RowKit M
set_option linter.unusedVariables false
def okK (ul : List Bool) (n : Int) : Prop := n = -1 ∨ (0 ≤ n ∧ ul[n.toNat]? = some true)
theorem clk_all {ul : List Bool} {hd : Int} (h0 : 0 ≤ hd) (h1 : hd < ul.length) (h : ∀ j : Nat, j < ul.length → ul[((hd + (j : Int)) % (ul.length : Int)).toNat]? = some false) : ∀ x ∈ ul, x = false := by
  intro x hx
  obtain ⟨k, hk⟩ := List.mem_iff_getElem?.1 hx
  have hkl := (List.getElem?_eq_some_iff.1 hk).1
  have h5 := Int.emod_lt_of_pos ((k : Int) - hd) (show (0 : Int) < ul.length by omega)
  have h6 := Int.emod_nonneg ((k : Int) - hd) (show (ul.length : Int) ≠ 0 by omega)
  have hj := h (((k : Int) - hd) % (ul.length : Int)).toNat (by omega)
  have e : ((hd + (((((k : Int) - hd) % (ul.length : Int)).toNat : Nat) : Int)) % (ul.length : Int)).toNat = k := by
    rw [Int.toNat_of_nonneg h6, Int.add_emod_emod, show hd + ((k : Int) - hd) = (k : Int) by omega, Int.emod_eq_of_lt (by omega) (by omega)]; omega
  rw [e, hk] at hj
  exact Option.some.inj hj
set_option maxRecDepth 100000 in
set_option maxHeartbeats 800000 in
theorem ckvictim_sp {w : World} {p : Nat} {ul : List Bool} {hd : Int} {F : Th} (hS : Sat w [ckH p ul hd, F]) :
    Calls Tryz.prog 92 #[ptrV p 0] w (Ret fun v w' => (∃ k : Nat, ul[k]? = some true ∧ v = .tuple #[intV (k : Int), .bool true] ∧ Sat w' [ckH p ul hd, F]) ∨ ((∀ x ∈ ul, x = false) ∧ v = .tuple #[intV 0, .bool false] ∧ Sat w' [ckH p ul hd, F])) := by
 obtain ⟨ob, cap, l, b1, b2, b3, g1, g2, g3, hul, hl4, hh0, hh1, hS⟩ := ckH_open hS
 refine calls_enter Tryz.func92 rfl Tryz.ntmps92 rfl ?_
 refine wc_seq (wc_region (wl_assign rfl rfl (wl_assign rfl rfl (wl_nil (qs_seq (wc_seq (wc_region (wl_assign rfl rfl (wl_assign rfl rfl (wl_nil (qs_seq (wc_seq (wc_seq (wc_region (wl_move rfl rfl (wl_nilCheck rfl rfl ?_))))))))))))))))
 refine wl_fieldAddr rfl fo_108_0 rfl ?_
 refine wl_load rfl ag_106 (by first | assumption | exact hS.cell 0 rfl rfl) rfl ?_
 first | refine wl_lenL Tryz.underlying106 rfl rfl ?_ | refine wl_lenO 1 hS Tryz.underlying106 rfl rfl rfl ?_
 refine wl_move rfl rfl (wl_nil (qs_seq ?_))
 refine wc_sub (L' := [(14, _), (13, _), (5, _), (4, _), (3, _), (2, _), (0, _)]) (.cons rfl (.cons rfl (.cons rfl (.cons rfl (.cons rfl (.cons rfl (.cons rfl .nil))))))) ?_
 refine wc_block ?_
 refine wc_loop (fun K0 E0 W0 => ∃ (i : Nat) (um an : Int), K0 = l.length - i ∧ E0 = [(0, ptrV p 0), (4, intV um), (5, intV an), (13, intV (l.length : Int)), (14, intV (i : Int))] ∧ Sat W0 [blkT p [.slice (some ⟨ob, 0, none⟩) l.length cap, intV hd, .map (some b1), .map (some b2), .map (some b3)], rowT ckC (.slice (some ⟨ob, 0, none⟩) l.length cap) l, mapT intK b1 (gI g1), mapT intK b2 (gI g2), mapT intK b3 (gI g3), F] ∧ (i ≤ l.length) ∧ (okK ul um) ∧ (okK ul an) ∧ (an = -1 → ∀ j : Nat, j < i → ul[((hd + (j : Int)) % (ul.length : Int)).toNat]? = some false)) (L0 := [(0, _), (4, _), (5, _), (13, _), (14, _)]) (l.length - 0) (.cons rfl (.cons rfl (.cons rfl (.cons rfl (.cons rfl .nil))))) ⟨0, -1, -1, rfl, rfl, hS, by omega, .inl rfl, .inl rfl, fun _ j hj => by omega⟩ ?_
 rintro _ _ w1 ⟨i, um, an, rfl, rfl, hS1, hi, hum, han, hall⟩
 refine wc_seq (wc_region ?_)
 refine wl_lss rfl rfl rfl ?_
 refine wl_nil (qs_seq (wc_seq ?_))
 refine wc_condD rfl (fun h2 => ?_) (fun h2 => ?_)
 ·refine wc_skip (qs_seq (wc_seq (wc_block (wc_seq (wc_region (wl_move rfl rfl (wl_assign rfl rfl (wl_nil (qs_seq (wc_seq ?_))))))))))
  have hS3 := hS1.drew
  refine wc_draw [0, 1, 2, 3, 4, 5, 6, 7, 8, 9, 10, 11, 12] [] mix (by kernel_rfl) ?_
  refine vc_p rfl rfl rfl (fun _ => (ev_move rfl)) ?_
  refine vc_p rfl rfl rfl (fun _ => (ev_nilCheck rfl)) ?_
  refine vc_p rfl rfl rfl (fun _ => (ev_fieldAddr rfl fo_108_1)) ?_
  refine vc_q rfl rfl rfl (ev_load rfl ag_3 (by first | assumption | exact hS3.cell 0 rfl rfl)) ?_
  refine vc_p rfl rfl rfl (fun _ => (ev_move rfl)) ?_
  refine vc_p rfl rfl rfl (fun _ => (ev_add rfl rfl (by omega) (by omega))) ?_
  refine vc_p rfl rfl rfl (fun _ => (ev_move rfl)) ?_
  refine vc_p rfl rfl rfl (fun _ => (ev_nilCheck rfl)) ?_
  refine vc_p rfl rfl rfl (fun _ => (ev_fieldAddr rfl fo_108_0)) ?_
  refine vc_q rfl rfl rfl (ev_load rfl ag_106 (by first | assumption | exact hS3.cell 0 rfl rfl)) ?_
  refine vc_p rfl rfl rfl (fun _ => (ev_lenL Tryz.underlying106 rfl)) ?_
  refine vc_p rfl rfl rfl (fun _ => (ev_rem rfl rfl (by omega) (by omega))) ?_
  refine vc_p rfl rfl rfl (fun _ => (ev_assign rfl)) ?_
  refine VC.nil ?_
  have hm1 : 0 ≤ ((hd + (i : Int)) % (l.length : Int)) := Int.emod_nonneg _ (by omega)
  have hm2 : ((hd + (i : Int)) % (l.length : Int)) < (l.length : Int) := Int.emod_lt_of_pos _ (by omega)
  obtain ⟨x, hx⟩ : ∃ x, l[((hd + (i : Int)) % (l.length : Int)).toNat]? = some x := ⟨_, List.getElem?_eq_getElem (by omega)⟩
  have hulk : ul[((hd + (i : Int)) % (l.length : Int)).toNat]? = some x.u := by rw [hul]; exact ck_u hx
  have hulx : ul[((hd + (i : Int)) % (ul.length : Int)).toNat]? = some x.u := by rw [show (ul.length : Int) = (l.length : Int) by rw [hul, List.length_map]]; exact hulk
  refine qs_seq ?_
  refine wc_sub (L' := [(7, _), (0, _), (4, _), (5, _), (13, _), (14, _)]) (.cons rfl (.cons rfl (.cons rfl (.cons rfl (.cons rfl (.cons rfl .nil)))))) ?_
  refine wc_seq (wc_region (wl_move rfl rfl (wl_nilCheck rfl rfl ?_)))
  refine wl_fieldAddr rfl fo_108_0 rfl ?_
  refine wl_load rfl ag_106 (by first | assumption | exact hS3.cell 0 rfl rfl) rfl ?_
  refine wl_move rfl rfl ?_
  refine wl_rowIdx ckC 1 ((hd + (i : Int)) % (l.length : Int)).toNat hS3 rfl rfl rfl (by rw [Int.toNat_of_nonneg hm1]) hx es_106 rfl ?_
  intro bx4 capx4 hvx4
  refine wl_rowLoadA 1 ((hd + (i : Int)) % (l.length : Int)).toNat hS3 rfl hvx4 rfl hx ag_121 sz_121 rfl rfl ?_
  refine wl_alloc hS3 zr_121 rfl rfl ?_
  intro b5 w5 hS5
  clear hS3
  first | (refine wl_storeA hS5 rfl rfl sz_121 rfl (by first | rfl | (simp [allOne, Value.oneCell']; done) | assumption | exact hone) (i := 0) rfl (by first | decide | exact Nat.le_of_ble_eq_true rfl | (simp; done) | omega) ?_) | (refine wl_storeA hS5 rfl rfl sz_121 rfl (by first | rfl | (simp [allOne, Value.oneCell']; done) | assumption | exact hone) (i := 1) rfl (by first | decide | exact Nat.le_of_ble_eq_true rfl | (simp; done) | omega) ?_)
  intro w6 hS7; dsimp only [List.set] at hS7
  clear hS5
  refine wl_nil (qs_seq ?_)
  refine wc_sub (L' := [(8, _), (7, _), (0, _), (4, _), (5, _), (13, _), (14, _)]) (.cons rfl (.cons rfl (.cons rfl (.cons rfl (.cons rfl (.cons rfl (.cons rfl .nil))))))) ?_
  refine wc_seq (wc_block (wc_seq (wc_region ?_)))
  refine wl_fieldAddr rfl fo_121_0 rfl ?_
  refine wl_load rfl ag_4 (by first | assumption | exact hS7.cell 0 rfl rfl | exact hS7.cell 1 rfl rfl) rfl ?_
  refine wl_not rfl rfl ?_
  refine wl_assign rfl rfl (wl_nil (qs_seq ?_))
  refine wc_sub (L' := [(36, _), (8, _), (7, _), (0, _), (4, _), (5, _), (13, _), (14, _)]) (.cons rfl (.cons rfl (.cons rfl (.cons rfl (.cons rfl (.cons rfl (.cons rfl (.cons rfl .nil)))))))) ?_
  refine wc_cond rfl (fun h8 => ?_) (fun h8 => ?_)
  ·have hxu : x.u = false := by simpa using h8
   refine wc_exit ?_
   refine qs_block_pass rfl ?_
   refine qs_then_exit (qs_block_exit (qs_seq (wc_region ?_)))
   refine wl_add rfl rfl (by omega) (by omega) rfl ?_
   refine wl_move rfl rfl (wl_nil ?_)
   exact qs_round (L1 := [(0, _), (4, intV um), (5, intV an), (13, _), (14, intV ((i + 1 : Nat) : Int))]) (.cons rfl (.cons rfl (.cons rfl (.cons rfl (.cons rfl .nil))))) (k1 := l.length - (i + 1)) (by omega) ⟨i + 1, um, an, rfl, rfl, hS7.pick [1, 2, 3, 4, 5, 6] rfl, by omega, hum, han, fun e j hj => by by_cases q : j = i; (subst q; rw [hulx, hxu]); exact hall e j (by omega)⟩
  have hxu : x.u = true := by simpa using h8
  refine wc_seq (wc_region ?_)
  refine wl_fieldAddr rfl fo_121_1 rfl ?_
  refine wl_load rfl ag_4 (by first | assumption | exact hS7.cell 0 rfl rfl | exact hS7.cell 1 rfl rfl) rfl ?_
  refine wl_not rfl rfl ?_
  refine wl_move rfl rfl ?_
  refine wl_split 44 rfl (fun h9 => ?_) (fun h9 => ?_)
  ·refine wl_guard rfl rfl h9 ?_
   refine wl_move rfl rfl ?_
   refine wl_guard rfl rfl h9 ?_
   refine wl_fieldAddr rfl fo_121_3 rfl ?_
   refine wl_guard rfl rfl h9 ?_
   refine wl_load rfl ag_3 (by first | assumption | exact hS7.cell 0 rfl rfl | exact hS7.cell 1 rfl rfl) rfl ?_
   refine wl_guard rfl rfl h9 ?_
   have hC10 := hS7.split [1, 2, 3, 4, 5] [false, true, true, true, true, true, false] rfl; dsimp only [selF, pickA, nthA, List.cons_append, List.nil_append] at hC10
   refine wl_call cal_103 rfl (ckover_sp hC10 x.o) rfl ?_
   rintro e w10 ⟨_, rfl, g0, rfl, hS10⟩; refine ⟨_, rfl, ?_⟩
   replace hS10 := hS10.join rfl; dsimp only [List.dropLast, List.cons_append, List.nil_append] at hS10; clear hC10
   clear hS7
   refine wl_pickT rfl h9 rfl rfl ?_
   refine wl_assign rfl rfl (wl_nil (qs_seq ?_))
   refine wc_sub (L' := [(40, _), (8, _), (7, _), (0, _), (4, _), (5, _), (13, _), (14, _)]) (.cons rfl (.cons rfl (.cons rfl (.cons rfl (.cons rfl (.cons rfl (.cons rfl (.cons rfl .nil)))))))) ?_
   refine wc_cond rfl (fun h11 => ?_) (fun h11 => ?_)
   ·refine wc_seq (wc_region (wl_move rfl rfl (wl_assign rfl rfl (wl_assign rfl rfl (wl_nil (qs_seq ?_))))))
    refine wc_sub (L' := [(3, _), (2, _), (7, _), (0, _), (4, _), (5, _), (13, _), (14, _)]) (.cons rfl (.cons rfl (.cons rfl (.cons rfl (.cons rfl (.cons rfl (.cons rfl (.cons rfl .nil)))))))) ?_
    refine wc_ret (qs_block_ret (qs_then_ret (qs_block_ret (qs_then_ret (qs_then_ret (qs_block_ret (qs_then_ret ?_)))))))
    refine fin2 (.inr rfl) rfl rfl rfl ?_
    exact ⟨_, rfl, .inl ⟨((hd + (i : Int)) % (l.length : Int)).toNat, by rw [hulk, hxu], by rw [Int.toNat_of_nonneg hm1], ckH_shut (hul) (hl4) (hh0) (hh1) (hS10.pick [0, 1, 2, 3, 4, 6] rfl)⟩⟩
   refine wc_seq (wc_region ?_)
   refine wl_fieldAddr rfl fo_121_1 rfl ?_
   refine wl_load rfl ag_4 (by first | assumption | exact hS10.cell 0 rfl rfl | exact hS10.cell 5 rfl rfl) rfl ?_
   refine wl_not rfl rfl ?_
   refine wl_move rfl rfl ?_
   refine wl_split 55 rfl (fun h12 => ?_) (fun h12 => ?_)
   ·refine wl_guard rfl rfl h12 ?_
    refine wl_move rfl rfl ?_
    refine wl_guard rfl rfl h12 ?_
    refine wl_lss rfl rfl rfl ?_
    refine wl_pickT rfl h12 rfl rfl ?_
    refine wl_assign rfl rfl (wl_nil (qs_seq ?_))
    refine wc_sub (L' := [(51, _), (7, _), (0, _), (4, _), (5, _), (13, _), (14, _)]) (.cons rfl (.cons rfl (.cons rfl (.cons rfl (.cons rfl (.cons rfl (.cons rfl .nil))))))) ?_
    refine wc_condD rfl (fun h13 => ?_) (fun h13 => ?_)
    ·refine wc_region (wl_move rfl rfl (wl_assign rfl rfl (wl_nil (qs_block_normal (qs_seq (wc_seq (wc_region (wl_move rfl rfl ?_))))))))
     refine wl_lss rfl rfl rfl ?_
     refine wl_nil (qs_seq ?_)
     refine wc_condD rfl (fun h14 => ?_) (fun h14 => ?_)
     ·refine wc_region (wl_move rfl rfl (wl_assign rfl rfl (wl_nil (qs_block_normal (qs_seq ?_)))))
      refine wc_sub (L' := [(5, _), (4, _), (0, _), (13, _), (14, _)]) (.cons rfl (.cons rfl (.cons rfl (.cons rfl (.cons rfl .nil))))) ?_
      refine wc_region ?_
      refine wl_add rfl rfl (by omega) (by omega) rfl ?_
      refine wl_move rfl rfl (wl_nil ?_)
      exact qs_round (L1 := [(0, _), (4, intV ((hd + (i : Int)) % (l.length : Int))), (5, intV ((hd + (i : Int)) % (l.length : Int))), (13, _), (14, intV ((i + 1 : Nat) : Int))]) (.cons rfl (.cons rfl (.cons rfl (.cons rfl (.cons rfl .nil))))) (k1 := l.length - (i + 1)) (by omega) ⟨i + 1, ((hd + (i : Int)) % (l.length : Int)), ((hd + (i : Int)) % (l.length : Int)), rfl, rfl, hS10.pick [0, 1, 2, 3, 4, 6] rfl, by omega, .inr ⟨by omega, by rw [hulk, hxu]⟩, .inr ⟨by omega, by rw [hulk, hxu]⟩, fun e => by omega⟩
     refine wc_skip (qs_block_normal (qs_seq (wc_region ?_)))
     refine wl_add rfl rfl (by omega) (by omega) rfl ?_
     refine wl_move rfl rfl (wl_nil ?_)
     exact qs_round (L1 := [(0, _), (4, intV ((hd + (i : Int)) % (l.length : Int))), (5, intV an), (13, _), (14, intV ((i + 1 : Nat) : Int))]) (.cons rfl (.cons rfl (.cons rfl (.cons rfl (.cons rfl .nil))))) (k1 := l.length - (i + 1)) (by omega) ⟨i + 1, ((hd + (i : Int)) % (l.length : Int)), an, rfl, rfl, hS10.pick [0, 1, 2, 3, 4, 6] rfl, by omega, .inr ⟨by omega, by rw [hulk, hxu]⟩, han, fun e => by omega⟩
    refine wc_skip (qs_block_normal (qs_seq (wc_seq (wc_region (wl_move rfl rfl ?_)))))
    refine wl_lss rfl rfl rfl ?_
    refine wl_nil (qs_seq ?_)
    refine wc_condD rfl (fun h15 => ?_) (fun h15 => ?_)
    ·refine wc_region (wl_move rfl rfl (wl_assign rfl rfl (wl_nil (qs_block_normal (qs_seq (wc_region ?_))))))
     refine wl_add rfl rfl (by omega) (by omega) rfl ?_
     refine wl_move rfl rfl (wl_nil ?_)
     exact qs_round (L1 := [(0, _), (4, intV um), (5, intV ((hd + (i : Int)) % (l.length : Int))), (13, _), (14, intV ((i + 1 : Nat) : Int))]) (.cons rfl (.cons rfl (.cons rfl (.cons rfl (.cons rfl .nil))))) (k1 := l.length - (i + 1)) (by omega) ⟨i + 1, um, ((hd + (i : Int)) % (l.length : Int)), rfl, rfl, hS10.pick [0, 1, 2, 3, 4, 6] rfl, by omega, hum, .inr ⟨by omega, by rw [hulk, hxu]⟩, fun e => by omega⟩
    refine wc_skip (qs_block_normal (qs_seq (wc_region ?_)))
    refine wl_add rfl rfl (by omega) (by omega) rfl ?_
    refine wl_move rfl rfl (wl_nil ?_)
    exact qs_round (L1 := [(0, _), (4, intV um), (5, intV an), (13, _), (14, intV ((i + 1 : Nat) : Int))]) (.cons rfl (.cons rfl (.cons rfl (.cons rfl (.cons rfl .nil))))) (k1 := l.length - (i + 1)) (by omega) ⟨i + 1, um, an, rfl, rfl, hS10.pick [0, 1, 2, 3, 4, 6] rfl, by omega, hum, han, fun e => by omega⟩
   refine wl_unwanted rfl rfl h12 rfl ?_
   refine wl_unwanted rfl rfl h12 rfl ?_
   refine wl_pickF rfl h12 rfl rfl ?_
   refine wl_assign rfl rfl (wl_nil (qs_seq ?_))
   refine wc_sub (L' := [(51, _), (7, _), (0, _), (4, _), (5, _), (13, _), (14, _)]) (.cons rfl (.cons rfl (.cons rfl (.cons rfl (.cons rfl (.cons rfl (.cons rfl .nil))))))) ?_
   refine wc_condF rfl ?_
   refine wc_skip (qs_block_normal (qs_seq (wc_seq (wc_region (wl_move rfl rfl ?_)))))
   refine wl_lss rfl rfl rfl ?_
   refine wl_nil (qs_seq ?_)
   refine wc_condD rfl (fun h16 => ?_) (fun h16 => ?_)
   ·refine wc_region (wl_move rfl rfl (wl_assign rfl rfl (wl_nil (qs_block_normal (qs_seq (wc_region ?_))))))
    refine wl_add rfl rfl (by omega) (by omega) rfl ?_
    refine wl_move rfl rfl (wl_nil ?_)
    exact qs_round (L1 := [(0, _), (4, intV um), (5, intV ((hd + (i : Int)) % (l.length : Int))), (13, _), (14, intV ((i + 1 : Nat) : Int))]) (.cons rfl (.cons rfl (.cons rfl (.cons rfl (.cons rfl .nil))))) (k1 := l.length - (i + 1)) (by omega) ⟨i + 1, um, ((hd + (i : Int)) % (l.length : Int)), rfl, rfl, hS10.pick [0, 1, 2, 3, 4, 6] rfl, by omega, hum, .inr ⟨by omega, by rw [hulk, hxu]⟩, fun e => by omega⟩
   refine wc_skip (qs_block_normal (qs_seq (wc_region ?_)))
   refine wl_add rfl rfl (by omega) (by omega) rfl ?_
   refine wl_move rfl rfl (wl_nil ?_)
   exact qs_round (L1 := [(0, _), (4, intV um), (5, intV an), (13, _), (14, intV ((i + 1 : Nat) : Int))]) (.cons rfl (.cons rfl (.cons rfl (.cons rfl (.cons rfl .nil))))) (k1 := l.length - (i + 1)) (by omega) ⟨i + 1, um, an, rfl, rfl, hS10.pick [0, 1, 2, 3, 4, 6] rfl, by omega, hum, han, fun e => by omega⟩
  refine wl_unwanted rfl rfl h9 rfl ?_
  refine wl_unwanted rfl rfl h9 rfl ?_
  refine wl_unwanted rfl rfl h9 rfl ?_
  refine wl_unwanted rfl rfl h9 rfl ?_
  refine wl_pickF rfl h9 rfl rfl ?_
  refine wl_assign rfl rfl (wl_nil (qs_seq ?_))
  refine wc_sub (L' := [(40, _), (8, _), (7, _), (0, _), (4, _), (5, _), (13, _), (14, _)]) (.cons rfl (.cons rfl (.cons rfl (.cons rfl (.cons rfl (.cons rfl (.cons rfl (.cons rfl .nil)))))))) ?_
  refine wc_condF rfl ?_
  refine wc_seq (wc_region ?_)
  refine wl_fieldAddr rfl fo_121_1 rfl ?_
  refine wl_load rfl ag_4 (by first | assumption | exact hS7.cell 0 rfl rfl | exact hS7.cell 1 rfl rfl) rfl ?_
  refine wl_not rfl rfl ?_
  refine wl_move rfl rfl ?_
  refine wl_split 55 rfl (fun h17 => ?_) (fun h17 => ?_)
  ·refine wl_guard rfl rfl h17 ?_
   refine wl_move rfl rfl ?_
   refine wl_guard rfl rfl h17 ?_
   refine wl_lss rfl rfl rfl ?_
   refine wl_pickT rfl h17 rfl rfl ?_
   refine wl_assign rfl rfl (wl_nil (qs_seq ?_))
   refine wc_sub (L' := [(51, _), (7, _), (0, _), (4, _), (5, _), (13, _), (14, _)]) (.cons rfl (.cons rfl (.cons rfl (.cons rfl (.cons rfl (.cons rfl (.cons rfl .nil))))))) ?_
   refine wc_condD rfl (fun h18 => ?_) (fun h18 => ?_)
   ·refine wc_region (wl_move rfl rfl (wl_assign rfl rfl (wl_nil (qs_block_normal (qs_seq (wc_seq (wc_region (wl_move rfl rfl ?_))))))))
    refine wl_lss rfl rfl rfl ?_
    refine wl_nil (qs_seq ?_)
    refine wc_condD rfl (fun h19 => ?_) (fun h19 => ?_)
    ·refine wc_region (wl_move rfl rfl (wl_assign rfl rfl (wl_nil (qs_block_normal (qs_seq ?_)))))
     refine wc_sub (L' := [(5, _), (4, _), (0, _), (13, _), (14, _)]) (.cons rfl (.cons rfl (.cons rfl (.cons rfl (.cons rfl .nil))))) ?_
     refine wc_region ?_
     refine wl_add rfl rfl (by omega) (by omega) rfl ?_
     refine wl_move rfl rfl (wl_nil ?_)
     exact qs_round (L1 := [(0, _), (4, intV ((hd + (i : Int)) % (l.length : Int))), (5, intV ((hd + (i : Int)) % (l.length : Int))), (13, _), (14, intV ((i + 1 : Nat) : Int))]) (.cons rfl (.cons rfl (.cons rfl (.cons rfl (.cons rfl .nil))))) (k1 := l.length - (i + 1)) (by omega) ⟨i + 1, ((hd + (i : Int)) % (l.length : Int)), ((hd + (i : Int)) % (l.length : Int)), rfl, rfl, hS7.pick [1, 2, 3, 4, 5, 6] rfl, by omega, .inr ⟨by omega, by rw [hulk, hxu]⟩, .inr ⟨by omega, by rw [hulk, hxu]⟩, fun e => by omega⟩
    refine wc_skip (qs_block_normal (qs_seq (wc_region ?_)))
    refine wl_add rfl rfl (by omega) (by omega) rfl ?_
    refine wl_move rfl rfl (wl_nil ?_)
    exact qs_round (L1 := [(0, _), (4, intV ((hd + (i : Int)) % (l.length : Int))), (5, intV an), (13, _), (14, intV ((i + 1 : Nat) : Int))]) (.cons rfl (.cons rfl (.cons rfl (.cons rfl (.cons rfl .nil))))) (k1 := l.length - (i + 1)) (by omega) ⟨i + 1, ((hd + (i : Int)) % (l.length : Int)), an, rfl, rfl, hS7.pick [1, 2, 3, 4, 5, 6] rfl, by omega, .inr ⟨by omega, by rw [hulk, hxu]⟩, han, fun e => by omega⟩
   refine wc_skip (qs_block_normal (qs_seq (wc_seq (wc_region (wl_move rfl rfl ?_)))))
   refine wl_lss rfl rfl rfl ?_
   refine wl_nil (qs_seq ?_)
   refine wc_condD rfl (fun h20 => ?_) (fun h20 => ?_)
   ·refine wc_region (wl_move rfl rfl (wl_assign rfl rfl (wl_nil (qs_block_normal (qs_seq (wc_region ?_))))))
    refine wl_add rfl rfl (by omega) (by omega) rfl ?_
    refine wl_move rfl rfl (wl_nil ?_)
    exact qs_round (L1 := [(0, _), (4, intV um), (5, intV ((hd + (i : Int)) % (l.length : Int))), (13, _), (14, intV ((i + 1 : Nat) : Int))]) (.cons rfl (.cons rfl (.cons rfl (.cons rfl (.cons rfl .nil))))) (k1 := l.length - (i + 1)) (by omega) ⟨i + 1, um, ((hd + (i : Int)) % (l.length : Int)), rfl, rfl, hS7.pick [1, 2, 3, 4, 5, 6] rfl, by omega, hum, .inr ⟨by omega, by rw [hulk, hxu]⟩, fun e => by omega⟩
   refine wc_skip (qs_block_normal (qs_seq (wc_region ?_)))
   refine wl_add rfl rfl (by omega) (by omega) rfl ?_
   refine wl_move rfl rfl (wl_nil ?_)
   exact qs_round (L1 := [(0, _), (4, intV um), (5, intV an), (13, _), (14, intV ((i + 1 : Nat) : Int))]) (.cons rfl (.cons rfl (.cons rfl (.cons rfl (.cons rfl .nil))))) (k1 := l.length - (i + 1)) (by omega) ⟨i + 1, um, an, rfl, rfl, hS7.pick [1, 2, 3, 4, 5, 6] rfl, by omega, hum, han, fun e => by omega⟩
  refine wl_unwanted rfl rfl h17 rfl ?_
  refine wl_unwanted rfl rfl h17 rfl ?_
  refine wl_pickF rfl h17 rfl rfl ?_
  refine wl_assign rfl rfl (wl_nil (qs_seq ?_))
  refine wc_sub (L' := [(51, _), (7, _), (0, _), (4, _), (5, _), (13, _), (14, _)]) (.cons rfl (.cons rfl (.cons rfl (.cons rfl (.cons rfl (.cons rfl (.cons rfl .nil))))))) ?_
  refine wc_condF rfl ?_
  refine wc_skip (qs_block_normal (qs_seq (wc_seq (wc_region (wl_move rfl rfl ?_)))))
  refine wl_lss rfl rfl rfl ?_
  refine wl_nil (qs_seq ?_)
  refine wc_condD rfl (fun h21 => ?_) (fun h21 => ?_)
  ·refine wc_region (wl_move rfl rfl (wl_assign rfl rfl (wl_nil (qs_block_normal (qs_seq (wc_region ?_))))))
   refine wl_add rfl rfl (by omega) (by omega) rfl ?_
   refine wl_move rfl rfl (wl_nil ?_)
   exact qs_round (L1 := [(0, _), (4, intV um), (5, intV ((hd + (i : Int)) % (l.length : Int))), (13, _), (14, intV ((i + 1 : Nat) : Int))]) (.cons rfl (.cons rfl (.cons rfl (.cons rfl (.cons rfl .nil))))) (k1 := l.length - (i + 1)) (by omega) ⟨i + 1, um, ((hd + (i : Int)) % (l.length : Int)), rfl, rfl, hS7.pick [1, 2, 3, 4, 5, 6] rfl, by omega, hum, .inr ⟨by omega, by rw [hulk, hxu]⟩, fun e => by omega⟩
  refine wc_skip (qs_block_normal (qs_seq (wc_region ?_)))
  refine wl_add rfl rfl (by omega) (by omega) rfl ?_
  refine wl_move rfl rfl (wl_nil ?_)
  exact qs_round (L1 := [(0, _), (4, intV um), (5, intV an), (13, _), (14, intV ((i + 1 : Nat) : Int))]) (.cons rfl (.cons rfl (.cons rfl (.cons rfl (.cons rfl .nil))))) (k1 := l.length - (i + 1)) (by omega) ⟨i + 1, um, an, rfl, rfl, hS7.pick [1, 2, 3, 4, 5, 6] rfl, by omega, hum, han, fun e => by omega⟩
 refine wc_exit (qs_then_exit (qs_then_exit (qs_block_exit (qs_seq (wc_seq (wc_seq (wc_region (wl_move rfl rfl ?_))))))))
 refine wl_geq rfl rfl rfl ?_
 refine wl_nil (qs_seq ?_)
 refine wc_condD rfl (fun h22 => ?_) (fun h22 => ?_)
 ·refine wc_seq (wc_region (wl_move rfl rfl (wl_assign rfl rfl (wl_assign rfl rfl (wl_nil (qs_seq ?_))))))
  refine wc_sub (L' := [(3, _), (2, _), (5, _)]) (.cons rfl (.cons rfl (.cons rfl .nil))) ?_
  refine wc_ret (qs_then_ret ?_)
  refine fin2 (.inr rfl) rfl rfl rfl ?_
  obtain ⟨h0, h1⟩ := hum.resolve_left (by omega); exact ⟨_, rfl, .inl ⟨um.toNat, h1, by rw [Int.toNat_of_nonneg h0], ckH_shut (hul) (hl4) (hh0) (hh1) (hS1.pick [0, 1, 2, 3, 4, 5] rfl)⟩⟩
 refine wc_skip (qs_seq (wc_seq (wc_region (wl_move rfl rfl ?_))))
 refine wl_maxI rfl rfl rfl ?_
 refine wl_move rfl rfl ?_
 refine wl_geq rfl rfl rfl ?_
 refine wl_assign rfl rfl (wl_assign rfl rfl (wl_nil (qs_seq ?_)))
 refine wc_sub (L' := [(3, _), (2, _)]) (.cons rfl (.cons rfl .nil)) ?_
 refine wc_ret ?_
 refine fin2 (.inr rfl) rfl rfl rfl ?_
 rcases han with han | ⟨ha0, ha1⟩
 ·exact ⟨_, rfl, .inr ⟨clk_all hh0 (by rw [hul, List.length_map]; exact hh1) (fun j hj => hall han j (by rw [hul, List.length_map] at hj; omega)), by subst han; rfl, ckH_shut (hul) (hl4) (hh0) (hh1) (hS1.pick [0, 1, 2, 3, 4, 5] rfl)⟩⟩
 ·exact ⟨_, rfl, .inl ⟨an.toNat, ha1, by rw [Int.max_eq_left ha0, decide_eq_true (show an ≥ 0 from ha0), Int.toNat_of_nonneg ha0], ckH_shut (hul) (hl4) (hh0) (hh1) (hS1.pick [0, 1, 2, 3, 4, 5] rfl)⟩⟩
set_option maxRecDepth 100000 in
theorem ckpass_sp {w : World} {p : Nat} {ul : List Bool} {hd : Int} {F : Th} (hS : Sat w [ckH p ul hd, F]) :
    Calls Tryz.prog 93 #[ptrV p 0] w (Ret fun v w' => v = .tuple #[] ∧ Sat w' [ckH p ul (if hd + 1 < (ul.length : Int) then hd + 1 else 0), F]) := by
 obtain ⟨ob, cap, l, b1, b2, b3, g1, g2, g3, hul, hl4, hh0, hh1, hS⟩ := ckH_open hS
 obtain ⟨x, hx⟩ : ∃ x, l[hd.toNat]? = some x := ⟨_, List.getElem?_eq_getElem (by omega)⟩
 refine calls_enter Tryz.func93 rfl Tryz.ntmps93 rfl ?_
 refine wc_seq ?_
 have hS1 := hS.drew
 refine wc_draw [0, 1, 2, 3, 4, 5, 6, 7, 8, 9, 10] [10] mix (by kernel_rfl) ?_
 refine vc_p rfl rfl rfl (fun _ => (ev_move rfl)) ?_
 refine vc_p rfl rfl rfl (fun _ => (ev_nilCheck rfl)) ?_
 refine vc_p rfl rfl rfl (fun _ => (ev_fieldAddr rfl fo_108_0)) ?_
 refine vc_q rfl rfl rfl (ev_load rfl ag_106 (by first | assumption | exact hS1.cell 0 rfl rfl)) ?_
 refine vc_p rfl rfl rfl (fun _ => (ev_move rfl)) ?_
 refine vc_p rfl rfl rfl (fun _ => (ev_nilCheck rfl)) ?_
 refine vc_p rfl rfl rfl (fun _ => (ev_fieldAddr rfl fo_108_1)) ?_
 refine vc_q rfl rfl rfl (ev_load rfl ag_3 (by first | assumption | exact hS1.cell 0 rfl rfl)) ?_
 refine vc_p rfl rfl rfl (fun _ => (ev_indexAddr hd.toNat rfl rfl (by first | rfl | omega) (by omega) es_106)) ?_
 refine vc_p rfl rfl rfl (fun _ => (ev_fieldAddr rfl fo_121_1)) ?_
 refine vc_s rfl rfl rfl rfl rfl rfl ?_
 refine wl_rowStoreF 1 hd.toNat 1 { x with m := false } hS1 rfl rfl rfl (by show 0 + hd.toNat * 4 + 1 = hd.toNat * 4 + 1; omega) rfl sz_4 hx rfl (by decide) rfl rfl ?_
 intro w2 hS2; dsimp only [List.set] at hS2
 clear hS1
 refine vc_e0 (.skip (by kernel_rfl) (.skip (by kernel_rfl) .nil)) ?_
 refine VC.nil (qs_seq ?_)
 refine wc_sub (L' := [(0, _)]) (.cons rfl .nil) ?_
 refine wc_seq (wc_region (wl_move rfl rfl (wl_nilCheck rfl rfl ?_)))
 refine wl_fieldAddr rfl fo_108_1 rfl ?_
 refine wl_load rfl ag_3 (by first | assumption | exact hS2.cell 0 rfl rfl) rfl ?_
 refine wl_add rfl rfl (by omega) (by omega) rfl ?_
 refine wl_nilCheck rfl rfl ?_
 refine wl_fieldAddr rfl fo_108_1 rfl ?_
 first | (refine wl_store hS2 rfl rfl sz_3 (by first | rfl | assumption | exact hS2.own_one 1 rfl) (i := 0) rfl (by first | decide | exact Nat.le_of_ble_eq_true rfl | (simp; done) | omega) ?_)
 intro w3 hS4; dsimp only [List.set] at hS4
 clear hS2
 refine wl_nil (qs_seq (wc_seq (wc_seq ?_)))
 have hS5 := hS4.drew
 refine wc_draw [0, 1, 2, 3, 4, 5, 6, 7, 8, 9] [] mix (by kernel_rfl) ?_
 refine vc_p rfl rfl rfl (fun _ => (ev_move rfl)) ?_
 refine vc_p rfl rfl rfl (fun _ => (ev_nilCheck rfl)) ?_
 refine vc_p rfl rfl rfl (fun _ => (ev_fieldAddr rfl fo_108_1)) ?_
 refine vc_q rfl rfl rfl (ev_load rfl ag_3 (by first | assumption | exact hS5.cell 0 rfl rfl)) ?_
 refine vc_p rfl rfl rfl (fun _ => (ev_move rfl)) ?_
 refine vc_p rfl rfl rfl (fun _ => (ev_nilCheck rfl)) ?_
 refine vc_p rfl rfl rfl (fun _ => (ev_fieldAddr rfl fo_108_0)) ?_
 refine vc_q rfl rfl rfl (ev_load rfl ag_106 (by first | assumption | exact hS5.cell 0 rfl rfl)) ?_
 refine vc_p rfl rfl rfl (fun _ => (ev_lenL Tryz.underlying106 rfl)) ?_
 refine vc_p rfl rfl rfl (fun _ => (ev_lss rfl rfl)) ?_
 refine VC.nil (qs_seq ?_)
 refine wc_sub (L' := [(29, _), (0, _)]) (.cons rfl (.cons rfl .nil)) ?_
 refine wc_condD rfl (fun h6 => ?_) (fun h6 => ?_)
 ·refine wc_ret (qs_then_ret ?_)
  refine fin0 (.inr rfl) rfl ?_
  exact ⟨_, rfl, rfl, by rw [if_pos (by rw [hul, List.length_map]; omega)]; exact ckH_shut (l := l.set hd.toNat { x with m := false }) (by rw [hul]; exact (ck_keep (y := { x with m := false }) hx rfl).symm) (by rw [List.length_set]; exact hl4) (by omega) (by rw [List.length_set]; omega) (hS5.pick [0, 1, 2, 3, 4, 5] rfl)⟩
 refine wc_skip (qs_seq (wc_seq (wc_region (wl_move rfl rfl (wl_nilCheck rfl rfl ?_)))))
 refine wl_fieldAddr rfl fo_108_1 rfl ?_
 first | (refine wl_store hS5 rfl rfl sz_3 (by first | rfl | assumption | exact hS5.own_one 1 rfl) (i := 0) rfl (by first | decide | exact Nat.le_of_ble_eq_true rfl | (simp; done) | omega) ?_)
 intro w7 hS8; dsimp only [List.set] at hS8
 clear hS5
 refine wl_nil (qs_seq (wc_seq (wc_seq (wc_region (wl_move rfl rfl (wl_nilCheck rfl rfl ?_))))))
 refine wl_fieldAddr rfl fo_108_0 rfl ?_
 refine wl_load rfl ag_106 (by first | assumption | exact hS8.cell 0 rfl rfl) rfl ?_
 first | refine wl_lenL Tryz.underlying106 rfl rfl ?_ | refine wl_lenO 1 hS8 Tryz.underlying106 rfl rfl rfl ?_
 refine wl_move rfl rfl (wl_nil (qs_seq ?_))
 refine wc_sub (L' := [(38, _), (37, _), (0, _)]) (.cons rfl (.cons rfl (.cons rfl .nil))) ?_
 refine wc_block ?_
 have hSl := hS8.pick [0, 1, 2, 3, 4, 5] rfl
 have hls : (l.set hd.toNat { x with m := false }).length = l.length := List.length_set
 refine wc_loop (fun K0 E0 W0 => ∃ (l2 : List CkD) (i : Nat), K0 = l.length - i ∧ E0 = [(0, ptrV p 0), (37, intV (l2.length : Int)), (38, intV (i : Int))] ∧ Sat W0 [blkT p [.slice (some ⟨ob, 0, none⟩) l2.length cap, intV 0, .map (some b1), .map (some b2), .map (some b3)], rowT ckC (.slice (some ⟨ob, 0, none⟩) l2.length cap) l2, mapT intK b1 (gI g1), mapT intK b2 (gI g2), mapT intK b3 (gI g3), F] ∧ (i ≤ l.length) ∧ (l2.length = l.length) ∧ (l2.map CkD.u = ul)) (L0 := [(0, _), (37, _), (38, _)]) (l.length - 0) (.cons rfl (.cons rfl (.cons rfl .nil))) ⟨l.set hd.toNat { x with m := false }, 0, rfl, (by rw [hls]; rfl), by rw [hls]; exact hSl, by omega, hls, by rw [ck_keep (y := { x with m := false }) hx rfl]; exact hul.symm⟩ ?_
 rintro _ _ w9 ⟨l2, i, rfl, rfl, hS9, hi, hl2, hu2⟩
 refine wc_seq (wc_region ?_)
 refine wl_lss rfl rfl rfl ?_
 refine wl_nil (qs_seq (wc_seq ?_))
 refine wc_condD rfl (fun h10 => ?_) (fun h10 => ?_)
 ·obtain ⟨x2, hx2⟩ : ∃ x, l2[i]? = some x := ⟨_, List.getElem?_eq_getElem (by omega)⟩
  refine wc_skip (qs_seq (wc_seq (wc_block (wc_seq (wc_region (wl_move rfl rfl (wl_assign rfl rfl (wl_nil (qs_seq (wc_region (wl_move rfl rfl (wl_nilCheck rfl rfl ?_))))))))))))
  refine wl_fieldAddr rfl fo_108_0 rfl ?_
  refine wl_load rfl ag_106 (by first | assumption | exact hS9.cell 0 rfl rfl) rfl ?_
  refine wl_move rfl rfl ?_
  refine wl_rowIdx ckC 1 i hS9 rfl rfl rfl (by first | rfl | omega) hx2 es_106 rfl ?_
  intro bx11 capx11 hvx11
  refine wl_fieldAddr rfl fo_121_2 rfl ?_
  refine wl_rowStoreF 1 i 2 { x2 with t := false } hS9 rfl hvx11 rfl rfl rfl sz_4 hx2 rfl (by decide) rfl (by first | rfl | assumption) ?_
  intro w12 hS13; dsimp only [List.set] at hS13
  clear hS9
  refine wl_nil (qs_block_normal (qs_seq ?_))
  refine wc_sub (L' := [(0, _), (37, _), (38, _)]) (.cons rfl (.cons rfl (.cons rfl .nil))) ?_
  refine wc_region ?_
  refine wl_add rfl rfl (by omega) (by omega) rfl ?_
  refine wl_move rfl rfl (wl_nil ?_)
  have hSz := hS13.pick [0, 1, 2, 3, 4, 5] rfl
  exact qs_round (L1 := [(0, _), (37, intV ((l2.set i { x2 with t := false }).length : Int)), (38, intV ((i + 1 : Nat) : Int))]) (by rw [List.length_set]; exact (.cons rfl (.cons rfl (.cons rfl .nil)))) (k1 := l.length - (i + 1)) (by omega) ⟨l2.set i { x2 with t := false }, i + 1, rfl, rfl, by rw [List.length_set]; exact hSz, by omega, by rw [List.length_set]; exact hl2, by rw [ck_keep (y := { x2 with t := false }) hx2 rfl]; exact hu2⟩
 refine wc_exit (qs_then_exit (qs_then_exit (qs_block_exit (qs_seq (wc_seq ?_)))))
 have hS14 := hS9.drew
 refine wc_draw [0, 1, 2, 3, 4, 5, 6, 7, 8, 9, 10, 11, 12, 13, 14, 15] [12, 15] mix (by kernel_rfl) ?_
 refine vc_p rfl rfl rfl (fun _ => (ev_move rfl)) ?_
 refine vc_p rfl rfl rfl (fun _ => (ev_move rfl)) ?_
 refine vc_p rfl rfl rfl (fun _ => (ev_move rfl)) ?_
 refine vc_p rfl rfl rfl (fun _ => (ev_nilCheck rfl)) ?_
 refine vc_p rfl rfl rfl (fun _ => (ev_fieldAddr rfl fo_108_4)) ?_
 refine vc_q rfl rfl rfl (ev_load rfl ag_57 (by first | assumption | exact hS14.cell 0 rfl rfl)) ?_
 refine vc_p rfl rfl rfl (fun _ => (ev_move rfl)) ?_
 refine vc_p rfl rfl rfl (fun _ => (ev_nilCheck rfl)) ?_
 refine vc_p rfl rfl rfl (fun _ => (ev_fieldAddr rfl fo_108_3)) ?_
 refine vc_q rfl rfl rfl (ev_load rfl ag_57 (by first | assumption | exact hS14.cell 0 rfl rfl)) ?_
 refine vc_p rfl rfl rfl (fun _ => (ev_nilCheck rfl)) ?_
 refine vc_p rfl rfl rfl (fun _ => (ev_fieldAddr rfl fo_108_3)) ?_
 refine vc_s rfl rfl rfl rfl rfl rfl ?_
 first | (refine wl_store hS14 rfl rfl sz_57 (by first | rfl | assumption | exact hS14.own_one 1 rfl) (i := 0) rfl (by first | decide | exact Nat.le_of_ble_eq_true rfl | (simp; done) | omega) ?_)
 intro w15 hS16; dsimp only [List.set] at hS16
 clear hS14
 refine vc_e0 (.skip (by kernel_rfl) (.skip (by kernel_rfl) .nil)) ?_
 refine vc_p rfl rfl rfl (fun _ => (ev_nilCheck rfl)) ?_
 refine vc_p rfl rfl rfl (fun _ => (ev_fieldAddr rfl fo_108_4)) ?_
 refine vc_s rfl rfl rfl rfl rfl rfl ?_
 first | (refine wl_store hS16 rfl rfl sz_57 (by first | rfl | assumption | exact hS16.own_one 1 rfl) (i := 0) rfl (by first | decide | exact Nat.le_of_ble_eq_true rfl | (simp; done) | omega) ?_)
 intro w17 hS18; dsimp only [List.set] at hS18
 clear hS16
 refine vc_e0 (.skip (by kernel_rfl) (.skip (by kernel_rfl) .nil)) ?_
 refine VC.nil (qs_seq ?_)
 refine wc_sub (L' := [(0, _)]) (.cons rfl .nil) ?_
 refine wc_region (wl_move rfl rfl (wl_nilCheck rfl rfl ?_))
 refine wl_fieldAddr rfl fo_108_3 rfl ?_
 refine wl_load rfl ag_57 (by first | assumption | exact hS18.cell 0 rfl rfl) rfl ?_
 refine wl_clearM 4 hS18 Tryz.underlying57 rfl rfl rfl ?_
 intro w19 hS19; dsimp only [List.set] at hS19; rw [gI_none] at hS19
 clear hS18
 refine wl_nil ?_
 refine fin0 (.inl rfl) rfl ?_
 exact ⟨_, rfl, rfl, by rw [if_neg (by rw [hul, List.length_map]; omega)]; exact ckH_shut hu2.symm (by omega) (by omega) (by omega) (hS19.pick [0, 1, 2, 4, 3, 5] rfl)⟩
end Go.Proofs.YtnicmcdeoimhlaaGreat
/- reclaim: Pick, New -/
namespace Go.Proofs.YtnicmcdeoimhlaaGreat
open Go.RowKit M
set_option linter.unusedVariables false
set_option maxRecDepth 100000 in
set_option maxHeartbeats 800000 in
theorem ckpick_sp {w : World} {p : Nat} {ul : List Bool} {F : Th} (hS : Sat w [ckT p ul, F]) :
    Calls Tryz.prog 68 #[ptrV p 0] w (Ret fun v w' => (∃ k : Nat, ul[k]? = some true ∧ v = .tuple #[intV (k : Int), .bool true] ∧ Sat w' [ckT p ul, F]) ∨ ((∀ x ∈ ul, x = false) ∧ v = .tuple #[intV 0, .bool false] ∧ Sat w' [ckT p ul, F])) := by
 obtain ⟨hd, hS⟩ := hS.ex
 refine calls_enter Tryz.func68 rfl Tryz.ntmps68 rfl ?_
 refine wc_seq (wc_region (wl_assign rfl rfl (wl_assign rfl rfl (wl_nil (qs_seq (wc_seq (wc_region (wl_move rfl rfl ?_))))))))
 have hC1 := hS.split [0] [true, false] rfl; dsimp only [selF, pickA, nthA, List.cons_append, List.nil_append] at hC1
 refine wl_call cal_92 rfl (ckvictim_sp hC1) rfl ?_
 rintro e w1 ⟨_, rfl, (⟨k, hk, rfl, hS1⟩ | ⟨hno, rfl, hS1⟩)⟩
 ·refine ⟨_, rfl, ?_⟩
  replace hS1 := hS1.join rfl; dsimp only [List.dropLast, List.cons_append, List.nil_append] at hS1; clear hC1
  refine wl_move rfl rfl (wl_extract rfl rfl rfl (wl_extract rfl rfl rfl (wl_assign rfl rfl (wl_assign rfl rfl (wl_nil (qs_seq (wc_seq (wc_seq (wc_region (wl_move rfl rfl ?_))))))))))
  refine wl_not rfl rfl ?_
  refine wl_nil (qs_seq ?_)
  refine wc_sub (L' := [(12, _), (4, _), (3, _), (2, _), (0, _)]) (.cons rfl (.cons rfl (.cons rfl (.cons rfl (.cons rfl .nil))))) ?_
  refine wc_cond rfl (fun h2 => ?_) (fun h2 => ?_)
  ·exact absurd h2 (by simp)
  refine wc_skip (qs_seq (wc_seq (wc_seq ?_)))
  obtain ⟨ob, cap, l, b1, b2, b3, g1, g2, g3, hul, hl4, hh0, hh1, hSo⟩ := ckH_open (hS1.pick [0, 1] rfl)
  have hull : ul.length = l.length := by rw [hul, List.length_map]
  obtain ⟨x, hx⟩ : ∃ x, l[k]? = some x := ⟨_, List.getElem?_eq_getElem (by have := (List.getElem?_eq_some_iff.1 hk).1; omega)⟩
  refine wc_region (wl_move rfl rfl (wl_nilCheck rfl rfl ?_))
  refine wl_fieldAddr rfl fo_108_0 rfl ?_
  refine wl_load rfl ag_106 (by first | assumption | exact hSo.cell 0 rfl rfl) rfl ?_
  refine wl_move rfl rfl ?_
  refine wl_rowIdx ckC 1 k hSo rfl rfl rfl (by first | rfl | omega) hx es_106 rfl ?_
  intro bx3 capx3 hvx3
  refine wl_fieldAddr rfl fo_121_1 rfl ?_
  refine wl_rowLoad 1 k 1 hSo rfl hvx3 rfl rfl hx ag_4 rfl rfl ?_
  refine wl_nil (qs_seq ?_)
  refine wc_sub (L' := [(20, _), (4, _), (3, _), (2, _), (0, _)]) (.cons rfl (.cons rfl (.cons rfl (.cons rfl (.cons rfl .nil))))) ?_
  refine wc_cond rfl (fun h4 => ?_) (fun h4 => ?_)
  ·refine wc_seq (wc_region (wl_move rfl rfl (wl_nilCheck rfl rfl ?_)))
   refine wl_fieldAddr rfl fo_108_0 rfl ?_
   refine wl_load rfl ag_106 (by first | assumption | exact hSo.cell 0 rfl rfl) rfl ?_
   first | refine wl_lenL Tryz.underlying106 rfl rfl ?_ | refine wl_lenO 1 hSo Tryz.underlying106 rfl rfl rfl ?_
   refine wl_move rfl rfl (wl_nil (qs_seq ?_))
   refine wc_sub (L' := [(26, _), (25, _), (4, _), (3, _), (2, _), (0, _)]) (.cons rfl (.cons rfl (.cons rfl (.cons rfl (.cons rfl (.cons rfl .nil)))))) ?_
   refine wc_block ?_
   have hS5 := ckH_shut (hul) (hl4) (hh0) (hh1) (hSo.pick [0, 1, 2, 3, 4, 5] rfl)
   refine wc_loop (fun K0 E0 W0 => ∃ (i : Nat) (h : Int), K0 = ul.length - i ∧ E0 = [(0, ptrV p 0), (4, intV (k : Int)), (25, intV (ul.length : Int)), (26, intV (i : Int))] ∧ Sat W0 [ckH p ul h, F] ∧ (i ≤ ul.length)) (L0 := [(0, _), (4, _), (25, _), (26, _)]) (ul.length - 0) (.cons rfl (.cons rfl (.cons rfl (.cons rfl .nil)))) ⟨0, hd, rfl, (by rw [hull]; rfl), hS5, by omega⟩ ?_
   rintro _ _ w6 ⟨i, h, rfl, rfl, hS6, hi⟩
   refine wc_seq (wc_region ?_)
   refine wl_lss rfl rfl rfl ?_
   refine wl_nil (qs_seq (wc_seq ?_))
   refine wc_condD rfl (fun h7 => ?_) (fun h7 => ?_)
   ·refine wc_skip (qs_seq (wc_seq (wc_block (wc_region (wl_move rfl rfl ?_)))))
    have hC8 := hS6.split [0] [true, false] rfl; dsimp only [selF, pickA, nthA, List.cons_append, List.nil_append] at hC8
    refine wl_call cal_93 rfl (ckpass_sp hC8) rfl ?_
    rintro e w8 ⟨_, rfl, rfl, hS8⟩; refine ⟨_, rfl, ?_⟩
    replace hS8 := hS8.join rfl; dsimp only [List.dropLast, List.cons_append, List.nil_append] at hS8; clear hC8
    clear hS6
    refine wl_nil (qs_block_normal (qs_seq (wc_region ?_)))
    refine wl_add rfl rfl (by omega) (by omega) rfl ?_
    refine wl_move rfl rfl (wl_nil ?_)
    exact qs_round (L1 := [(0, _), (4, _), (25, _), (26, intV ((i + 1 : Nat) : Int))]) (.cons rfl (.cons rfl (.cons rfl (.cons rfl .nil)))) (k1 := ul.length - (i + 1)) (by omega) ⟨i + 1, _, rfl, rfl, hS8.pick [0, 1] rfl, by omega⟩
   refine wc_exit (qs_then_exit (qs_then_exit (qs_block_exit (qs_seq (wc_seq (wc_block ?_))))))
   obtain ⟨hh, hhe⟩ : ∃ x : Int, x = h := ⟨_, rfl⟩
   rw [← hhe] at hS6
   refine wc_loop (fun K0 E0 W0 => ∃ (h : Int), K0 = (if h ≤ (k : Int) then (k : Int) - h else (ul.length : Int) - h + k).toNat ∧ E0 = [(0, ptrV p 0), (4, intV (k : Int))] ∧ Sat W0 [ckH p ul h, F]) (L0 := [(0, _), (4, _)]) ((if hh ≤ (k : Int) then (k : Int) - hh else (ul.length : Int) - hh + k).toNat) (.cons rfl (.cons rfl .nil)) ⟨_, rfl, rfl, hS6⟩ ?_
   rintro _ _ w9 ⟨h, rfl, rfl, hS9⟩
   refine wc_seq (wc_seq ?_)
   obtain ⟨ob3, cap3, l3, b13, b23, b33, g13, g23, g33, hul3, hl43, hh03, hh13, hSo10⟩ := ckH_open (hS9.pick [0, 1] rfl)
   have hull3 : ul.length = l3.length := by rw [hul3, List.length_map]
   refine wc_region (wl_move rfl rfl (wl_nilCheck rfl rfl ?_))
   refine wl_fieldAddr rfl fo_108_1 rfl ?_
   refine wl_load rfl ag_3 (by first | assumption | exact hSo10.cell 0 rfl rfl) rfl ?_
   refine wl_move rfl rfl ?_
   refine wl_neq rfl rfl rfl ?_
   refine wl_nil ?_
   have hS11 := ckH_shut hul3 hl43 hh03 hh13 (hSo10.pick [0, 1, 2, 3, 4, 5] rfl)
   refine qs_seq ?_
   refine wc_condD rfl (fun h12 => ?_) (fun h12 => ?_)
   ·refine wc_skip (qs_seq (wc_block (wc_region (wl_move rfl rfl ?_))))
    have hC13 := hS11.split [0] [true, false] rfl; dsimp only [selF, pickA, nthA, List.cons_append, List.nil_append] at hC13
    refine wl_call cal_93 rfl (ckpass_sp hC13) rfl ?_
    rintro e w13 ⟨_, rfl, rfl, hS13⟩; refine ⟨_, rfl, ?_⟩
    replace hS13 := hS13.join rfl; dsimp only [List.dropLast, List.cons_append, List.nil_append] at hS13; clear hC13
    clear hS11
    refine wl_nil (qs_block_normal ?_)
    have hkn := (List.getElem?_eq_some_iff.1 hk).1
    exact qs_round (L1 := [(0, _), (4, _)]) (.cons rfl (.cons rfl .nil)) (k1 := (if (if h + 1 < (ul.length : Int) then h + 1 else 0) ≤ (k : Int) then (k : Int) - (if h + 1 < (ul.length : Int) then h + 1 else 0) else (ul.length : Int) - (if h + 1 < (ul.length : Int) then h + 1 else 0) + k).toNat) (by split <;> split <;> split <;> omega) ⟨_, rfl, rfl, hS13.pick [0, 1] rfl⟩
   refine wc_exit (qs_then_exit (qs_then_exit (qs_block_exit (qs_seq (wc_seq (wc_region (wl_move rfl rfl ?_)))))))
   have hC14 := hS11.split [0] [true, false] rfl; dsimp only [selF, pickA, nthA, List.cons_append, List.nil_append] at hC14
   refine wl_call cal_93 rfl (ckpass_sp hC14) rfl ?_
   rintro e w14 ⟨_, rfl, rfl, hS14⟩; refine ⟨_, rfl, ?_⟩
   replace hS14 := hS14.join rfl; dsimp only [List.dropLast, List.cons_append, List.nil_append] at hS14; clear hC14
   clear hS11
   refine wl_nil (qs_seq (wc_seq (wc_region (wl_move rfl rfl (wl_assign rfl rfl (wl_assign rfl rfl (wl_nil (qs_seq ?_))))))))
   refine wc_sub (L' := [(3, _), (2, _)]) (.cons rfl (.cons rfl .nil)) ?_
   refine wc_ret ?_
   refine fin2 (.inr rfl) rfl rfl rfl ?_
   exact ⟨_, rfl, .inl ⟨k, hk, rfl, Sat.ex_intro (f := fun h : Int => ckH p ul h) _ (hS14.pick [0, 1] rfl)⟩⟩
  refine wc_skip (qs_seq (wc_seq (wc_block ?_)))
  have hS15 := ckH_shut (hul) (hl4) (hh0) (hh1) (hSo.pick [0, 1, 2, 3, 4, 5] rfl)
  obtain ⟨hh, hhe⟩ : ∃ x : Int, x = hd := ⟨_, rfl⟩
  rw [← hhe] at hS15
  refine wc_loop (fun K0 E0 W0 => ∃ (h : Int), K0 = (if h ≤ (k : Int) then (k : Int) - h else (ul.length : Int) - h + k).toNat ∧ E0 = [(0, ptrV p 0), (4, intV (k : Int))] ∧ Sat W0 [ckH p ul h, F]) (L0 := [(0, _), (4, _)]) ((if hh ≤ (k : Int) then (k : Int) - hh else (ul.length : Int) - hh + k).toNat) (.cons rfl (.cons rfl .nil)) ⟨_, rfl, rfl, hS15⟩ ?_
  rintro _ _ w16 ⟨h, rfl, rfl, hS16⟩
  refine wc_seq (wc_seq ?_)
  obtain ⟨ob3, cap3, l3, b13, b23, b33, g13, g23, g33, hul3, hl43, hh03, hh13, hSo17⟩ := ckH_open (hS16.pick [0, 1] rfl)
  have hull3 : ul.length = l3.length := by rw [hul3, List.length_map]
  refine wc_region (wl_move rfl rfl (wl_nilCheck rfl rfl ?_))
  refine wl_fieldAddr rfl fo_108_1 rfl ?_
  refine wl_load rfl ag_3 (by first | assumption | exact hSo17.cell 0 rfl rfl) rfl ?_
  refine wl_move rfl rfl ?_
  refine wl_neq rfl rfl rfl ?_
  refine wl_nil ?_
  have hS18 := ckH_shut hul3 hl43 hh03 hh13 (hSo17.pick [0, 1, 2, 3, 4, 5] rfl)
  refine qs_seq ?_
  refine wc_condD rfl (fun h19 => ?_) (fun h19 => ?_)
  ·refine wc_skip (qs_seq (wc_block (wc_region (wl_move rfl rfl ?_))))
   have hC20 := hS18.split [0] [true, false] rfl; dsimp only [selF, pickA, nthA, List.cons_append, List.nil_append] at hC20
   refine wl_call cal_93 rfl (ckpass_sp hC20) rfl ?_
   rintro e w20 ⟨_, rfl, rfl, hS20⟩; refine ⟨_, rfl, ?_⟩
   replace hS20 := hS20.join rfl; dsimp only [List.dropLast, List.cons_append, List.nil_append] at hS20; clear hC20
   clear hS18
   refine wl_nil (qs_block_normal ?_)
   have hkn := (List.getElem?_eq_some_iff.1 hk).1
   exact qs_round (L1 := [(0, _), (4, _)]) (.cons rfl (.cons rfl .nil)) (k1 := (if (if h + 1 < (ul.length : Int) then h + 1 else 0) ≤ (k : Int) then (k : Int) - (if h + 1 < (ul.length : Int) then h + 1 else 0) else (ul.length : Int) - (if h + 1 < (ul.length : Int) then h + 1 else 0) + k).toNat) (by split <;> split <;> split <;> omega) ⟨_, rfl, rfl, hS20.pick [0, 1] rfl⟩
  refine wc_exit (qs_then_exit (qs_then_exit (qs_block_exit (qs_seq (wc_seq (wc_region (wl_move rfl rfl ?_)))))))
  have hC21 := hS18.split [0] [true, false] rfl; dsimp only [selF, pickA, nthA, List.cons_append, List.nil_append] at hC21
  refine wl_call cal_93 rfl (ckpass_sp hC21) rfl ?_
  rintro e w21 ⟨_, rfl, rfl, hS21⟩; refine ⟨_, rfl, ?_⟩
  replace hS21 := hS21.join rfl; dsimp only [List.dropLast, List.cons_append, List.nil_append] at hS21; clear hC21
  clear hS18
  refine wl_nil (qs_seq (wc_seq (wc_region (wl_move rfl rfl (wl_assign rfl rfl (wl_assign rfl rfl (wl_nil (qs_seq ?_))))))))
  refine wc_sub (L' := [(3, _), (2, _)]) (.cons rfl (.cons rfl .nil)) ?_
  refine wc_ret ?_
  refine fin2 (.inr rfl) rfl rfl rfl ?_
  exact ⟨_, rfl, .inl ⟨k, hk, rfl, Sat.ex_intro (f := fun h : Int => ckH p ul h) _ (hS21.pick [0, 1] rfl)⟩⟩
 refine ⟨_, rfl, ?_⟩
 replace hS1 := hS1.join rfl; dsimp only [List.dropLast, List.cons_append, List.nil_append] at hS1; clear hC1
 refine wl_move rfl rfl (wl_extract rfl rfl rfl (wl_extract rfl rfl rfl (wl_assign rfl rfl (wl_assign rfl rfl (wl_nil (qs_seq (wc_seq (wc_seq (wc_region (wl_move rfl rfl ?_))))))))))
 refine wl_not rfl rfl ?_
 refine wl_nil (qs_seq ?_)
 refine wc_sub (L' := [(12, _), (4, _), (3, _), (2, _), (0, _)]) (.cons rfl (.cons rfl (.cons rfl (.cons rfl (.cons rfl .nil))))) ?_
 refine wc_cond rfl (fun h22 => ?_) (fun h22 => ?_)
 ·refine wc_seq (wc_region (wl_assign rfl rfl (wl_assign rfl rfl (wl_nil (qs_seq (wc_ret (qs_then_ret ?_)))))))
  refine fin2 (.inr rfl) rfl rfl rfl ?_
  exact ⟨_, rfl, .inr ⟨hno, rfl, Sat.ex_intro (f := fun h : Int => ckH p ul h) _ (hS1.pick [0, 1] rfl)⟩⟩
 exact absurd h22 (by simp)
theorem ckgoneT {w : World} {p : Nat} {ul : List Bool} {F : Th} (hS : Sat w [ckT p ul, F]) (f : Int) (hf : 0 ≤ f ∧ f < (ul.length : Int)) :
    Calls Tryz.prog 91 #[ptrV p 0, intV f] w (Ret fun v w' => v = .tuple #[] ∧ Sat w' [ckT p (ul.set f.toNat false), F]) := by
  obtain ⟨hd, hS⟩ := hS.ex
  exact (ckgone_sp hS f hf).mono fun e w1 h => h.mono fun v w2 ⟨h1, h2⟩ => ⟨h1, Sat.ex_intro (f := fun h : Int => ckH p (ul.set f.toNat false) h) hd h2⟩
theorem cktouchT {w : World} {p : Nat} {ul : List Bool} {F : Th} (hS : Sat w [ckT p ul, F]) (f : Int) (hf : 0 ≤ f ∧ f < (ul.length : Int)) :
    Calls Tryz.prog 71 #[ptrV p 0, intV f] w (Ret fun v w' => v = .tuple #[] ∧ Sat w' [ckT p ul, F]) := by
  obtain ⟨hd, hS⟩ := hS.ex
  exact (cktouch_sp hS f hf).mono fun e w1 h => h.mono fun v w2 ⟨h1, h2⟩ => ⟨h1, Sat.ex_intro (f := fun h : Int => ckH p ul h) hd h2⟩
theorem ckuseT {w : World} {p : Nat} {ul : List Bool} {F : Th} (hS : Sat w [ckT p ul, F]) (f : Int) (hf : 0 ≤ f ∧ f < (ul.length : Int)) (owner : Int) :
    Calls Tryz.prog 70 #[ptrV p 0, intV f, intV owner] w (Ret fun v w' => v = .tuple #[] ∧ Sat w' [ckT p (ul.set f.toNat true), F]) := by
  obtain ⟨hd, hS⟩ := hS.ex
  exact (ckuse_sp hS f hf owner).mono fun e w1 h => h.mono fun v w2 ⟨h1, h2⟩ => ⟨h1, Sat.ex_intro (f := fun h : Int => ckH p (ul.set f.toNat true) h) hd h2⟩
theorem ckrow {Z : List Value} (hZ : Z = ckC.enc ⟨false, false, false, 0⟩) (m : Nat) : (List.replicate m Z).flatten = ckC.cells (List.replicate m ⟨false, false, false, 0⟩) := by
  subst hZ
  induction m with
  | zero => rfl
  | succ m ih => rw [List.replicate_succ, List.flatten_cons, ih, List.replicate_succ]; rfl
set_option maxRecDepth 100000 in
theorem cknew_sp {w : World} {F : Th} (hS : Sat w [F]) (n : Int) (hn : 1 ≤ n) :
    Calls Tryz.prog 31 #[intV n] w (Ret fun v w' => ∃ p, v = ptrV p 0 ∧ Sat w' [ckT p (List.replicate (min (max n 0) 4096).toNat false), F]) := by
 refine calls_enter Tryz.func31 rfl Tryz.ntmps31 rfl ?_
 refine wc_seq (wc_region (wl_assign rfl rfl (wl_nil (qs_seq (wc_seq (wc_region (wl_move rfl rfl ?_)))))))
 refine wl_maxI rfl rfl rfl ?_
 refine wl_minI rfl rfl rfl ?_
 refine wl_make hS (min (max n 0) 4096).toNat rfl rfl (by omega) Tryz.underlying106 ifo_121 rfl (by omega) (by omega) rfl ?_
 intro db w1 hS1a; have hS1 := hS1a.row_cast (l := List.replicate (min (max n 0) 4096).toNat ⟨false, false, false, 0⟩) (C := ckC) (by simp) rfl (ckrow rfl _)
 refine wl_makeMap intK hS1 rfl ?_
 intro mb1 w2 hS2; rw [gI_none] at hS2
 clear hS1
 refine wl_makeMap intK hS2 rfl ?_
 intro mb2 w3 hS3; rw [gI_none] at hS3
 clear hS2
 refine wl_makeMap intK hS3 rfl ?_
 intro mb3 w4 hS4; rw [gI_none] at hS4
 clear hS3
 refine wl_buildS rfl pl_108_0_2_3_4 asz_108 zr_108 rfl rfl ?_
 refine wl_box hS4 rfl rfl rfl ?_
 intro bp wbp hSbp
 clear hS4
 refine wl_assign rfl rfl (wl_nil (qs_seq ?_))
 refine wc_sub (L' := [(2, _)]) (.cons rfl .nil) ?_
 refine wc_ret ?_
 refine fin1 (.inr rfl) rfl rfl ?_
 exact ⟨_, rfl, _, rfl, Sat.ex_intro (f := fun h : Int => ckH bp _ h) 0 (ckH_shut (l := List.replicate (min (max n 0) 4096).toNat ⟨false, false, false, 0⟩) (by rw [List.map_replicate]) (by rw [List.length_replicate]; omega) (by omega) (by rw [List.length_replicate]; omega) (hSbp.pick [0, 4, 3, 2, 1, 5] rfl))⟩
end Go.Proofs.YtnicmcdeoimhlaaGreat
/- The shelf's contract of sorting ints as a contract of things. Conditions: each one's own hypotheses. -/
namespace Go.Proofs.YtnicmcdeoimhlaaGreat.M
open Go.RowKit Go.Sort
def sortI (l : List Int) : List Int := l.mergeSort fun x y => decide (x ≤ y)
theorem sortI_perm (l : List Int) : (sortI l).Perm l := List.mergeSort_perm _ _
theorem sortI_len (l : List Int) : (sortI l).length = l.length := (sortI_perm l).length_eq
theorem putCells_allI (d xs : List Int) (sp : List Value) (h : d.length = xs.length) : (putCells (Value.int .i64) 0 d.toArray (xs.map intV ++ sp).toArray) = (d.map intV ++ sp).toArray := by
  apply Array.ext_getElem?
  intro k
  unfold putCells
  simp only [Array.getElem?_mapIdx, List.getElem?_toArray, Nat.zero_le, true_and, Nat.zero_add, Nat.sub_zero, List.size_toArray]
  by_cases hk : k < d.length
  · rw [List.getElem?_append_left (by simpa [← h] using hk), List.getElem?_append_left (by simpa using hk)]
    simp [hk, h ▸ hk, intV]
  · rw [List.getElem?_append_right (by simp; omega), List.getElem?_append_right (by simp; omega)]
    have hk' : ¬ k < xs.length := by omega
    simp only [List.length_map, h, hk', if_false, Option.map_id']
theorem calls_sortI {P : Program} {f : Nat}
    (hsome : ∀ (blk off cap : Nat) (ss : List Int) (w : World), Holds (Value.int .i64) w blk off ss.toArray → blk < w.heap.size → ss.length < 4611686018427387904 → Calls P f #[.slice (some ⟨blk, off, none⟩) ss.length cap] w fun e w' => e = .returned (.tuple #[]) ∧ ∃ n os, w' = grow (putRow (Value.int .i64) (Go.Sort.ahead w n) blk off (ss.mergeSort fun x y => decide (x ≤ y)).toArray) os)
    (hnone : ∀ (p : Option Addr) (cap : Nat) (w : World), Calls P f #[.slice p 0 cap] w fun e w' => e = .returned (.tuple #[]) ∧ w' = w)
    {w : World} {v : Value} {l : List Int} {As : List Th} (hS : Sat w (rowT inC v l :: As)) (hl : l.length < 4611686018427387904) : Calls P f #[v] w (Ret fun u w' => u = .tuple #[] ∧ Sat w' (rowT inC v (sortI l) :: As)) := by
  obtain ⟨foot, hlen, h⟩ := hS.own 0 rfl
  rcases h with ⟨rfl, hn, hf⟩ | ⟨b, cap, sp, rfl, hcap, hb, hsz, hf⟩
  · have : l = [] := List.eq_nil_of_length_eq_zero hn
    subst this
    exact (hnone none 0 w).mono fun e w' ⟨h1, h2⟩ => ⟨_, h1, rfl, by rw [h2]; simpa [sortI] using hS⟩
  · have hH : Holds (Value.int .i64) w b 0 l.toArray := fun j hj => by
      have hj' : j < l.length := by simpa using hj
      rw [inC_cells2] at hb
      refine ⟨?_, ?_⟩
      · rw [Nat.zero_add]
        refine hb.cell ?_
        rw [List.getElem?_append_left (by simpa using hj')]
        simp [hj', intV]
      · exact hb.free _ (by simp; omega)
    refine (hsome b 0 cap l w hH hb.lt hl).mono fun e w' ⟨h1, n, os, h2⟩ => ⟨_, h1, rfl, ?_⟩
    have hlt := hb.lt
    have hheap : ∀ k, k < w.heap.size → k ≠ b → w'.heap[k]? = w.heap[k]? := fun k hk hne => by
      rw [h2, heap_grow_old _ _ (by simpa using hk)]
      simp only [putRow, mapBlock, heap_ahead, Array.getElem?_modify]
      rw [if_neg (fun q => hne q.symm)]
    obtain ⟨T, lo, hi, hc, hfz⟩ := hb
    have hnew : w'.heap[b]? = some (.cells ((sortI l).map intV ++ sp).toArray T (lo, hi)) := by
      rw [h2, heap_grow_old _ _ (by simpa using hlt)]
      simp only [putRow, mapBlock, heap_ahead, Array.getElem?_modify, if_pos, hc, Option.map_some, onCells, inC_cells2]
      rw [show (l.mergeSort fun x y => decide (x ≤ y)) = sortI l from rfl, putCells_allI _ _ _ (sortI_len l)]
    have ho : Only [b] w w' := by
      refine ⟨?_, ?_, ?_, ?_, fun k hk hn => hheap k hk (by simpa using hn)⟩
      · rw [h2]; rfl
      · rw [h2]; rfl
      · rw [h2]; rfl
      · rw [h2]; simp
    have hfin := hS.own_set (w' := w') 0 rfl (v' := .slice (some ⟨b, 0, none⟩) l.length cap) (n' := l.length) (size' := 1) (xs' := inC.cells (sortI l)) (fun foot' g => by
      obtain ⟨_, g⟩ := g
      rcases g with ⟨g0, _⟩ | ⟨b', cap', sp', g0, g1, g2, g3, g4⟩
      · cases g0
      · simp only [Value.slice.injEq, Option.some.injEq, Addr.mk.injEq, and_true, true_and] at g0
        obtain ⟨rfl, rfl⟩ := g0
        refine ⟨[b], ⟨?_, .inr ⟨b, cap, sp, rfl, hcap, ⟨T, lo, hi, ?_, ?_⟩, ?_, rfl⟩⟩, ?_, ?_⟩
        · rw [inC.cells_len, sortI_len]; rfl
        · rw [inC_cells2]; exact hnew
        · rcases hfz with q | q
          · exact .inl q
          · refine .inr ?_
            simp only [List.length_append, inC.cells_len, sortI_len] at q ⊢; exact q
        · simp only [List.length_append, inC.cells_len, sortI_len] at hsz ⊢; exact hsz
        · rw [g4]; exact ho
        · rw [g4]; intro k hk; exact .inl hk)
    have e : (sortI l).length = l.length := sortI_len l
    show Sat w' (ownT _ (sortI l).length 1 _ :: As)
    rw [e]; exact hfin
end Go.Proofs.YtnicmcdeoimhlaaGreat.M
