/- reference 28: Bytes -/
import Derived.Test.YtcbdclhoekokpaaGreatDoorPe1
namespace Go.Proofs.YtcbdclhoekokpaaGreatDoor
open Go.RowKit M
set_option linter.unusedVariables false
theorem act_c0 (x : ProcD) (av fv : Value) : ∀ (j : Nat), j < 16 → (procV x av fv)[24 + j * 2]? = some (intV (tq x (2 + 2 * j)))
  | 0, _ => rfl
  | 1, _ => rfl
  | 2, _ => rfl
  | 3, _ => rfl
  | 4, _ => rfl
  | 5, _ => rfl
  | 6, _ => rfl
  | 7, _ => rfl
  | 8, _ => rfl
  | 9, _ => rfl
  | 10, _ => rfl
  | 11, _ => rfl
  | 12, _ => rfl
  | 13, _ => rfl
  | 14, _ => rfl
  | 15, _ => rfl
  | _ + 16, h => absurd h (by omega)
theorem act_c1 (x : ProcD) (av fv : Value) : ∀ (j : Nat), j < 16 → (procV x av fv)[24 + j * 2 + 1]? = some (.bool (decide (tq x (3 + 2 * j) = 1)))
  | 0, _ => rfl
  | 1, _ => rfl
  | 2, _ => rfl
  | 3, _ => rfl
  | 4, _ => rfl
  | 5, _ => rfl
  | 6, _ => rfl
  | 7, _ => rfl
  | 8, _ => rfl
  | 9, _ => rfl
  | 10, _ => rfl
  | 11, _ => rfl
  | 12, _ => rfl
  | 13, _ => rfl
  | 14, _ => rfl
  | 15, _ => rfl
  | _ + 16, h => absurd h (by omega)
theorem head_all {x : ProcD} (h : WFR x) {i : Nat} (hi : 8 ≤ i) : encIs ([0, 1, 2, 3, 4, 5, 6, 7, 8, 9].map (hq x)) ++ encIs (([10, 11, 12, 13, 14, 15, 16, 17].map (hq x)).take i) ++ encN (hq x 18) = encIs x.hs := by
  rw [List.take_of_length_le (by simpa using hi), ← hs_all h]
  simp [encIs]
theorem fm_take {α : Type} (f : α → Bs) (l : List α) (i : Nat) : ((l.take i).flatMap f).length ≤ (l.flatMap f).length := by
  have := congrArg (fun l => (l.flatMap f).length) (List.take_append_drop i l)
  simp only [List.flatMap_append, List.length_append] at this; omega
theorem is_le {l : List Int} {k : Nat} (h : ∀ n ∈ l, inI n) (hk : l.length ≤ k) : (encIs l).length ≤ 30 * k := Nat.le_trans (encIs_len h) (Nat.mul_le_mul_left _ hk)
set_option maxRecDepth 100000 in
set_option maxHeartbeats 4000000 in
theorem qBytes_sp {w : World} {F : Th} (hS : Sat w [F]) {x : ProcD} (hw : WFR x) {av fv : Value} (hA : Ent F (RdL arC av x.ar)) (hB : Ent F (RdL stC fv x.fds)) (hz : (encR x).length ≤ 1000000000000000) :
    Calls Tryz.prog 28 #[.agg (procV x av fv).toArray] w (Ret fun v w' => v = strV (encR x) ∧ Sat w' [F]) := by
  obtain ⟨aa, ac, rfl, hma⟩ := (hA.sat hS 0 rfl).shape
  obtain ⟨fa, fc, rfl, hmf⟩ := (hB.sat hS 0 rfl).shape
  refine calls_enter Tryz.func28 rfl Tryz.ntmps28 rfl ?_
  have hel := encR_len x
  have hnl := encN_len (n := (x.ar.length : Int)) (by have := hw.al; unfold inI; omega)
  refine wc_seq ?_
  refine wc_region ?_
  refine wl_box hS rfl rfl rfl ?_
  intro bp wp hSp0
  have hSp : Sat wp [blkT bp (procV x (.slice aa x.ar.length ac) (.slice fa x.fds.length fc)), F] := hSp0
  refine wl_assign rfl rfl ?_
  refine wl_nil ?_
  refine qs_seq ?_
  refine wc_seq ?_
  refine wc_region ?_
  refine wl_fieldAddr rfl fo_38_0 rfl ?_
  refine wl_load rfl ag_3 (by first | assumption | exact hSp.cell 0 rfl rfl) rfl ?_
  refine wl_fieldAddr rfl fo_38_1 rfl ?_
  refine wl_load rfl ag_3 (by first | assumption | exact hSp.cell 0 rfl rfl) rfl ?_
  refine wl_fieldAddr rfl fo_38_2 rfl ?_
  refine wl_load rfl ag_3 (by first | assumption | exact hSp.cell 0 rfl rfl) rfl ?_
  refine wl_fieldAddr rfl fo_38_3 rfl ?_
  refine wl_load rfl ag_3 (by first | assumption | exact hSp.cell 0 rfl rfl) rfl ?_
  refine wl_fieldAddr rfl fo_38_4 rfl ?_
  refine wl_load rfl ag_3 (by first | assumption | exact hSp.cell 0 rfl rfl) rfl ?_
  refine wl_fieldAddr rfl fo_38_5 rfl ?_
  refine wl_load rfl ag_3 (by first | assumption | exact hSp.cell 0 rfl rfl) rfl ?_
  refine wl_fieldAddr rfl fo_38_6 rfl ?_
  refine wl_load rfl ag_3 (by first | assumption | exact hSp.cell 0 rfl rfl) rfl ?_
  refine wl_fieldAddr rfl fo_38_7 rfl ?_
  refine wl_load rfl ag_3 (by first | assumption | exact hSp.cell 0 rfl rfl) rfl ?_
  refine wl_fieldAddr rfl fo_38_8 rfl ?_
  refine wl_load rfl ag_3 (by first | assumption | exact hSp.cell 0 rfl rfl) rfl ?_
  refine wl_fieldAddr rfl fo_38_9 rfl ?_
  refine wl_load rfl ag_3 (by first | assumption | exact hSp.cell 0 rfl rfl) rfl ?_
  refine wl_intsBuild ([0, 1, 2, 3, 4, 5, 6, 7, 8, 9].map (hq x)) hSp rfl rfl Tryz.underlying46 ifz_3 rfl rfl rfl rfl ?_
  intro b1 w1 hS1
  clear hSp
  have hC2 := hS1.split [] [false, false, false] rfl; dsimp only [selF, pickA, nthA, List.cons_append, List.nil_append] at hC2
  refine wl_call cal_77 rfl (qints_sp hC2 (Ent.starL (ent_row (C := inC) (l := ([0, 1, 2, 3, 4, 5, 6, 7, 8, 9].map (hq x))) (by simp)) 0 rfl) (all_hq hw _) (by simp)) rfl ?_
  rintro e w2 ⟨_, rfl, rfl, hS2⟩; refine ⟨_, rfl, ?_⟩
  replace hS2 := hS2.join rfl; dsimp only [List.dropLast, List.cons_append, List.nil_append] at hS2; clear hC2
  clear hS1
  refine wl_assign rfl rfl ?_
  refine wl_nil ?_
  refine qs_seq ?_
  refine wc_sub (L' := [(3, _), (2, _), (1, _)]) (.cons rfl (.cons rfl (.cons rfl .nil))) ?_
  refine wc_seq ?_
  refine wc_seq ?_
  refine wc_region ?_
  refine wl_assign rfl rfl ?_
  refine wl_nil ?_
  refine qs_seq ?_
  refine wc_block ?_
  refine wc_loop (fun K0 E0 W0 => ∃ (i : Nat), K0 = 8 - i ∧ E0 = [(1, ptrV bp 0), (3, strV (encIs ([0, 1, 2, 3, 4, 5, 6, 7, 8, 9].map (hq x)) ++ encIs (([10, 11, 12, 13, 14, 15, 16, 17].map (hq x)).take i))), (4, intV (i : Int))] ∧ Sat W0 [blkT bp (procV x (.slice aa x.ar.length ac) (.slice fa x.fds.length fc)), F] ∧ (i ≤ 8)) (L0 := [(1, _), (3, _), (4, _)]) (8 - 0) (.cons rfl (.cons rfl (.cons rfl .nil))) ⟨0, rfl, by rw [List.take_zero, show encIs [] = [] from rfl, List.append_nil]; rfl, hS2.pick [1, 2] rfl, by omega⟩ ?_
  rintro _ _ w3 ⟨i, rfl, rfl, hS3, hi⟩
  have hla := is_le (all_hq hw [0, 1, 2, 3, 4, 5, 6, 7, 8, 9]) (k := 10) (by simp)
  have hlb := is_le (l := ([10, 11, 12, 13, 14, 15, 16, 17].map (hq x)).take i) (fun n hn => all_hq hw _ n (List.mem_of_mem_take hn)) (k := 8) (by simp; omega)
  refine wc_seq ?_
  refine wc_seq ?_
  refine wc_region ?_
  refine wl_move rfl rfl ?_
  refine wl_lss rfl rfl rfl ?_
  refine wl_nil ?_
  refine qs_seq ?_
  refine wc_condD rfl (fun h4 => ?_) (fun h4 => ?_)
  · skip
    obtain ⟨y, hy⟩ : ∃ y, ([10, 11, 12, 13, 14, 15, 16, 17].map (hq x))[i]? = some y := ⟨_, List.getElem?_eq_getElem (by simp; omega)⟩
    have hyi := all_hq hw _ y (List.mem_of_getElem? hy)
    have hyl := encN_len hyi
    refine wc_skip ?_
    refine qs_seq ?_
    refine wc_seq ?_
    refine wc_block ?_
    refine wc_region ?_
    refine wl_move rfl rfl ?_
    refine wl_move rfl rfl ?_
    refine wl_fieldAddr rfl fo_38_10 rfl ?_
    refine wl_fieldAddr rfl fo_29_0 rfl ?_
    refine wl_indexAddrA _ Tryz.underlying27 rfl rfl (by first | rfl | omega) (by first | omega | (simp only [List.length_append, List.length_cons, List.length_nil]; omega) | (simp; done) | (simp; omega)) sz_3 rfl ?_
    refine wl_load rfl ag_3 (hS3.cell 0 (o := 10 + i * 1) rfl (by rw [Nat.mul_one]; exact reg_at _ _ _ i y hy)) rfl ?_
    have hC5 := hS3.split [] [false, false] rfl; dsimp only [selF, pickA, nthA, List.cons_append, List.nil_append] at hC5
    refine wl_call cal_78 rfl (r1Int_sp hC5 y hyi) rfl ?_
    rintro e w5 ⟨_, rfl, rfl, hS5⟩; refine ⟨_, rfl, ?_⟩
    replace hS5 := hS5.join rfl; dsimp only [List.dropLast, List.cons_append, List.nil_append] at hS5; clear hC5
    clear hS3
    rw [show Lib.itoa y ++ [59] = encN y from rfl]
    refine wl_concat rfl rfl (by first | omega | (simp only [List.length_append, List.length_cons, List.length_nil]; omega) | (simp; done) | (simp; omega)) rfl ?_
    refine wl_assign rfl rfl ?_
    refine wl_nil ?_
    refine qs_block_normal ?_
    refine qs_seq ?_
    refine wc_sub (L' := [(3, _), (1, _), (4, _)]) (.cons rfl (.cons rfl (.cons rfl .nil))) ?_
    refine wc_region ?_
    refine wl_move rfl rfl ?_
    refine wl_add rfl rfl (by first | omega | (simp only [List.length_append, List.length_cons, List.length_nil]; omega) | (simp; done) | (simp; omega)) (by first | omega | (simp only [List.length_append, List.length_cons, List.length_nil]; omega) | (simp; done) | (simp; omega)) rfl ?_
    refine wl_assign rfl rfl ?_
    refine wl_nil ?_
    exact qs_round (L1 := [(1, _), (3, _), (4, intV ((i + 1 : Nat) : Int))]) (.cons rfl (.cons rfl (.cons rfl .nil))) (k1 := 8 - (i + 1)) (by omega) ⟨i + 1, rfl, by rw [encIs_succ hy, ← List.append_assoc], hS5.pick [0, 1] rfl, by omega⟩
  refine wc_exit ?_
  refine qs_then_exit ?_
  refine qs_then_exit ?_
  refine qs_block_exit ?_
  refine qs_seq ?_
  refine wc_seq ?_
  have hql := encN_len (hq_in hw 18)
  have hS6 := hS3.drew
  refine wc_draw [0, 1, 2, 3, 6, 7, 8, 4, 5, 9, 10, 11] [4, 9] mix (by kernel_rfl) ?_
  refine vc_p rfl rfl rfl (fun _ => (ev_move rfl)) ?_
  refine vc_p rfl rfl rfl (fun _ => (ev_fieldAddr rfl fo_38_10)) ?_
  refine vc_p rfl rfl rfl (fun _ => (ev_fieldAddr rfl fo_29_1)) ?_
  refine vc_q rfl rfl rfl (ev_load rfl ag_3 (by first | assumption | exact hS6.cell 0 rfl rfl)) ?_
  refine vc_p rfl rfl rfl (fun _ => (ev_fieldAddr rfl fo_38_11)) ?_
  refine vc_q rfl rfl rfl (ev_load rfl ag_30 (by first | assumption | exact hS6.cell 0 rfl rfl)) ?_
  refine vc_p rfl rfl rfl (fun _ => (ev_lenL Tryz.underlying30 rfl)) ?_
  refine vc_s rfl rfl rfl rfl rfl rfl ?_
  have hC7 := hS6.split [] [false, false] rfl; dsimp only [selF, pickA, nthA, List.cons_append, List.nil_append] at hC7
  refine wl_call cal_78 rfl (r1Int_sp hC7 (hq x 18) (hq_in hw _)) rfl ?_
  rintro e w7 ⟨_, rfl, rfl, hS7⟩; refine ⟨_, rfl, ?_⟩
  replace hS7 := hS7.join rfl; dsimp only [List.dropLast, List.cons_append, List.nil_append] at hS7; clear hC7
  clear hS6
  rw [show Lib.itoa (hq x 18) ++ [59] = encN (hq x 18) from rfl]
  refine vc_e (.cons (.inl ⟨rfl, (ev_load rfl ag_30 (by first | assumption | exact hS7.cell 0 rfl rfl))⟩) (.skip (by kernel_rfl) .nil)) ?_
  refine vc_p rfl rfl rfl (fun _ => (ev_concat rfl rfl (by first | omega | (simp only [List.length_append, List.length_cons, List.length_nil]; omega) | (simp; done) | (simp; omega)))) ?_
  refine vc_s rfl rfl rfl rfl rfl rfl ?_
  have hC8 := hS7.split [] [false, false] rfl; dsimp only [selF, pickA, nthA, List.cons_append, List.nil_append] at hC8
  refine wl_call cal_79 rfl (r1WNum_sp hC8 (x.ar.length : Int) (by have := hw.al; unfold inI; omega) (by omega)) rfl ?_
  rintro e w8 ⟨_, rfl, rfl, hS8⟩; refine ⟨_, rfl, ?_⟩
  replace hS8 := hS8.join rfl; dsimp only [List.dropLast, List.cons_append, List.nil_append] at hS8; clear hC8
  clear hS7
  refine vc_e (.skip (by kernel_rfl) (.skip (by kernel_rfl) .nil)) ?_
  refine vc_p rfl rfl rfl (fun _ => (ev_concat rfl rfl (by first | omega | (simp only [List.length_append, List.length_cons, List.length_nil]; omega) | (simp; done) | (simp; omega)))) ?_
  refine vc_p rfl rfl rfl (fun _ => (ev_assign rfl)) ?_
  refine VC.nil ?_
  refine qs_seq ?_
  refine wc_sub (L' := [(3, _), (1, _)]) (.cons rfl (.cons rfl .nil)) ?_
  refine wc_seq ?_
  refine wc_seq ?_
  refine wc_region ?_
  refine wl_assign rfl rfl ?_
  refine wl_nil ?_
  refine qs_seq ?_
  refine wc_block ?_
  refine wc_loop (fun K0 E0 W0 => ∃ (i : Nat), K0 = x.ar.length - i ∧ E0 = [(1, ptrV bp 0), (3, strV (encIs x.hs ++ encN (x.ar.length : Int) ++ (x.ar.take i).flatMap encAr)), (5, intV (i : Int))] ∧ Sat W0 [blkT bp (procV x (.slice aa x.ar.length ac) (.slice fa x.fds.length fc)), F] ∧ (i ≤ x.ar.length)) (L0 := [(1, _), (3, _), (5, _)]) (x.ar.length - 0) (.cons rfl (.cons rfl (.cons rfl .nil))) ⟨0, rfl, by rw [List.take_zero, List.flatMap_nil, List.append_nil, ← head_all hw (i := i) (by omega)]; rfl, hS8.pick [0, 1] rfl, by omega⟩ ?_
  rintro _ _ w9 ⟨i, rfl, rfl, hS9, hi⟩
  have hlt := fm_take encAr x.ar i
  refine wc_seq ?_
  refine wc_seq ?_
  refine wc_region ?_
  refine wl_move rfl rfl ?_
  refine wl_fieldAddr rfl fo_38_11 rfl ?_
  refine wl_load rfl ag_30 (by first | assumption | exact hS9.cell 0 rfl rfl) rfl ?_
  refine wl_lenL Tryz.underlying30 rfl rfl ?_
  refine wl_lss rfl rfl rfl ?_
  refine wl_nil ?_
  refine qs_seq ?_
  refine wc_condD rfl (fun h10 => ?_) (fun h10 => ?_)
  · skip
    obtain ⟨y, hy⟩ : ∃ y, x.ar[i]? = some y := ⟨_, List.getElem?_eq_getElem (by omega)⟩
    obtain ⟨b, off, rfl, hc⟩ := (hA.sat hS9 1 rfl).get hy
    have hwy := hw.ar y (List.mem_of_getElem? hy)
    have hone : allOne (arV6 y) = true := rfl
    have hz1 := is_le (l := [y.a, y.n]) (by intro n hn; simp only [List.mem_cons, List.not_mem_nil, or_false] at hn; rcases hn with rfl | rfl; exact hwy.a; exact hwy.n) (k := 2) (by simp)
    have hz2 := is_le (l := [y.f, bitN y.sh, bitN y.wr]) (by intro n hn; simp only [List.mem_cons, List.not_mem_nil, or_false] at hn; rcases hn with rfl | rfl | rfl; exact hwy.f; exact bit_in _; exact bit_in _) (k := 3) (by simp)
    have hz3 := encT_len hwy.o
    have hz4 := hwy.o
    refine wc_skip ?_
    refine qs_seq ?_
    refine wc_seq ?_
    refine wc_block ?_
    refine wc_seq ?_
    refine wc_region ?_
    refine wl_fieldAddr rfl fo_38_11 rfl ?_
    refine wl_load rfl ag_30 (by first | assumption | exact hS9.cell 0 rfl rfl) rfl ?_
    refine wl_move rfl rfl ?_
    refine wl_indexAddr i rfl rfl (by first | rfl | omega) (by omega) es_30 rfl ?_
    refine wl_loadAt rfl ag_89 sz_89 (vs := arV6 y) hc rfl ?_
    refine wl_alloc hS9 zr_89 rfl rfl ?_
    intro ba w11 hS11
    clear hS9
    refine wl_storeA hS11 rfl rfl sz_89 rfl (by first | rfl | (simp [allOne, Value.oneCell']; done) | assumption) (i := 0) rfl (by first | decide | exact Nat.le_of_ble_eq_true rfl | (simp; done) | omega) ?_
    intro w12 hS12; dsimp only [List.set] at hS12
    clear hS11
    rw [splice_all _ _ (by rfl)] at hS12
    refine wl_nil ?_
    refine qs_seq ?_
    refine wc_sub (L' := [(6, _), (1, _), (3, _), (5, _)]) (.cons rfl (.cons rfl (.cons rfl (.cons rfl .nil)))) ?_
    have hS13 := hS12.drew
    refine wc_draw [0, 1, 2, 3, 4, 8, 9, 12, 13, 14, 15, 17, 18, 5, 6, 7, 10, 11, 16, 19, 20, 21, 22, 23] [5, 6, 10, 16, 19, 20, 21] mix (by kernel_rfl) ?_
    refine vc_p rfl rfl rfl (fun _ => (ev_move rfl)) ?_
    refine vc_p rfl rfl rfl (fun _ => (ev_fieldAddr rfl fo_89_0)) ?_
    refine vc_q rfl rfl rfl (ev_load rfl ag_3 (by first | assumption | exact hS13.cell 0 rfl rfl | exact hS13.cell 1 rfl rfl)) ?_
    refine vc_p rfl rfl rfl (fun _ => (ev_fieldAddr rfl fo_89_1)) ?_
    refine vc_q rfl rfl rfl (ev_load rfl ag_3 (by first | assumption | exact hS13.cell 0 rfl rfl | exact hS13.cell 1 rfl rfl)) ?_
    refine vc_p rfl rfl rfl (fun _ => (ev_fieldAddr rfl fo_89_2)) ?_
    refine vc_q rfl rfl rfl (ev_load rfl ag_9 (by first | assumption | exact hS13.cell 0 rfl rfl | exact hS13.cell 1 rfl rfl)) ?_
    refine vc_p rfl rfl rfl (fun _ => (ev_fieldAddr rfl fo_89_3)) ?_
    refine vc_q rfl rfl rfl (ev_load rfl ag_3 (by first | assumption | exact hS13.cell 0 rfl rfl | exact hS13.cell 1 rfl rfl)) ?_
    refine vc_p rfl rfl rfl (fun _ => (ev_fieldAddr rfl fo_89_4)) ?_
    refine vc_q rfl rfl rfl (ev_load rfl ag_4 (by first | assumption | exact hS13.cell 0 rfl rfl | exact hS13.cell 1 rfl rfl)) ?_
    refine vc_p rfl rfl rfl (fun _ => (ev_fieldAddr rfl fo_89_5)) ?_
    refine vc_q rfl rfl rfl (ev_load rfl ag_4 (by first | assumption | exact hS13.cell 0 rfl rfl | exact hS13.cell 1 rfl rfl)) ?_
    refine vc_s rfl rfl rfl rfl rfl rfl ?_
    refine wl_intsBuild [y.a, y.n] hS13 rfl rfl Tryz.underlying46 ifz_3 rfl rfl rfl rfl ?_
    intro b14 w14 hS14
    clear hS13
    refine vc_e (.cons (.inl ⟨rfl, (ev_load rfl ag_4 (by first | assumption | exact hS14.cell 1 rfl rfl | exact hS14.cell 2 rfl rfl))⟩) (.cons (.inl ⟨rfl, (ev_load rfl ag_4 (by first | assumption | exact hS14.cell 1 rfl rfl | exact hS14.cell 2 rfl rfl))⟩) (.cons (.inl ⟨rfl, (ev_load rfl ag_3 (by first | assumption | exact hS14.cell 1 rfl rfl | exact hS14.cell 2 rfl rfl))⟩) (.cons (.inl ⟨rfl, (ev_load rfl ag_9 (by first | assumption | exact hS14.cell 1 rfl rfl | exact hS14.cell 2 rfl rfl))⟩) (.skip (by kernel_rfl) (.skip (by kernel_rfl) .nil)))))) ?_
    refine vc_s rfl rfl rfl rfl rfl rfl ?_
    have hC15 := hS14.split [] [false, false, false, false] rfl; dsimp only [selF, pickA, nthA, List.cons_append, List.nil_append] at hC15
    refine wl_call cal_77 rfl (qints_sp hC15 (Ent.starL (ent_row (C := inC) (l := [y.a, y.n]) (by simp)) 0 rfl) (by intro n hn; simp only [List.mem_cons, List.not_mem_nil, or_false] at hn; rcases hn with rfl | rfl; exact hwy.a; exact hwy.n) (by simp)) rfl ?_
    rintro e w15 ⟨_, rfl, rfl, hS15⟩; refine ⟨_, rfl, ?_⟩
    replace hS15 := hS15.join rfl; dsimp only [List.dropLast, List.cons_append, List.nil_append] at hS15; clear hC15
    clear hS14
    refine vc_e (.cons (.inl ⟨rfl, (ev_load rfl ag_4 (by first | assumption | exact hS15.cell 1 rfl rfl | exact hS15.cell 2 rfl rfl))⟩) (.cons (.inl ⟨rfl, (ev_load rfl ag_4 (by first | assumption | exact hS15.cell 1 rfl rfl | exact hS15.cell 2 rfl rfl))⟩) (.cons (.inl ⟨rfl, (ev_load rfl ag_3 (by first | assumption | exact hS15.cell 1 rfl rfl | exact hS15.cell 2 rfl rfl))⟩) (.cons (.inl ⟨rfl, (ev_load rfl ag_9 (by first | assumption | exact hS15.cell 1 rfl rfl | exact hS15.cell 2 rfl rfl))⟩) (.skip (by kernel_rfl) (.skip (by kernel_rfl) .nil)))))) ?_
    refine vc_p rfl rfl rfl (fun _ => (ev_concat rfl rfl (by first | omega | (simp only [List.length_append, List.length_cons, List.length_nil]; omega) | (simp; done) | (simp; omega)))) ?_
    refine vc_s rfl rfl rfl rfl rfl rfl ?_
    have hC16 := hS15.split [] [false, false, false, false] rfl; dsimp only [selF, pickA, nthA, List.cons_append, List.nil_append] at hC16
    refine wl_call cal_80 rfl (r1Text_sp hC16 y.o hwy.o) rfl ?_
    rintro e w16 ⟨_, rfl, rfl, hS16⟩; refine ⟨_, rfl, ?_⟩
    replace hS16 := hS16.join rfl; dsimp only [List.dropLast, List.cons_append, List.nil_append] at hS16; clear hC16
    clear hS15
    refine vc_e (.cons (.inl ⟨rfl, (ev_load rfl ag_4 (by first | assumption | exact hS16.cell 1 rfl rfl | exact hS16.cell 2 rfl rfl))⟩) (.cons (.inl ⟨rfl, (ev_load rfl ag_4 (by first | assumption | exact hS16.cell 1 rfl rfl | exact hS16.cell 2 rfl rfl))⟩) (.cons (.inl ⟨rfl, (ev_load rfl ag_3 (by first | assumption | exact hS16.cell 1 rfl rfl | exact hS16.cell 2 rfl rfl))⟩) (.skip (by kernel_rfl) (.skip (by kernel_rfl) (.skip (by kernel_rfl) .nil)))))) ?_
    refine vc_p rfl rfl rfl (fun _ => (ev_concat rfl rfl (by first | omega | (simp only [List.length_append, List.length_cons, List.length_nil]; omega) | (simp; done) | (simp; omega)))) ?_
    refine vc_s rfl rfl rfl rfl rfl rfl ?_
    have hC17 := hS16.split [] [false, false, false, false] rfl; dsimp only [selF, pickA, nthA, List.cons_append, List.nil_append] at hC17
    refine wl_call cal_81 rfl (qbit_sp hC17 y.sh) rfl ?_
    rintro e w17 ⟨_, rfl, rfl, hS17⟩; refine ⟨_, rfl, ?_⟩
    replace hS17 := hS17.join rfl; dsimp only [List.dropLast, List.cons_append, List.nil_append] at hS17; clear hC17
    clear hS16
    refine vc_e (.cons (.inl ⟨rfl, (ev_load rfl ag_4 (by first | assumption | exact hS17.cell 1 rfl rfl | exact hS17.cell 2 rfl rfl))⟩) (.skip (by kernel_rfl) (.cons (.inl ⟨rfl, (ev_load rfl ag_3 (by first | assumption | exact hS17.cell 1 rfl rfl | exact hS17.cell 2 rfl rfl))⟩) (.skip (by kernel_rfl) (.skip (by kernel_rfl) (.skip (by kernel_rfl) .nil)))))) ?_
    refine vc_s rfl rfl rfl rfl rfl rfl ?_
    have hC18 := hS17.split [] [false, false, false, false] rfl; dsimp only [selF, pickA, nthA, List.cons_append, List.nil_append] at hC18
    refine wl_call cal_81 rfl (qbit_sp hC18 y.wr) rfl ?_
    rintro e w18 ⟨_, rfl, rfl, hS18⟩; refine ⟨_, rfl, ?_⟩
    replace hS18 := hS18.join rfl; dsimp only [List.dropLast, List.cons_append, List.nil_append] at hS18; clear hC18
    clear hS17
    refine vc_e (.skip (by kernel_rfl) (.skip (by kernel_rfl) (.cons (.inl ⟨rfl, (ev_load rfl ag_3 (by first | assumption | exact hS18.cell 1 rfl rfl | exact hS18.cell 2 rfl rfl))⟩) (.skip (by kernel_rfl) (.skip (by kernel_rfl) (.skip (by kernel_rfl) .nil)))))) ?_
    refine vc_s rfl rfl rfl rfl rfl rfl ?_
    refine wl_intsBuild [y.f, bitN y.sh, bitN y.wr] hS18 rfl rfl Tryz.underlying46 ifz_3 rfl rfl rfl rfl ?_
    intro b19 w19 hS19
    clear hS18
    refine vc_e (.skip (by kernel_rfl) (.skip (by kernel_rfl) (.skip (by kernel_rfl) (.skip (by kernel_rfl) (.skip (by kernel_rfl) (.skip (by kernel_rfl) .nil)))))) ?_
    refine vc_s rfl rfl rfl rfl rfl rfl ?_
    have hC20 := hS19.split [] [false, false, false, false, false] rfl; dsimp only [selF, pickA, nthA, List.cons_append, List.nil_append] at hC20
    refine wl_call cal_77 rfl (qints_sp hC20 (Ent.starL (ent_row (C := inC) (l := [y.f, bitN y.sh, bitN y.wr]) (by simp)) 0 rfl) (by intro n hn; simp only [List.mem_cons, List.not_mem_nil, or_false] at hn; rcases hn with rfl | rfl | rfl; exact hwy.f; exact bit_in _; exact bit_in _) (by simp)) rfl ?_
    rintro e w20 ⟨_, rfl, rfl, hS20⟩; refine ⟨_, rfl, ?_⟩
    replace hS20 := hS20.join rfl; dsimp only [List.dropLast, List.cons_append, List.nil_append] at hS20; clear hC20
    clear hS19
    refine vc_e (.skip (by kernel_rfl) (.skip (by kernel_rfl) (.skip (by kernel_rfl) (.skip (by kernel_rfl) (.skip (by kernel_rfl) (.skip (by kernel_rfl) .nil)))))) ?_
    refine vc_p rfl rfl rfl (fun _ => (ev_concat rfl rfl (by first | omega | (simp only [List.length_append, List.length_cons, List.length_nil]; omega) | (simp; done) | (simp; omega)))) ?_
    refine vc_p rfl rfl rfl (fun _ => (ev_assign rfl)) ?_
    refine VC.nil ?_
    refine qs_block_normal ?_
    refine qs_seq ?_
    refine wc_sub (L' := [(3, _), (1, _), (5, _)]) (.cons rfl (.cons rfl (.cons rfl .nil))) ?_
    refine wc_region ?_
    refine wl_move rfl rfl ?_
    refine wl_add rfl rfl (by first | omega | (simp only [List.length_append, List.length_cons, List.length_nil]; omega) | (simp; done) | (simp; omega)) (by first | omega | (simp only [List.length_append, List.length_cons, List.length_nil]; omega) | (simp; done) | (simp; omega)) rfl ?_
    refine wl_assign rfl rfl ?_
    refine wl_nil ?_
    exact qs_round (L1 := [(1, _), (3, _), (5, intV ((i + 1 : Nat) : Int))]) (.cons rfl (.cons rfl (.cons rfl .nil))) (k1 := x.ar.length - (i + 1)) (by omega) ⟨i + 1, rfl, by rw [ars_succ hy]; simp only [List.append_assoc], hS20.pick [3, 4] rfl, by omega⟩
  refine wc_exit ?_
  refine qs_then_exit ?_
  refine qs_then_exit ?_
  refine qs_block_exit ?_
  refine qs_seq ?_
  refine wc_seq ?_
  have hlr2 := is_le (all_tq hw (List.range 2)) (k := 2) (by simp)
  have hS21 := hS9.drew
  refine wc_draws mix ?_
  refine dr_split 3 13 rfl ?_ ?_
  · skip
    refine dr_split 7 13 rfl ?_ ?_
    · skip
      refine dr_vc (sp := [3, 7, 13, 14]) [0, 1, 2, 5, 6, 9, 10, 11, 12, 3, 4, 7, 8, 13, 14, 15, 16] (by kernel_rfl) ?_
      refine vc_p rfl rfl rfl (fun _ => (ev_move rfl)) ?_
      refine vc_p rfl rfl rfl (fun _ => (ev_fieldAddr rfl fo_38_12)) ?_
      refine vc_q rfl rfl rfl (ev_load rfl ag_31 (by first | assumption | exact hS21.cell 0 rfl rfl)) ?_
      refine vc_p rfl rfl rfl (fun _ => (ev_fieldAddr rfl fo_38_13)) ?_
      refine vc_q rfl rfl rfl (ev_load rfl ag_9 (by first | assumption | exact hS21.cell 0 rfl rfl)) ?_
      refine vc_p rfl rfl rfl (fun _ => (ev_fieldAddr rfl fo_38_14)) ?_
      refine vc_q rfl rfl rfl (ev_load rfl ag_3 (by first | assumption | exact hS21.cell 0 rfl rfl)) ?_
      refine vc_p rfl rfl rfl (fun _ => (ev_fieldAddr rfl fo_38_15)) ?_
      refine vc_q rfl rfl rfl (ev_load rfl ag_3 (by first | assumption | exact hS21.cell 0 rfl rfl)) ?_
      refine vc_s rfl rfl rfl rfl rfl rfl ?_
      have hC22 := hS21.split [] [false, false] rfl; dsimp only [selF, pickA, nthA, List.cons_append, List.nil_append] at hC22
      refine wl_call cal_82 rfl (r1WTexts_sp hC22 (hB.starL 1 rfl) hw.fdl hw.fd) rfl ?_
      rintro e w22 ⟨_, rfl, rfl, hS22⟩; refine ⟨_, rfl, ?_⟩
      replace hS22 := hS22.join rfl; dsimp only [List.dropLast, List.cons_append, List.nil_append] at hS22; clear hC22
      clear hS21
      refine vc_e (.cons (.inl ⟨rfl, (ev_load rfl ag_3 (by first | assumption | exact hS22.cell 0 rfl rfl))⟩) (.cons (.inl ⟨rfl, (ev_load rfl ag_3 (by first | assumption | exact hS22.cell 0 rfl rfl))⟩) (.cons (.inl ⟨rfl, (ev_load rfl ag_9 (by first | assumption | exact hS22.cell 0 rfl rfl))⟩) (.skip (by kernel_rfl) .nil)))) ?_
      refine vc_p rfl rfl rfl (fun _ => (ev_concat rfl rfl (by first | omega | (simp only [List.length_append, List.length_cons, List.length_nil]; omega) | (simp; done) | (simp; omega)))) ?_
      refine vc_s rfl rfl rfl rfl rfl rfl ?_
      have hC23 := hS22.split [] [false, false] rfl; dsimp only [selF, pickA, nthA, List.cons_append, List.nil_append] at hC23
      refine wl_call cal_80 rfl (r1Text_sp hC23 x.cwd hw.cwd) rfl ?_
      rintro e w23 ⟨_, rfl, rfl, hS23⟩; refine ⟨_, rfl, ?_⟩
      replace hS23 := hS23.join rfl; dsimp only [List.dropLast, List.cons_append, List.nil_append] at hS23; clear hC23
      clear hS22
      refine vc_e (.cons (.inl ⟨rfl, (ev_load rfl ag_3 (by first | assumption | exact hS23.cell 0 rfl rfl))⟩) (.cons (.inl ⟨rfl, (ev_load rfl ag_3 (by first | assumption | exact hS23.cell 0 rfl rfl))⟩) (.skip (by kernel_rfl) (.skip (by kernel_rfl) .nil)))) ?_
      refine vc_p rfl rfl rfl (fun _ => (ev_concat rfl rfl (by first | omega | (simp only [List.length_append, List.length_cons, List.length_nil]; omega) | (simp; done) | (simp; omega)))) ?_
      refine vc_s rfl rfl rfl rfl rfl rfl ?_
      refine wl_intsBuild ((List.range 2).map (tq x)) hS23 rfl rfl Tryz.underlying46 ifz_3 rfl rfl rfl rfl ?_
      intro b24 w24 hS24
      clear hS23
      refine vc_e (.skip (by kernel_rfl) (.skip (by kernel_rfl) (.skip (by kernel_rfl) (.skip (by kernel_rfl) .nil)))) ?_
      refine vc_s rfl rfl rfl rfl rfl rfl ?_
      have hC25 := hS24.split [] [false, false, false] rfl; dsimp only [selF, pickA, nthA, List.cons_append, List.nil_append] at hC25
      refine wl_call cal_77 rfl (qints_sp hC25 (Ent.starL (ent_row (C := inC) (l := ((List.range 2).map (tq x))) (by simp)) 0 rfl) (all_tq hw _) (by simp)) rfl ?_
      rintro e w25 ⟨_, rfl, rfl, hS25⟩; refine ⟨_, rfl, ?_⟩
      replace hS25 := hS25.join rfl; dsimp only [List.dropLast, List.cons_append, List.nil_append] at hS25; clear hC25
      clear hS24
      refine vc_e (.skip (by kernel_rfl) (.skip (by kernel_rfl) (.skip (by kernel_rfl) (.skip (by kernel_rfl) .nil)))) ?_
      refine vc_p rfl rfl rfl (fun _ => (ev_concat rfl rfl (by first | omega | (simp only [List.length_append, List.length_cons, List.length_nil]; omega) | (simp; done) | (simp; omega)))) ?_
      refine vc_p rfl rfl rfl (fun _ => (ev_assign rfl)) ?_
      refine VC.nil ?_
      refine qs_seq ?_
      refine wc_sub (L' := [(3, _), (1, _)]) (.cons rfl (.cons rfl .nil)) ?_
      refine wc_seq ?_
      refine wc_seq ?_
      refine wc_region ?_
      refine wl_assign rfl rfl ?_
      refine wl_nil ?_
      refine qs_seq ?_
      refine wc_block ?_
      refine wc_loop (fun K0 E0 W0 => ∃ (i : Nat), K0 = 16 - i ∧ E0 = [(1, ptrV bp 0), (3, strV (encIs x.hs ++ encN (x.ar.length : Int) ++ x.ar.flatMap encAr ++ encTs x.fds ++ encT x.cwd ++ encIs ((List.range (2 + 2 * i)).map (tq x)))), (7, intV (i : Int))] ∧ Sat W0 [blkT bp (procV x (.slice aa x.ar.length ac) (.slice fa x.fds.length fc)), F] ∧ (i ≤ 16)) (L0 := [(1, _), (3, _), (7, _)]) (16 - 0) (.cons rfl (.cons rfl (.cons rfl .nil))) ⟨0, rfl, by rw [List.take_of_length_le (show x.ar.length ≤ i by omega)]; first | rfl | simp, hS25.pick [1, 2] rfl, by omega⟩ ?_
      rintro _ _ w26 ⟨i, rfl, rfl, hS26, hi⟩
      have hlr := is_le (all_tq hw (List.range (2 + 2 * i))) (k := 34) (by simp; omega)
      have hl37 := is_le (all_tq hw [34, 35, 36, 37]) (k := 4) (by simp)
      refine wc_seq ?_
      refine wc_seq ?_
      refine wc_region ?_
      refine wl_move rfl rfl ?_
      refine wl_lss rfl rfl rfl ?_
      refine wl_nil ?_
      refine qs_seq ?_
      refine wc_condD rfl (fun h27 => ?_) (fun h27 => ?_)
      · skip
        have hzt := is_le (l := [tq x (2 + 2 * i), bitN (decide (tq x (3 + 2 * i) = 1))]) (by intro n hn; simp only [List.mem_cons, List.not_mem_nil, or_false] at hn; rcases hn with rfl | rfl; exact tq_in hw _; exact bit_in _) (k := 2) (by simp)
        refine wc_skip ?_
        refine qs_seq ?_
        refine wc_seq ?_
        refine wc_block ?_
        have hS28 := hS26.drew
        refine wc_draw [0, 1, 2, 3, 4, 5, 6, 7, 8, 9, 10, 11, 12, 13, 14, 15] [11, 12, 13] mix (by kernel_rfl) ?_
        refine vc_p rfl rfl rfl (fun _ => (ev_move rfl)) ?_
        refine vc_p rfl rfl rfl (fun _ => (ev_move rfl)) ?_
        refine vc_p rfl rfl rfl (fun _ => (ev_fieldAddr rfl fo_38_16)) ?_
        refine vc_p rfl rfl rfl (fun _ => (ev_indexAddrA _ Tryz.underlying34 rfl rfl (by first | rfl | omega) (by first | omega | (simp only [List.length_append, List.length_cons, List.length_nil]; omega) | (simp; done) | (simp; omega)) sz_33)) ?_
        refine vc_p rfl rfl rfl (fun _ => (ev_fieldAddr rfl fo_33_0)) ?_
        refine vc_q rfl rfl rfl (ev_load rfl ag_3 (hS28.cell 0 (o := 24 + i * 2) rfl (act_c0 _ _ _ i (by omega)))) ?_
        refine vc_p rfl rfl rfl (fun _ => (ev_move rfl)) ?_
        refine vc_p rfl rfl rfl (fun _ => (ev_fieldAddr rfl fo_38_16)) ?_
        refine vc_p rfl rfl rfl (fun _ => (ev_indexAddrA _ Tryz.underlying34 rfl rfl (by first | rfl | omega) (by first | omega | (simp only [List.length_append, List.length_cons, List.length_nil]; omega) | (simp; done) | (simp; omega)) sz_33)) ?_
        refine vc_p rfl rfl rfl (fun _ => (ev_fieldAddr rfl fo_33_1)) ?_
        refine vc_q rfl rfl rfl (ev_load rfl ag_4 (hS28.cell 0 (o := 24 + i * 2 + 1) rfl (act_c1 _ _ _ i (by omega)))) ?_
        refine vc_s rfl rfl rfl rfl rfl rfl ?_
        have hC29 := hS28.split [] [false, false] rfl; dsimp only [selF, pickA, nthA, List.cons_append, List.nil_append] at hC29
        refine wl_call cal_81 rfl (qbit_sp hC29 (decide (tq x (3 + 2 * i) = 1))) rfl ?_
        rintro e w29 ⟨_, rfl, rfl, hS29⟩; refine ⟨_, rfl, ?_⟩
        replace hS29 := hS29.join rfl; dsimp only [List.dropLast, List.cons_append, List.nil_append] at hS29; clear hC29
        clear hS28
        refine vc_e (.skip (by kernel_rfl) (.cons (.inl ⟨rfl, (ev_load rfl ag_3 (hS29.cell 0 (o := 24 + i * 2) rfl (act_c0 _ _ _ i (by omega))))⟩) .nil)) ?_
        refine vc_s rfl rfl rfl rfl rfl rfl ?_
        refine wl_intsBuild [tq x (2 + 2 * i), bitN (decide (tq x (3 + 2 * i) = 1))] hS29 rfl rfl Tryz.underlying46 ifz_3 rfl rfl rfl rfl ?_
        intro b30 w30 hS30
        clear hS29
        refine vc_e (.skip (by kernel_rfl) (.skip (by kernel_rfl) .nil)) ?_
        refine vc_s rfl rfl rfl rfl rfl rfl ?_
        have hC31 := hS30.split [] [false, false, false] rfl; dsimp only [selF, pickA, nthA, List.cons_append, List.nil_append] at hC31
        refine wl_call cal_77 rfl (qints_sp hC31 (Ent.starL (ent_row (C := inC) (l := [tq x (2 + 2 * i), bitN (decide (tq x (3 + 2 * i) = 1))]) (by simp)) 0 rfl) (by intro n hn; simp only [List.mem_cons, List.not_mem_nil, or_false] at hn; rcases hn with rfl | rfl; exact tq_in hw _; exact bit_in _) (by simp)) rfl ?_
        rintro e w31 ⟨_, rfl, rfl, hS31⟩; refine ⟨_, rfl, ?_⟩
        replace hS31 := hS31.join rfl; dsimp only [List.dropLast, List.cons_append, List.nil_append] at hS31; clear hC31
        clear hS30
        refine vc_e (.skip (by kernel_rfl) (.skip (by kernel_rfl) .nil)) ?_
        refine vc_p rfl rfl rfl (fun _ => (ev_concat rfl rfl (by first | omega | (simp only [List.length_append, List.length_cons, List.length_nil]; omega) | (simp; done) | (simp; omega)))) ?_
        refine vc_p rfl rfl rfl (fun _ => (ev_assign rfl)) ?_
        refine VC.nil ?_
        refine qs_block_normal ?_
        refine qs_seq ?_
        refine wc_sub (L' := [(3, _), (1, _), (7, _)]) (.cons rfl (.cons rfl (.cons rfl .nil))) ?_
        refine wc_region ?_
        refine wl_move rfl rfl ?_
        refine wl_add rfl rfl (by first | omega | (simp only [List.length_append, List.length_cons, List.length_nil]; omega) | (simp; done) | (simp; omega)) (by first | omega | (simp only [List.length_append, List.length_cons, List.length_nil]; omega) | (simp; done) | (simp; omega)) rfl ?_
        refine wl_assign rfl rfl ?_
        refine wl_nil ?_
        exact qs_round (L1 := [(1, _), (3, _), (7, intV ((i + 1 : Nat) : Int))]) (.cons rfl (.cons rfl (.cons rfl .nil))) (k1 := 16 - (i + 1)) (by omega) ⟨i + 1, rfl, by rw [ts_two hw (by omega), ← List.append_assoc], hS31.pick [1, 2] rfl, by omega⟩
      refine wc_exit ?_
      refine qs_then_exit ?_
      refine qs_then_exit ?_
      refine qs_block_exit ?_
      refine qs_seq ?_
      refine wc_seq ?_
      have hS32 := hS26.drew
      refine wc_draw [0, 1, 2, 3, 4, 5, 6, 7, 8, 9, 10, 11, 15, 16, 12, 13, 14, 17, 18, 19] [12, 13, 17] mix (by kernel_rfl) ?_
      refine vc_p rfl rfl rfl (fun _ => (ev_move rfl)) ?_
      refine vc_p rfl rfl rfl (fun _ => (ev_fieldAddr rfl fo_38_17)) ?_
      refine vc_p rfl rfl rfl (fun _ => (ev_fieldAddr rfl fo_36_0)) ?_
      refine vc_q rfl rfl rfl (ev_load rfl ag_3 (by first | assumption | exact hS32.cell 0 rfl rfl)) ?_
      refine vc_p rfl rfl rfl (fun _ => (ev_fieldAddr rfl fo_38_17)) ?_
      refine vc_p rfl rfl rfl (fun _ => (ev_fieldAddr rfl fo_36_1)) ?_
      refine vc_q rfl rfl rfl (ev_load rfl ag_3 (by first | assumption | exact hS32.cell 0 rfl rfl)) ?_
      refine vc_p rfl rfl rfl (fun _ => (ev_fieldAddr rfl fo_38_17)) ?_
      refine vc_p rfl rfl rfl (fun _ => (ev_fieldAddr rfl fo_36_2)) ?_
      refine vc_q rfl rfl rfl (ev_load rfl ag_3 (by first | assumption | exact hS32.cell 0 rfl rfl)) ?_
      refine vc_p rfl rfl rfl (fun _ => (ev_fieldAddr rfl fo_38_18)) ?_
      refine vc_q rfl rfl rfl (ev_load rfl ag_3 (by first | assumption | exact hS32.cell 0 rfl rfl)) ?_
      refine vc_p rfl rfl rfl (fun _ => (ev_fieldAddr rfl fo_38_19)) ?_
      refine vc_q rfl rfl rfl (ev_load rfl ag_9 (by first | assumption | exact hS32.cell 0 rfl rfl)) ?_
      refine vc_s rfl rfl rfl rfl rfl rfl ?_
      refine wl_intsBuild ([34, 35, 36, 37].map (tq x)) hS32 rfl rfl Tryz.underlying46 ifz_3 rfl rfl rfl rfl ?_
      intro b33 w33 hS33
      clear hS32
      refine vc_e (.cons (.inl ⟨rfl, (ev_load rfl ag_9 (by first | assumption | exact hS33.cell 1 rfl rfl))⟩) (.skip (by kernel_rfl) (.skip (by kernel_rfl) (.skip (by kernel_rfl) (.skip (by kernel_rfl) .nil))))) ?_
      refine vc_s rfl rfl rfl rfl rfl rfl ?_
      have hC34 := hS33.split [] [false, false, false] rfl; dsimp only [selF, pickA, nthA, List.cons_append, List.nil_append] at hC34
      refine wl_call cal_77 rfl (qints_sp hC34 (Ent.starL (ent_row (C := inC) (l := ([34, 35, 36, 37].map (tq x))) (by simp)) 0 rfl) (all_tq hw _) (by simp)) rfl ?_
      rintro e w34 ⟨_, rfl, rfl, hS34⟩; refine ⟨_, rfl, ?_⟩
      replace hS34 := hS34.join rfl; dsimp only [List.dropLast, List.cons_append, List.nil_append] at hS34; clear hC34
      clear hS33
      refine vc_e (.cons (.inl ⟨rfl, (ev_load rfl ag_9 (by first | assumption | exact hS34.cell 1 rfl rfl))⟩) (.skip (by kernel_rfl) (.skip (by kernel_rfl) (.skip (by kernel_rfl) (.skip (by kernel_rfl) .nil))))) ?_
      refine vc_p rfl rfl rfl (fun _ => (ev_concat rfl rfl (by first | omega | (simp only [List.length_append, List.length_cons, List.length_nil]; omega) | (simp; done) | (simp; omega)))) ?_
      refine vc_s rfl rfl rfl rfl rfl rfl ?_
      have hC35 := hS34.split [] [false, false, false] rfl; dsimp only [selF, pickA, nthA, List.cons_append, List.nil_append] at hC35
      refine wl_call cal_80 rfl (r1Text_sp hC35 x.shl hw.shl) rfl ?_
      rintro e w35 ⟨_, rfl, rfl, hS35⟩; refine ⟨_, rfl, ?_⟩
      replace hS35 := hS35.join rfl; dsimp only [List.dropLast, List.cons_append, List.nil_append] at hS35; clear hC35
      clear hS34
      refine vc_e (.skip (by kernel_rfl) (.skip (by kernel_rfl) (.skip (by kernel_rfl) (.skip (by kernel_rfl) (.skip (by kernel_rfl) .nil))))) ?_
      refine vc_p rfl rfl rfl (fun _ => (ev_concat rfl rfl (by first | omega | (simp only [List.length_append, List.length_cons, List.length_nil]; omega) | (simp; done) | (simp; omega)))) ?_
      refine vc_p rfl rfl rfl (fun _ => (ev_assign rfl)) ?_
      refine VC.nil ?_
      refine qs_seq ?_
      refine wc_sub (L' := [(2, _)]) (.cons rfl .nil) ?_
      refine wc_ret ?_
      refine fin1 (.inr rfl) rfl rfl ?_
      exact ⟨_, rfl, by rw [show i = 16 by omega, show 2 + 2 * 16 = 34 from rfl]; unfold encR; rw [← ts_all hw]; simp only [List.append_assoc], hS35.pick [2] rfl⟩
    refine dr_vc (sp := [3, 7, 13, 14]) [0, 1, 2, 5, 6, 9, 10, 11, 12, 3, 4, 13, 7, 8, 14, 15, 16] (by kernel_rfl) ?_
    refine vc_p rfl rfl rfl (fun _ => (ev_move rfl)) ?_
    refine vc_p rfl rfl rfl (fun _ => (ev_fieldAddr rfl fo_38_12)) ?_
    refine vc_q rfl rfl rfl (ev_load rfl ag_31 (by first | assumption | exact hS21.cell 0 rfl rfl)) ?_
    refine vc_p rfl rfl rfl (fun _ => (ev_fieldAddr rfl fo_38_13)) ?_
    refine vc_q rfl rfl rfl (ev_load rfl ag_9 (by first | assumption | exact hS21.cell 0 rfl rfl)) ?_
    refine vc_p rfl rfl rfl (fun _ => (ev_fieldAddr rfl fo_38_14)) ?_
    refine vc_q rfl rfl rfl (ev_load rfl ag_3 (by first | assumption | exact hS21.cell 0 rfl rfl)) ?_
    refine vc_p rfl rfl rfl (fun _ => (ev_fieldAddr rfl fo_38_15)) ?_
    refine vc_q rfl rfl rfl (ev_load rfl ag_3 (by first | assumption | exact hS21.cell 0 rfl rfl)) ?_
    refine vc_s rfl rfl rfl rfl rfl rfl ?_
    have hC36 := hS21.split [] [false, false] rfl; dsimp only [selF, pickA, nthA, List.cons_append, List.nil_append] at hC36
    refine wl_call cal_82 rfl (r1WTexts_sp hC36 (hB.starL 1 rfl) hw.fdl hw.fd) rfl ?_
    rintro e w36 ⟨_, rfl, rfl, hS36⟩; refine ⟨_, rfl, ?_⟩
    replace hS36 := hS36.join rfl; dsimp only [List.dropLast, List.cons_append, List.nil_append] at hS36; clear hC36
    clear hS21
    refine vc_e (.cons (.inl ⟨rfl, (ev_load rfl ag_3 (by first | assumption | exact hS36.cell 0 rfl rfl))⟩) (.cons (.inl ⟨rfl, (ev_load rfl ag_3 (by first | assumption | exact hS36.cell 0 rfl rfl))⟩) (.cons (.inl ⟨rfl, (ev_load rfl ag_9 (by first | assumption | exact hS36.cell 0 rfl rfl))⟩) (.skip (by kernel_rfl) .nil)))) ?_
    refine vc_p rfl rfl rfl (fun _ => (ev_concat rfl rfl (by first | omega | (simp only [List.length_append, List.length_cons, List.length_nil]; omega) | (simp; done) | (simp; omega)))) ?_
    refine vc_s rfl rfl rfl rfl rfl rfl ?_
    refine wl_intsBuild ((List.range 2).map (tq x)) hS36 rfl rfl Tryz.underlying46 ifz_3 rfl rfl rfl rfl ?_
    intro b37 w37 hS37
    clear hS36
    refine vc_e (.skip (by kernel_rfl) (.skip (by kernel_rfl) (.cons (.inl ⟨rfl, (ev_load rfl ag_9 (by first | assumption | exact hS37.cell 1 rfl rfl))⟩) (.skip (by kernel_rfl) .nil)))) ?_
    refine vc_s rfl rfl rfl rfl rfl rfl ?_
    have hC38 := hS37.split [] [false, false, false] rfl; dsimp only [selF, pickA, nthA, List.cons_append, List.nil_append] at hC38
    refine wl_call cal_80 rfl (r1Text_sp hC38 x.cwd hw.cwd) rfl ?_
    rintro e w38 ⟨_, rfl, rfl, hS38⟩; refine ⟨_, rfl, ?_⟩
    replace hS38 := hS38.join rfl; dsimp only [List.dropLast, List.cons_append, List.nil_append] at hS38; clear hC38
    clear hS37
    refine vc_e (.cons (.inl ⟨rfl, (ev_load rfl ag_3 (by first | assumption | exact hS38.cell 1 rfl rfl))⟩) (.cons (.inl ⟨rfl, (ev_load rfl ag_3 (by first | assumption | exact hS38.cell 1 rfl rfl))⟩) (.skip (by kernel_rfl) (.skip (by kernel_rfl) .nil)))) ?_
    refine vc_p rfl rfl rfl (fun _ => (ev_concat rfl rfl (by first | omega | (simp only [List.length_append, List.length_cons, List.length_nil]; omega) | (simp; done) | (simp; omega)))) ?_
    refine vc_s rfl rfl rfl rfl rfl rfl ?_
    have hC39 := hS38.split [] [false, false, false] rfl; dsimp only [selF, pickA, nthA, List.cons_append, List.nil_append] at hC39
    refine wl_call cal_77 rfl (qints_sp hC39 (Ent.starL (ent_row (C := inC) (l := ((List.range 2).map (tq x))) (by simp)) 0 rfl) (all_tq hw _) (by simp)) rfl ?_
    rintro e w39 ⟨_, rfl, rfl, hS39⟩; refine ⟨_, rfl, ?_⟩
    replace hS39 := hS39.join rfl; dsimp only [List.dropLast, List.cons_append, List.nil_append] at hS39; clear hC39
    clear hS38
    refine vc_e (.skip (by kernel_rfl) (.skip (by kernel_rfl) (.skip (by kernel_rfl) (.skip (by kernel_rfl) .nil)))) ?_
    refine vc_p rfl rfl rfl (fun _ => (ev_concat rfl rfl (by first | omega | (simp only [List.length_append, List.length_cons, List.length_nil]; omega) | (simp; done) | (simp; omega)))) ?_
    refine vc_p rfl rfl rfl (fun _ => (ev_assign rfl)) ?_
    refine VC.nil ?_
    refine qs_seq ?_
    refine wc_sub (L' := [(3, _), (1, _)]) (.cons rfl (.cons rfl .nil)) ?_
    refine wc_seq ?_
    refine wc_seq ?_
    refine wc_region ?_
    refine wl_assign rfl rfl ?_
    refine wl_nil ?_
    refine qs_seq ?_
    refine wc_block ?_
    refine wc_loop (fun K0 E0 W0 => ∃ (i : Nat), K0 = 16 - i ∧ E0 = [(1, ptrV bp 0), (3, strV (encIs x.hs ++ encN (x.ar.length : Int) ++ x.ar.flatMap encAr ++ encTs x.fds ++ encT x.cwd ++ encIs ((List.range (2 + 2 * i)).map (tq x)))), (7, intV (i : Int))] ∧ Sat W0 [blkT bp (procV x (.slice aa x.ar.length ac) (.slice fa x.fds.length fc)), F] ∧ (i ≤ 16)) (L0 := [(1, _), (3, _), (7, _)]) (16 - 0) (.cons rfl (.cons rfl (.cons rfl .nil))) ⟨0, rfl, by rw [List.take_of_length_le (show x.ar.length ≤ i by omega)]; first | rfl | simp, hS39.pick [1, 2] rfl, by omega⟩ ?_
    rintro _ _ w40 ⟨i, rfl, rfl, hS40, hi⟩
    have hlr := is_le (all_tq hw (List.range (2 + 2 * i))) (k := 34) (by simp; omega)
    have hl37 := is_le (all_tq hw [34, 35, 36, 37]) (k := 4) (by simp)
    refine wc_seq ?_
    refine wc_seq ?_
    refine wc_region ?_
    refine wl_move rfl rfl ?_
    refine wl_lss rfl rfl rfl ?_
    refine wl_nil ?_
    refine qs_seq ?_
    refine wc_condD rfl (fun h41 => ?_) (fun h41 => ?_)
    · skip
      have hzt := is_le (l := [tq x (2 + 2 * i), bitN (decide (tq x (3 + 2 * i) = 1))]) (by intro n hn; simp only [List.mem_cons, List.not_mem_nil, or_false] at hn; rcases hn with rfl | rfl; exact tq_in hw _; exact bit_in _) (k := 2) (by simp)
      refine wc_skip ?_
      refine qs_seq ?_
      refine wc_seq ?_
      refine wc_block ?_
      have hS42 := hS40.drew
      refine wc_draw [0, 1, 2, 3, 4, 5, 6, 7, 8, 9, 10, 11, 12, 13, 14, 15] [11, 12, 13] mix (by kernel_rfl) ?_
      refine vc_p rfl rfl rfl (fun _ => (ev_move rfl)) ?_
      refine vc_p rfl rfl rfl (fun _ => (ev_move rfl)) ?_
      refine vc_p rfl rfl rfl (fun _ => (ev_fieldAddr rfl fo_38_16)) ?_
      refine vc_p rfl rfl rfl (fun _ => (ev_indexAddrA _ Tryz.underlying34 rfl rfl (by first | rfl | omega) (by first | omega | (simp only [List.length_append, List.length_cons, List.length_nil]; omega) | (simp; done) | (simp; omega)) sz_33)) ?_
      refine vc_p rfl rfl rfl (fun _ => (ev_fieldAddr rfl fo_33_0)) ?_
      refine vc_q rfl rfl rfl (ev_load rfl ag_3 (hS42.cell 0 (o := 24 + i * 2) rfl (act_c0 _ _ _ i (by omega)))) ?_
      refine vc_p rfl rfl rfl (fun _ => (ev_move rfl)) ?_
      refine vc_p rfl rfl rfl (fun _ => (ev_fieldAddr rfl fo_38_16)) ?_
      refine vc_p rfl rfl rfl (fun _ => (ev_indexAddrA _ Tryz.underlying34 rfl rfl (by first | rfl | omega) (by first | omega | (simp only [List.length_append, List.length_cons, List.length_nil]; omega) | (simp; done) | (simp; omega)) sz_33)) ?_
      refine vc_p rfl rfl rfl (fun _ => (ev_fieldAddr rfl fo_33_1)) ?_
      refine vc_q rfl rfl rfl (ev_load rfl ag_4 (hS42.cell 0 (o := 24 + i * 2 + 1) rfl (act_c1 _ _ _ i (by omega)))) ?_
      refine vc_s rfl rfl rfl rfl rfl rfl ?_
      have hC43 := hS42.split [] [false, false] rfl; dsimp only [selF, pickA, nthA, List.cons_append, List.nil_append] at hC43
      refine wl_call cal_81 rfl (qbit_sp hC43 (decide (tq x (3 + 2 * i) = 1))) rfl ?_
      rintro e w43 ⟨_, rfl, rfl, hS43⟩; refine ⟨_, rfl, ?_⟩
      replace hS43 := hS43.join rfl; dsimp only [List.dropLast, List.cons_append, List.nil_append] at hS43; clear hC43
      clear hS42
      refine vc_e (.skip (by kernel_rfl) (.cons (.inl ⟨rfl, (ev_load rfl ag_3 (hS43.cell 0 (o := 24 + i * 2) rfl (act_c0 _ _ _ i (by omega))))⟩) .nil)) ?_
      refine vc_s rfl rfl rfl rfl rfl rfl ?_
      refine wl_intsBuild [tq x (2 + 2 * i), bitN (decide (tq x (3 + 2 * i) = 1))] hS43 rfl rfl Tryz.underlying46 ifz_3 rfl rfl rfl rfl ?_
      intro b44 w44 hS44
      clear hS43
      refine vc_e (.skip (by kernel_rfl) (.skip (by kernel_rfl) .nil)) ?_
      refine vc_s rfl rfl rfl rfl rfl rfl ?_
      have hC45 := hS44.split [] [false, false, false] rfl; dsimp only [selF, pickA, nthA, List.cons_append, List.nil_append] at hC45
      refine wl_call cal_77 rfl (qints_sp hC45 (Ent.starL (ent_row (C := inC) (l := [tq x (2 + 2 * i), bitN (decide (tq x (3 + 2 * i) = 1))]) (by simp)) 0 rfl) (by intro n hn; simp only [List.mem_cons, List.not_mem_nil, or_false] at hn; rcases hn with rfl | rfl; exact tq_in hw _; exact bit_in _) (by simp)) rfl ?_
      rintro e w45 ⟨_, rfl, rfl, hS45⟩; refine ⟨_, rfl, ?_⟩
      replace hS45 := hS45.join rfl; dsimp only [List.dropLast, List.cons_append, List.nil_append] at hS45; clear hC45
      clear hS44
      refine vc_e (.skip (by kernel_rfl) (.skip (by kernel_rfl) .nil)) ?_
      refine vc_p rfl rfl rfl (fun _ => (ev_concat rfl rfl (by first | omega | (simp only [List.length_append, List.length_cons, List.length_nil]; omega) | (simp; done) | (simp; omega)))) ?_
      refine vc_p rfl rfl rfl (fun _ => (ev_assign rfl)) ?_
      refine VC.nil ?_
      refine qs_block_normal ?_
      refine qs_seq ?_
      refine wc_sub (L' := [(3, _), (1, _), (7, _)]) (.cons rfl (.cons rfl (.cons rfl .nil))) ?_
      refine wc_region ?_
      refine wl_move rfl rfl ?_
      refine wl_add rfl rfl (by first | omega | (simp only [List.length_append, List.length_cons, List.length_nil]; omega) | (simp; done) | (simp; omega)) (by first | omega | (simp only [List.length_append, List.length_cons, List.length_nil]; omega) | (simp; done) | (simp; omega)) rfl ?_
      refine wl_assign rfl rfl ?_
      refine wl_nil ?_
      exact qs_round (L1 := [(1, _), (3, _), (7, intV ((i + 1 : Nat) : Int))]) (.cons rfl (.cons rfl (.cons rfl .nil))) (k1 := 16 - (i + 1)) (by omega) ⟨i + 1, rfl, by rw [ts_two hw (by omega), ← List.append_assoc], hS45.pick [1, 2] rfl, by omega⟩
    refine wc_exit ?_
    refine qs_then_exit ?_
    refine qs_then_exit ?_
    refine qs_block_exit ?_
    refine qs_seq ?_
    refine wc_seq ?_
    have hS46 := hS40.drew
    refine wc_draw [0, 1, 2, 3, 4, 5, 6, 7, 8, 9, 10, 11, 15, 16, 12, 13, 14, 17, 18, 19] [12, 13, 17] mix (by kernel_rfl) ?_
    refine vc_p rfl rfl rfl (fun _ => (ev_move rfl)) ?_
    refine vc_p rfl rfl rfl (fun _ => (ev_fieldAddr rfl fo_38_17)) ?_
    refine vc_p rfl rfl rfl (fun _ => (ev_fieldAddr rfl fo_36_0)) ?_
    refine vc_q rfl rfl rfl (ev_load rfl ag_3 (by first | assumption | exact hS46.cell 0 rfl rfl)) ?_
    refine vc_p rfl rfl rfl (fun _ => (ev_fieldAddr rfl fo_38_17)) ?_
    refine vc_p rfl rfl rfl (fun _ => (ev_fieldAddr rfl fo_36_1)) ?_
    refine vc_q rfl rfl rfl (ev_load rfl ag_3 (by first | assumption | exact hS46.cell 0 rfl rfl)) ?_
    refine vc_p rfl rfl rfl (fun _ => (ev_fieldAddr rfl fo_38_17)) ?_
    refine vc_p rfl rfl rfl (fun _ => (ev_fieldAddr rfl fo_36_2)) ?_
    refine vc_q rfl rfl rfl (ev_load rfl ag_3 (by first | assumption | exact hS46.cell 0 rfl rfl)) ?_
    refine vc_p rfl rfl rfl (fun _ => (ev_fieldAddr rfl fo_38_18)) ?_
    refine vc_q rfl rfl rfl (ev_load rfl ag_3 (by first | assumption | exact hS46.cell 0 rfl rfl)) ?_
    refine vc_p rfl rfl rfl (fun _ => (ev_fieldAddr rfl fo_38_19)) ?_
    refine vc_q rfl rfl rfl (ev_load rfl ag_9 (by first | assumption | exact hS46.cell 0 rfl rfl)) ?_
    refine vc_s rfl rfl rfl rfl rfl rfl ?_
    refine wl_intsBuild ([34, 35, 36, 37].map (tq x)) hS46 rfl rfl Tryz.underlying46 ifz_3 rfl rfl rfl rfl ?_
    intro b47 w47 hS47
    clear hS46
    refine vc_e (.cons (.inl ⟨rfl, (ev_load rfl ag_9 (by first | assumption | exact hS47.cell 1 rfl rfl))⟩) (.skip (by kernel_rfl) (.skip (by kernel_rfl) (.skip (by kernel_rfl) (.skip (by kernel_rfl) .nil))))) ?_
    refine vc_s rfl rfl rfl rfl rfl rfl ?_
    have hC48 := hS47.split [] [false, false, false] rfl; dsimp only [selF, pickA, nthA, List.cons_append, List.nil_append] at hC48
    refine wl_call cal_77 rfl (qints_sp hC48 (Ent.starL (ent_row (C := inC) (l := ([34, 35, 36, 37].map (tq x))) (by simp)) 0 rfl) (all_tq hw _) (by simp)) rfl ?_
    rintro e w48 ⟨_, rfl, rfl, hS48⟩; refine ⟨_, rfl, ?_⟩
    replace hS48 := hS48.join rfl; dsimp only [List.dropLast, List.cons_append, List.nil_append] at hS48; clear hC48
    clear hS47
    refine vc_e (.cons (.inl ⟨rfl, (ev_load rfl ag_9 (by first | assumption | exact hS48.cell 1 rfl rfl))⟩) (.skip (by kernel_rfl) (.skip (by kernel_rfl) (.skip (by kernel_rfl) (.skip (by kernel_rfl) .nil))))) ?_
    refine vc_p rfl rfl rfl (fun _ => (ev_concat rfl rfl (by first | omega | (simp only [List.length_append, List.length_cons, List.length_nil]; omega) | (simp; done) | (simp; omega)))) ?_
    refine vc_s rfl rfl rfl rfl rfl rfl ?_
    have hC49 := hS48.split [] [false, false, false] rfl; dsimp only [selF, pickA, nthA, List.cons_append, List.nil_append] at hC49
    refine wl_call cal_80 rfl (r1Text_sp hC49 x.shl hw.shl) rfl ?_
    rintro e w49 ⟨_, rfl, rfl, hS49⟩; refine ⟨_, rfl, ?_⟩
    replace hS49 := hS49.join rfl; dsimp only [List.dropLast, List.cons_append, List.nil_append] at hS49; clear hC49
    clear hS48
    refine vc_e (.skip (by kernel_rfl) (.skip (by kernel_rfl) (.skip (by kernel_rfl) (.skip (by kernel_rfl) (.skip (by kernel_rfl) .nil))))) ?_
    refine vc_p rfl rfl rfl (fun _ => (ev_concat rfl rfl (by first | omega | (simp only [List.length_append, List.length_cons, List.length_nil]; omega) | (simp; done) | (simp; omega)))) ?_
    refine vc_p rfl rfl rfl (fun _ => (ev_assign rfl)) ?_
    refine VC.nil ?_
    refine qs_seq ?_
    refine wc_sub (L' := [(2, _)]) (.cons rfl .nil) ?_
    refine wc_ret ?_
    refine fin1 (.inr rfl) rfl rfl ?_
    exact ⟨_, rfl, by rw [show i = 16 by omega, show 2 + 2 * 16 = 34 from rfl]; unfold encR; rw [← ts_all hw]; simp only [List.append_assoc], hS49.pick [2] rfl⟩
  refine dr_vc (sp := [3, 7, 13, 14]) [0, 1, 2, 5, 6, 9, 10, 11, 12, 13, 3, 4, 7, 8, 14, 15, 16] (by kernel_rfl) ?_
  refine vc_p rfl rfl rfl (fun _ => (ev_move rfl)) ?_
  refine vc_p rfl rfl rfl (fun _ => (ev_fieldAddr rfl fo_38_12)) ?_
  refine vc_q rfl rfl rfl (ev_load rfl ag_31 (by first | assumption | exact hS21.cell 0 rfl rfl)) ?_
  refine vc_p rfl rfl rfl (fun _ => (ev_fieldAddr rfl fo_38_13)) ?_
  refine vc_q rfl rfl rfl (ev_load rfl ag_9 (by first | assumption | exact hS21.cell 0 rfl rfl)) ?_
  refine vc_p rfl rfl rfl (fun _ => (ev_fieldAddr rfl fo_38_14)) ?_
  refine vc_q rfl rfl rfl (ev_load rfl ag_3 (by first | assumption | exact hS21.cell 0 rfl rfl)) ?_
  refine vc_p rfl rfl rfl (fun _ => (ev_fieldAddr rfl fo_38_15)) ?_
  refine vc_q rfl rfl rfl (ev_load rfl ag_3 (by first | assumption | exact hS21.cell 0 rfl rfl)) ?_
  refine vc_s rfl rfl rfl rfl rfl rfl ?_
  refine wl_intsBuild ((List.range 2).map (tq x)) hS21 rfl rfl Tryz.underlying46 ifz_3 rfl rfl rfl rfl ?_
  intro b50 w50 hS50
  clear hS21
  refine vc_e (.skip (by kernel_rfl) (.skip (by kernel_rfl) (.cons (.inl ⟨rfl, (ev_load rfl ag_9 (by first | assumption | exact hS50.cell 1 rfl rfl))⟩) (.cons (.inl ⟨rfl, (ev_load rfl ag_31 (by first | assumption | exact hS50.cell 1 rfl rfl))⟩) .nil)))) ?_
  refine vc_s rfl rfl rfl rfl rfl rfl ?_
  have hC51 := hS50.split [] [false, false, false] rfl; dsimp only [selF, pickA, nthA, List.cons_append, List.nil_append] at hC51
  refine wl_call cal_82 rfl (r1WTexts_sp hC51 (hB.starL 2 rfl) hw.fdl hw.fd) rfl ?_
  rintro e w51 ⟨_, rfl, rfl, hS51⟩; refine ⟨_, rfl, ?_⟩
  replace hS51 := hS51.join rfl; dsimp only [List.dropLast, List.cons_append, List.nil_append] at hS51; clear hC51
  clear hS50
  refine vc_e (.cons (.inl ⟨rfl, (ev_load rfl ag_3 (by first | assumption | exact hS51.cell 1 rfl rfl))⟩) (.cons (.inl ⟨rfl, (ev_load rfl ag_3 (by first | assumption | exact hS51.cell 1 rfl rfl))⟩) (.cons (.inl ⟨rfl, (ev_load rfl ag_9 (by first | assumption | exact hS51.cell 1 rfl rfl))⟩) (.skip (by kernel_rfl) .nil)))) ?_
  refine vc_p rfl rfl rfl (fun _ => (ev_concat rfl rfl (by first | omega | (simp only [List.length_append, List.length_cons, List.length_nil]; omega) | (simp; done) | (simp; omega)))) ?_
  refine vc_s rfl rfl rfl rfl rfl rfl ?_
  have hC52 := hS51.split [] [false, false, false] rfl; dsimp only [selF, pickA, nthA, List.cons_append, List.nil_append] at hC52
  refine wl_call cal_80 rfl (r1Text_sp hC52 x.cwd hw.cwd) rfl ?_
  rintro e w52 ⟨_, rfl, rfl, hS52⟩; refine ⟨_, rfl, ?_⟩
  replace hS52 := hS52.join rfl; dsimp only [List.dropLast, List.cons_append, List.nil_append] at hS52; clear hC52
  clear hS51
  refine vc_e (.cons (.inl ⟨rfl, (ev_load rfl ag_3 (by first | assumption | exact hS52.cell 1 rfl rfl))⟩) (.cons (.inl ⟨rfl, (ev_load rfl ag_3 (by first | assumption | exact hS52.cell 1 rfl rfl))⟩) (.skip (by kernel_rfl) (.skip (by kernel_rfl) .nil)))) ?_
  refine vc_p rfl rfl rfl (fun _ => (ev_concat rfl rfl (by first | omega | (simp only [List.length_append, List.length_cons, List.length_nil]; omega) | (simp; done) | (simp; omega)))) ?_
  refine vc_s rfl rfl rfl rfl rfl rfl ?_
  have hC53 := hS52.split [] [false, false, false] rfl; dsimp only [selF, pickA, nthA, List.cons_append, List.nil_append] at hC53
  refine wl_call cal_77 rfl (qints_sp hC53 (Ent.starL (ent_row (C := inC) (l := ((List.range 2).map (tq x))) (by simp)) 0 rfl) (all_tq hw _) (by simp)) rfl ?_
  rintro e w53 ⟨_, rfl, rfl, hS53⟩; refine ⟨_, rfl, ?_⟩
  replace hS53 := hS53.join rfl; dsimp only [List.dropLast, List.cons_append, List.nil_append] at hS53; clear hC53
  clear hS52
  refine vc_e (.skip (by kernel_rfl) (.skip (by kernel_rfl) (.skip (by kernel_rfl) (.skip (by kernel_rfl) .nil)))) ?_
  refine vc_p rfl rfl rfl (fun _ => (ev_concat rfl rfl (by first | omega | (simp only [List.length_append, List.length_cons, List.length_nil]; omega) | (simp; done) | (simp; omega)))) ?_
  refine vc_p rfl rfl rfl (fun _ => (ev_assign rfl)) ?_
  refine VC.nil ?_
  refine qs_seq ?_
  refine wc_sub (L' := [(3, _), (1, _)]) (.cons rfl (.cons rfl .nil)) ?_
  refine wc_seq ?_
  refine wc_seq ?_
  refine wc_region ?_
  refine wl_assign rfl rfl ?_
  refine wl_nil ?_
  refine qs_seq ?_
  refine wc_block ?_
  refine wc_loop (fun K0 E0 W0 => ∃ (i : Nat), K0 = 16 - i ∧ E0 = [(1, ptrV bp 0), (3, strV (encIs x.hs ++ encN (x.ar.length : Int) ++ x.ar.flatMap encAr ++ encTs x.fds ++ encT x.cwd ++ encIs ((List.range (2 + 2 * i)).map (tq x)))), (7, intV (i : Int))] ∧ Sat W0 [blkT bp (procV x (.slice aa x.ar.length ac) (.slice fa x.fds.length fc)), F] ∧ (i ≤ 16)) (L0 := [(1, _), (3, _), (7, _)]) (16 - 0) (.cons rfl (.cons rfl (.cons rfl .nil))) ⟨0, rfl, by rw [List.take_of_length_le (show x.ar.length ≤ i by omega)]; first | rfl | simp, hS53.pick [1, 2] rfl, by omega⟩ ?_
  rintro _ _ w54 ⟨i, rfl, rfl, hS54, hi⟩
  have hlr := is_le (all_tq hw (List.range (2 + 2 * i))) (k := 34) (by simp; omega)
  have hl37 := is_le (all_tq hw [34, 35, 36, 37]) (k := 4) (by simp)
  refine wc_seq ?_
  refine wc_seq ?_
  refine wc_region ?_
  refine wl_move rfl rfl ?_
  refine wl_lss rfl rfl rfl ?_
  refine wl_nil ?_
  refine qs_seq ?_
  refine wc_condD rfl (fun h55 => ?_) (fun h55 => ?_)
  · skip
    have hzt := is_le (l := [tq x (2 + 2 * i), bitN (decide (tq x (3 + 2 * i) = 1))]) (by intro n hn; simp only [List.mem_cons, List.not_mem_nil, or_false] at hn; rcases hn with rfl | rfl; exact tq_in hw _; exact bit_in _) (k := 2) (by simp)
    refine wc_skip ?_
    refine qs_seq ?_
    refine wc_seq ?_
    refine wc_block ?_
    have hS56 := hS54.drew
    refine wc_draw [0, 1, 2, 3, 4, 5, 6, 7, 8, 9, 10, 11, 12, 13, 14, 15] [11, 12, 13] mix (by kernel_rfl) ?_
    refine vc_p rfl rfl rfl (fun _ => (ev_move rfl)) ?_
    refine vc_p rfl rfl rfl (fun _ => (ev_move rfl)) ?_
    refine vc_p rfl rfl rfl (fun _ => (ev_fieldAddr rfl fo_38_16)) ?_
    refine vc_p rfl rfl rfl (fun _ => (ev_indexAddrA _ Tryz.underlying34 rfl rfl (by first | rfl | omega) (by first | omega | (simp only [List.length_append, List.length_cons, List.length_nil]; omega) | (simp; done) | (simp; omega)) sz_33)) ?_
    refine vc_p rfl rfl rfl (fun _ => (ev_fieldAddr rfl fo_33_0)) ?_
    refine vc_q rfl rfl rfl (ev_load rfl ag_3 (hS56.cell 0 (o := 24 + i * 2) rfl (act_c0 _ _ _ i (by omega)))) ?_
    refine vc_p rfl rfl rfl (fun _ => (ev_move rfl)) ?_
    refine vc_p rfl rfl rfl (fun _ => (ev_fieldAddr rfl fo_38_16)) ?_
    refine vc_p rfl rfl rfl (fun _ => (ev_indexAddrA _ Tryz.underlying34 rfl rfl (by first | rfl | omega) (by first | omega | (simp only [List.length_append, List.length_cons, List.length_nil]; omega) | (simp; done) | (simp; omega)) sz_33)) ?_
    refine vc_p rfl rfl rfl (fun _ => (ev_fieldAddr rfl fo_33_1)) ?_
    refine vc_q rfl rfl rfl (ev_load rfl ag_4 (hS56.cell 0 (o := 24 + i * 2 + 1) rfl (act_c1 _ _ _ i (by omega)))) ?_
    refine vc_s rfl rfl rfl rfl rfl rfl ?_
    have hC57 := hS56.split [] [false, false] rfl; dsimp only [selF, pickA, nthA, List.cons_append, List.nil_append] at hC57
    refine wl_call cal_81 rfl (qbit_sp hC57 (decide (tq x (3 + 2 * i) = 1))) rfl ?_
    rintro e w57 ⟨_, rfl, rfl, hS57⟩; refine ⟨_, rfl, ?_⟩
    replace hS57 := hS57.join rfl; dsimp only [List.dropLast, List.cons_append, List.nil_append] at hS57; clear hC57
    clear hS56
    refine vc_e (.skip (by kernel_rfl) (.cons (.inl ⟨rfl, (ev_load rfl ag_3 (hS57.cell 0 (o := 24 + i * 2) rfl (act_c0 _ _ _ i (by omega))))⟩) .nil)) ?_
    refine vc_s rfl rfl rfl rfl rfl rfl ?_
    refine wl_intsBuild [tq x (2 + 2 * i), bitN (decide (tq x (3 + 2 * i) = 1))] hS57 rfl rfl Tryz.underlying46 ifz_3 rfl rfl rfl rfl ?_
    intro b58 w58 hS58
    clear hS57
    refine vc_e (.skip (by kernel_rfl) (.skip (by kernel_rfl) .nil)) ?_
    refine vc_s rfl rfl rfl rfl rfl rfl ?_
    have hC59 := hS58.split [] [false, false, false] rfl; dsimp only [selF, pickA, nthA, List.cons_append, List.nil_append] at hC59
    refine wl_call cal_77 rfl (qints_sp hC59 (Ent.starL (ent_row (C := inC) (l := [tq x (2 + 2 * i), bitN (decide (tq x (3 + 2 * i) = 1))]) (by simp)) 0 rfl) (by intro n hn; simp only [List.mem_cons, List.not_mem_nil, or_false] at hn; rcases hn with rfl | rfl; exact tq_in hw _; exact bit_in _) (by simp)) rfl ?_
    rintro e w59 ⟨_, rfl, rfl, hS59⟩; refine ⟨_, rfl, ?_⟩
    replace hS59 := hS59.join rfl; dsimp only [List.dropLast, List.cons_append, List.nil_append] at hS59; clear hC59
    clear hS58
    refine vc_e (.skip (by kernel_rfl) (.skip (by kernel_rfl) .nil)) ?_
    refine vc_p rfl rfl rfl (fun _ => (ev_concat rfl rfl (by first | omega | (simp only [List.length_append, List.length_cons, List.length_nil]; omega) | (simp; done) | (simp; omega)))) ?_
    refine vc_p rfl rfl rfl (fun _ => (ev_assign rfl)) ?_
    refine VC.nil ?_
    refine qs_block_normal ?_
    refine qs_seq ?_
    refine wc_sub (L' := [(3, _), (1, _), (7, _)]) (.cons rfl (.cons rfl (.cons rfl .nil))) ?_
    refine wc_region ?_
    refine wl_move rfl rfl ?_
    refine wl_add rfl rfl (by first | omega | (simp only [List.length_append, List.length_cons, List.length_nil]; omega) | (simp; done) | (simp; omega)) (by first | omega | (simp only [List.length_append, List.length_cons, List.length_nil]; omega) | (simp; done) | (simp; omega)) rfl ?_
    refine wl_assign rfl rfl ?_
    refine wl_nil ?_
    exact qs_round (L1 := [(1, _), (3, _), (7, intV ((i + 1 : Nat) : Int))]) (.cons rfl (.cons rfl (.cons rfl .nil))) (k1 := 16 - (i + 1)) (by omega) ⟨i + 1, rfl, by rw [ts_two hw (by omega), ← List.append_assoc], hS59.pick [1, 2] rfl, by omega⟩
  refine wc_exit ?_
  refine qs_then_exit ?_
  refine qs_then_exit ?_
  refine qs_block_exit ?_
  refine qs_seq ?_
  refine wc_seq ?_
  have hS60 := hS54.drew
  refine wc_draw [0, 1, 2, 3, 4, 5, 6, 7, 8, 9, 10, 11, 15, 16, 12, 13, 14, 17, 18, 19] [12, 13, 17] mix (by kernel_rfl) ?_
  refine vc_p rfl rfl rfl (fun _ => (ev_move rfl)) ?_
  refine vc_p rfl rfl rfl (fun _ => (ev_fieldAddr rfl fo_38_17)) ?_
  refine vc_p rfl rfl rfl (fun _ => (ev_fieldAddr rfl fo_36_0)) ?_
  refine vc_q rfl rfl rfl (ev_load rfl ag_3 (by first | assumption | exact hS60.cell 0 rfl rfl)) ?_
  refine vc_p rfl rfl rfl (fun _ => (ev_fieldAddr rfl fo_38_17)) ?_
  refine vc_p rfl rfl rfl (fun _ => (ev_fieldAddr rfl fo_36_1)) ?_
  refine vc_q rfl rfl rfl (ev_load rfl ag_3 (by first | assumption | exact hS60.cell 0 rfl rfl)) ?_
  refine vc_p rfl rfl rfl (fun _ => (ev_fieldAddr rfl fo_38_17)) ?_
  refine vc_p rfl rfl rfl (fun _ => (ev_fieldAddr rfl fo_36_2)) ?_
  refine vc_q rfl rfl rfl (ev_load rfl ag_3 (by first | assumption | exact hS60.cell 0 rfl rfl)) ?_
  refine vc_p rfl rfl rfl (fun _ => (ev_fieldAddr rfl fo_38_18)) ?_
  refine vc_q rfl rfl rfl (ev_load rfl ag_3 (by first | assumption | exact hS60.cell 0 rfl rfl)) ?_
  refine vc_p rfl rfl rfl (fun _ => (ev_fieldAddr rfl fo_38_19)) ?_
  refine vc_q rfl rfl rfl (ev_load rfl ag_9 (by first | assumption | exact hS60.cell 0 rfl rfl)) ?_
  refine vc_s rfl rfl rfl rfl rfl rfl ?_
  refine wl_intsBuild ([34, 35, 36, 37].map (tq x)) hS60 rfl rfl Tryz.underlying46 ifz_3 rfl rfl rfl rfl ?_
  intro b61 w61 hS61
  clear hS60
  refine vc_e (.cons (.inl ⟨rfl, (ev_load rfl ag_9 (by first | assumption | exact hS61.cell 1 rfl rfl))⟩) (.skip (by kernel_rfl) (.skip (by kernel_rfl) (.skip (by kernel_rfl) (.skip (by kernel_rfl) .nil))))) ?_
  refine vc_s rfl rfl rfl rfl rfl rfl ?_
  have hC62 := hS61.split [] [false, false, false] rfl; dsimp only [selF, pickA, nthA, List.cons_append, List.nil_append] at hC62
  refine wl_call cal_77 rfl (qints_sp hC62 (Ent.starL (ent_row (C := inC) (l := ([34, 35, 36, 37].map (tq x))) (by simp)) 0 rfl) (all_tq hw _) (by simp)) rfl ?_
  rintro e w62 ⟨_, rfl, rfl, hS62⟩; refine ⟨_, rfl, ?_⟩
  replace hS62 := hS62.join rfl; dsimp only [List.dropLast, List.cons_append, List.nil_append] at hS62; clear hC62
  clear hS61
  refine vc_e (.cons (.inl ⟨rfl, (ev_load rfl ag_9 (by first | assumption | exact hS62.cell 1 rfl rfl))⟩) (.skip (by kernel_rfl) (.skip (by kernel_rfl) (.skip (by kernel_rfl) (.skip (by kernel_rfl) .nil))))) ?_
  refine vc_p rfl rfl rfl (fun _ => (ev_concat rfl rfl (by first | omega | (simp only [List.length_append, List.length_cons, List.length_nil]; omega) | (simp; done) | (simp; omega)))) ?_
  refine vc_s rfl rfl rfl rfl rfl rfl ?_
  have hC63 := hS62.split [] [false, false, false] rfl; dsimp only [selF, pickA, nthA, List.cons_append, List.nil_append] at hC63
  refine wl_call cal_80 rfl (r1Text_sp hC63 x.shl hw.shl) rfl ?_
  rintro e w63 ⟨_, rfl, rfl, hS63⟩; refine ⟨_, rfl, ?_⟩
  replace hS63 := hS63.join rfl; dsimp only [List.dropLast, List.cons_append, List.nil_append] at hS63; clear hC63
  clear hS62
  refine vc_e (.skip (by kernel_rfl) (.skip (by kernel_rfl) (.skip (by kernel_rfl) (.skip (by kernel_rfl) (.skip (by kernel_rfl) .nil))))) ?_
  refine vc_p rfl rfl rfl (fun _ => (ev_concat rfl rfl (by first | omega | (simp only [List.length_append, List.length_cons, List.length_nil]; omega) | (simp; done) | (simp; omega)))) ?_
  refine vc_p rfl rfl rfl (fun _ => (ev_assign rfl)) ?_
  refine VC.nil ?_
  refine qs_seq ?_
  refine wc_sub (L' := [(2, _)]) (.cons rfl .nil) ?_
  refine wc_ret ?_
  refine fin1 (.inr rfl) rfl rfl ?_
  exact ⟨_, rfl, by rw [show i = 16 by omega, show 2 + 2 * 16 = 34 from rfl]; unfold encR; rw [← ts_all hw]; simp only [List.append_assoc], hS63.pick [2] rfl⟩
end Go.Proofs.YtcbdclhoekokpaaGreatDoor
