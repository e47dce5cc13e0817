/- the reference of names: inodes, names -/
import Derived.Test.YtkaikhcpcbjkcaaGreatDoorNm14
import Derived.Test.YtkaikhcpcbjkcaaGreatDoorRx1
namespace Go.Proofs.YtkaikhcpcbjkcaaGreatDoor
open Go.RowKit M
set_option linter.unusedVariables false
def RZ0 : List Value := [.slice none 0 0, .slice none 0 0, .slice none 0 0, .slice none 0 0, intV 0]
structure RefC (Z : List (Bs × Bs)) (W : WS) (n : Nat) : Prop where
  cells : CellsR Z W.cells
  len : Z.length ≤ n
def refP (q : Nat) (W : WS) (n : Nat) : Th := exT fun Z : List (Bs × Bs) => starL [pureT (RefC Z W n), rfT q Z RZ0]
theorem refP_open {w : World} {As : List Th} {q n : Nat} {W : WS} (h : Sat w (refP q W n :: As)) : ∃ Z, RefC Z W n ∧ Sat w (rfT q Z RZ0 :: As) := by
  obtain ⟨Z, h⟩ := h.ex
  exact ⟨Z, h.flat.pure_elim⟩
theorem refP_shut {w : World} {As : List Th} {q n : Nat} {W : WS} {Z : List (Bs × Bs)} (hR : RefC Z W n) (h : Sat w (rfT q Z RZ0 :: As)) : Sat w (refP q W n :: As) :=
  Sat.ex_intro (f := fun Z : List (Bs × Bs) => starL [pureT (RefC Z W n), rfT q Z RZ0]) Z (Sat.fold (As := [pureT (RefC Z W n), rfT q Z RZ0]) (Sat.pure_intro hR h))
theorem refP_up {w : World} {As : List Th} {q n m : Nat} {W : WS} (hm : n ≤ m) (h : Sat w (refP q W n :: As)) : Sat w (refP q W m :: As) := by
  obtain ⟨Z, hR, h⟩ := refP_open h
  exact refP_shut ⟨hR.cells, by have := hR.len; omega⟩ h
theorem CntOf.ref {Z : List (Bs × Bs)} {c : Bs → Bs} (h : CellsR Z c) (q : Bs) : CntOf c q (withZ Z q).length := by
  refine ⟨withZ Z q, rfl, ?_, fun k => ?_⟩
  · have h1 : (withZ Z q).Pairwise (· < ·) := h.sorted.sublist (List.filter_sublist)
    exact h1.imp fun {a b} hab e => by subst e; exact absurd hab (List.lt_irrefl _)
  · unfold withZ
    rw [List.mem_filter]
    refine and_congr_left fun _ => ⟨fun hk => ?_, fun hk => Decidable.byContradiction fun hn => hk (h.none k hn)⟩
    obtain ⟨x, hx, rfl⟩ := List.mem_map.1 hk
    have := h.val x hx
    rw [this.2]; exact this.1
theorem qGet {w : World} {F : Th} {p n : Nat} {W : WS} (hS : Sat w [refP p W n, F]) (hn : n ≤ 1000) (k : Bs) :
    Calls Tryz.prog 77 #[ptrV p 0, strV k] w (Ret fun v w' => v = strV (W.cells k) ∧ Sat w' [refP p W n, F]) := by
  obtain ⟨Z, hR, hS⟩ := refP_open hS
  have hZl := hR.len
  exact (fGet_sp hS (by omega) hR.cells k).mono fun e w' h => h.mono fun v w' ⟨h2, h3⟩ => ⟨h2, refP_shut hR h3⟩
theorem qPut {w : World} {F : Th} {p n : Nat} {W : WS} (hS : Sat w [refP p W n, F]) (hn : n ≤ 1000) (k x : Bs) :
    Calls Tryz.prog 24 #[ptrV p 0, strV k, strV x] w (Ret fun v w' => v = .tuple #[] ∧ Sat w' [refP p (putS W k x) (n + 1), F]) := by
  obtain ⟨Z, hR, hS⟩ := refP_open hS
  have hZl := hR.len
  exact (fPut_sp hS (by omega) k x).mono fun e w' h => h.mono fun v w' ⟨h2, h3⟩ => ⟨h2, refP_shut (W := putS W k x) ⟨hR.cells.put k x, Nat.le_trans (putZ_len _ _ _) (by omega)⟩ h3⟩
theorem qWith {w : World} {F : Th} {p n : Nat} {W : WS} (hS : Sat w [refP p W n, F]) (hn : n ≤ 1000) (q : Bs) :
    Calls Tryz.prog 72 #[ptrV p 0, strV q] w (Ret fun v w' => ∃ l, CntOf W.cells q l.length ∧ (∀ l', KeysOf W.cells q l' → l' = l) ∧ l.length ≤ n ∧ Sat w' [rowT stC v l, refP p W n, F]) := by
  obtain ⟨Z, hR, hS⟩ := refP_open hS
  have hZl := hR.len
  exact (fWith_sp hS (by omega) q).mono fun e w' h => h.mono fun v w' h3 => ⟨withZ Z q, CntOf.ref hR.cells q, fun l' h => withZ_keys hR.cells h, Nat.le_trans (by unfold withZ; exact Nat.le_trans (List.length_filter_le _ _) (by simp)) hZl, (refP_shut hR (h3.reorder [1, 0, 2] rfl)).reorder [1, 0, 2] rfl⟩
theorem rentry_sp {w : World} {F : Th} (hS : Sat w [F]) (dir name : Bs) (hd : dir.length ≤ 3000000) (hn : name.length ≤ 3000000) :
    Calls Tryz.prog 73 #[strV dir, strV name] w (Ret fun v w' => v = strV (kE dir name) ∧ Sat w' [F]) := by
 refine calls_enter Tryz.func73 rfl Tryz.ntmps73 rfl ?_
 refine wc_seq (wc_region (wl_assign rfl rfl (wl_nil (qs_seq (wc_seq (wc_region (wl_move rfl rfl ?_)))))))
 refine wl_concat rfl rfl (by first | omega | (simp; omega)) rfl ?_
 refine wl_concat rfl rfl (by first | omega | (simp; omega)) rfl ?_
 refine wl_move rfl rfl ?_
 refine wl_concat rfl rfl (by first | omega | (simp; omega)) rfl ?_
 refine wl_assign rfl rfl (wl_nil (qs_seq (wc_ret ?_)))
 refine fin1 (.inr rfl) rfl rfl ?_
 exact ⟨_, rfl, rfl, hS⟩
set_option maxRecDepth 100000 in
theorem rset_sp {w : World} {F : Th} {p n : Nat} {W : WS} (hS : Sat w [refP p W n, F]) (hn : n ≤ 1000) (id : Bs) (hid : id.length ≤ 3000000) {n1 : InD} (hI : InB n1) :
    Calls Tryz.prog 60 #[ptrV p 0, strV id, .agg #[intV n1.k, intV n1.sz, intV n1.ln]] w (Ret fun v w' => v = .tuple #[] ∧ Sat w' [refP p (setI W id n1) (n + 1), F]) := by
 refine calls_enter Tryz.func60 rfl Tryz.ntmps60 rfl ?_
 refine wc_seq (wc_region ?_)
 refine wl_box hS rfl rfl rfl ?_
 intro b1 w1 hS1
 refine wl_nil (qs_seq ?_)
 have hS2 := hS1.drew
 refine wc_draw [0, 1, 2, 3, 4, 6, 7, 10, 11, 5, 8, 9, 12, 13, 14] [5, 8, 12, 14] mix (by kernel_rfl) ?_
 refine vc_p rfl rfl rfl (fun _ => (ev_move rfl)) ?_
 refine vc_p rfl rfl rfl (fun _ => (ev_move rfl)) ?_
 refine vc_p rfl rfl rfl (fun _ => (ev_concat rfl rfl (by first | omega | (simp; omega)))) ?_
 refine vc_p rfl rfl rfl (fun _ => (ev_fieldAddr rfl fo_35_0)) ?_
 refine vc_q rfl rfl rfl (ev_load rfl ag_3 (by first | assumption | exact hS2.cell 0 rfl rfl)) ?_
 refine vc_p rfl rfl rfl (fun _ => (ev_fieldAddr rfl fo_35_1)) ?_
 refine vc_q rfl rfl rfl (ev_load rfl ag_3 (by first | assumption | exact hS2.cell 0 rfl rfl)) ?_
 refine vc_p rfl rfl rfl (fun _ => (ev_fieldAddr rfl fo_35_2)) ?_
 refine vc_q rfl rfl rfl (ev_load rfl ag_3 (by first | assumption | exact hS2.cell 0 rfl rfl)) ?_
 refine vc_s rfl rfl rfl rfl rfl rfl ?_
 have hC3 := hS2.split [] [false, false, false] rfl; dsimp only [selF, pickA, nthA, List.cons_append, List.nil_append] at hC3
 refine wl_call cal_97 rfl (r1Int_sp hC3 n1.k hI.k) rfl ?_
 rintro e w3 ⟨_, rfl, rfl, hS3⟩; refine ⟨_, rfl, ?_⟩
 replace hS3 := hS3.join rfl; dsimp only [List.dropLast, List.cons_append, List.nil_append] at hS3; clear hC3
 clear hS2
 have hil0 := (itoa_len hI.k).1
 refine vc_e (.cons (.inl ⟨rfl, (ev_load rfl ag_3 (by first | assumption | exact hS3.cell 0 rfl rfl))⟩) (.cons (.inl ⟨rfl, (ev_load rfl ag_3 (by first | assumption | exact hS3.cell 0 rfl rfl))⟩) (.skip (by kernel_rfl) .nil))) ?_
 refine vc_s rfl rfl rfl rfl rfl rfl ?_
 have hC4 := hS3.split [] [false, false, false] rfl; dsimp only [selF, pickA, nthA, List.cons_append, List.nil_append] at hC4
 refine wl_call cal_97 rfl (r1Int_sp hC4 n1.sz hI.sz) rfl ?_
 rintro e w4 ⟨_, rfl, rfl, hS4⟩; refine ⟨_, rfl, ?_⟩
 replace hS4 := hS4.join rfl; dsimp only [List.dropLast, List.cons_append, List.nil_append] at hS4; clear hC4
 clear hS3
 have hil1 := (itoa_len hI.sz).1
 refine vc_e (.cons (.inl ⟨rfl, (ev_load rfl ag_3 (by first | assumption | exact hS4.cell 0 rfl rfl))⟩) (.skip (by kernel_rfl) (.skip (by kernel_rfl) .nil))) ?_
 refine vc_p rfl rfl rfl (fun _ => (ev_concat rfl rfl (by first | omega | (simp; omega)))) ?_
 refine vc_s rfl rfl rfl rfl rfl rfl ?_
 have hC5 := hS4.split [] [false, false, false] rfl; dsimp only [selF, pickA, nthA, List.cons_append, List.nil_append] at hC5
 refine wl_call cal_97 rfl (r1Int_sp hC5 n1.ln hI.ln) rfl ?_
 rintro e w5 ⟨_, rfl, rfl, hS5⟩; refine ⟨_, rfl, ?_⟩
 replace hS5 := hS5.join rfl; dsimp only [List.dropLast, List.cons_append, List.nil_append] at hS5; clear hC5
 clear hS4
 have hil2 := (itoa_len hI.ln).1
 refine vc_e (.skip (by kernel_rfl) (.skip (by kernel_rfl) (.skip (by kernel_rfl) .nil))) ?_
 refine vc_p rfl rfl rfl (fun _ => (ev_concat rfl rfl (by first | omega | (simp; omega)))) ?_
 refine vc_s rfl rfl rfl rfl rfl rfl ?_
 have hC6 := hS5.split [1] [false, true, false] rfl; dsimp only [selF, pickA, nthA, List.cons_append, List.nil_append] at hC6
 refine wl_call cal_24 rfl (qPut hC6 hn (kI id) (encI n1)) rfl ?_
 rintro e w6 ⟨_, rfl, rfl, hS6⟩; refine ⟨_, rfl, ?_⟩
 replace hS6 := hS6.join rfl; dsimp only [List.dropLast, List.cons_append, List.nil_append] at hS6; clear hC6
 clear hS5
 refine vc_e (.skip (by kernel_rfl) (.skip (by kernel_rfl) (.skip (by kernel_rfl) .nil))) ?_
 refine VC.nil ?_
 refine fin0 (.inl rfl) rfl ?_
 exact ⟨_, rfl, rfl, hS6.pick [0, 2] rfl⟩
set_option maxRecDepth 100000 in
theorem rno_sp {w : World} {F : Th} {p n : Nat} {W : WS} (hS : Sat w [refP p W n, F]) (hn : n ≤ 990) (id : Bs) (hid : id.length ≤ 3000000) :
    Calls Tryz.prog 66 #[ptrV p 0, strV id] w (Ret fun v w' => v = .tuple #[] ∧ Sat w' [refP p (noI W id) (n + 2), F]) := by
 refine calls_enter Tryz.func66 rfl Tryz.ntmps66 rfl ?_
 refine wc_seq (wc_region (wl_move rfl rfl (wl_move rfl rfl ?_)))
 refine wl_concat rfl rfl (by first | omega | (simp; omega)) rfl ?_
 have hC1 := hS.split [0] [true, false] rfl; dsimp only [selF, pickA, nthA, List.cons_append, List.nil_append] at hC1
 refine wl_call cal_24 rfl (qPut hC1 (by omega) (kI id) []) rfl ?_
 rintro e w1 ⟨_, rfl, rfl, hS1⟩; refine ⟨_, rfl, ?_⟩
 replace hS1 := hS1.join rfl; dsimp only [List.dropLast, List.cons_append, List.nil_append] at hS1; clear hC1
 refine wl_nil (qs_seq (wc_region (wl_move rfl rfl (wl_move rfl rfl ?_))))
 refine wl_concat rfl rfl (by first | omega | (simp; omega)) rfl ?_
 have hC2 := hS1.split [0] [true, false] rfl; dsimp only [selF, pickA, nthA, List.cons_append, List.nil_append] at hC2
 refine wl_call cal_24 rfl (qPut hC2 (by omega) (kU id) []) rfl ?_
 rintro e w2 ⟨_, rfl, rfl, hS2⟩; refine ⟨_, rfl, ?_⟩
 replace hS2 := hS2.join rfl; dsimp only [List.dropLast, List.cons_append, List.nil_append] at hS2; clear hC2
 clear hS1
 refine wl_nil ?_
 refine fin0 (.inl rfl) rfl ?_
 exact ⟨_, rfl, rfl, hS2.pick [0, 1] rfl⟩
set_option maxRecDepth 100000 in
theorem rino_sp {w : World} {F : Th} {p n : Nat} {W : WS} (hS : Sat w [refP p W n, F]) (hn : n ≤ 1000) (id : Bs) (hid : id.length ≤ 3000000) (hz : (W.cells (kI id)).length ≤ 1000000) :
    Calls Tryz.prog 31 #[ptrV p 0, strV id] w (Ret fun v w' => v = .tuple #[.agg #[intV (gI' W id).k, intV (gI' W id).sz, intV (gI' W id).ln], .bool (bI W id)] ∧ Sat w' [refP p W n, F]) := by
 refine calls_enter Tryz.func31 rfl Tryz.ntmps31 rfl ?_
 refine wc_seq (wc_region ?_)
 refine wl_alloc hS zr_35 rfl rfl ?_
 intro b1 w1 hS1
 refine wl_assign rfl rfl (wl_nil (qs_seq (wc_seq (wc_region (wl_move rfl rfl (wl_move rfl rfl ?_))))))
 refine wl_concat rfl rfl (by first | omega | (simp; omega)) rfl ?_
 have hC2 := hS1.split [1] [false, true, false] rfl; dsimp only [selF, pickA, nthA, List.cons_append, List.nil_append] at hC2
 refine wl_call cal_77 rfl (qGet hC2 hn (kI id)) rfl ?_
 rintro e w2 ⟨_, rfl, rfl, hS2⟩; refine ⟨_, rfl, ?_⟩
 replace hS2 := hS2.join rfl; dsimp only [List.dropLast, List.cons_append, List.nil_append] at hS2; clear hC2
 clear hS1
 refine wl_assign rfl rfl (wl_nil (qs_seq (wc_seq (wc_seq (wc_region (wl_move rfl rfl ?_))))))
 refine wl_eqlS rfl rfl rfl ?_
 refine wl_nil (qs_seq ?_)
 refine wc_sub (L' := [(14, _), (6, _), (5, _), (4, _)]) (.cons rfl (.cons rfl (.cons rfl (.cons rfl .nil)))) ?_
 refine wc_condD rfl (fun h3 => ?_) (fun h3 => ?_)
 ·refine wc_seq (wc_region ?_)
  refine wl_buildS rfl pl_35_ asz_35 zr_35 rfl rfl ?_
  first | (refine wl_storeA hS2 rfl rfl sz_35 rfl (by first | rfl | (simp [allOne, Value.oneCell']; done) | assumption | exact hone) (i := 1) rfl (by first | decide | exact Nat.le_of_ble_eq_true rfl | (simp; done) | omega) ?_)
  intro w4 hS5; dsimp only [List.set] at hS5
  clear hS2
  refine wl_assign rfl rfl (wl_nil (qs_seq (wc_ret (qs_then_ret ?_))))
  refine finR2 (.inr rfl) rfl (resCA rfl ag_35 sz_35 (by first | exact hS5.blk 1 rfl) (by first | decide | exact Nat.le_of_ble_eq_true rfl | (simp; done) | omega) rfl) (resT rfl) ?_
  have hg : inoW W id = none := by unfold inoW decI; rw [if_pos (by assumption)]
  exact ⟨_, rfl, by unfold gI' bI; rw [hg]; rfl, hS5.pick [0, 2] rfl⟩
 refine wc_skip (qs_seq (wc_seq (wc_region (wl_move rfl rfl ?_))))
 have hC6 := hS2.split [] [false, false, false] rfl; dsimp only [selF, pickA, nthA, List.cons_append, List.nil_append] at hC6
 refine wl_call cal_78 rfl (r1Open_sp hC6 (W.cells (kI id))) rfl ?_
 rintro e w6 ⟨_, rfl, rb, rfl, hS6⟩; refine ⟨_, rfl, ?_⟩
 replace hS6 := hS6.join rfl; dsimp only [List.dropLast, List.cons_append, List.nil_append] at hS6; clear hC6
 clear hS2
 have hz0 : ((W.cells (kI id), false) : Bs × Bool).1.length ≤ 1000000 := hz
 refine wl_assign rfl rfl (wl_nil (qs_seq (wc_seq (wc_region ?_))))
 refine wl_buildS rfl pl_35_ asz_35 zr_35 rfl rfl ?_
 refine wl_alloc hS6 zr_35 rfl rfl ?_
 intro b7 w7 hS7
 clear hS6
 first | (refine wl_storeA hS7 rfl rfl sz_35 rfl (by first | rfl | (simp [allOne, Value.oneCell']; done) | assumption | exact hone) (i := 0) rfl (by first | decide | exact Nat.le_of_ble_eq_true rfl | (simp; done) | omega) ?_) | (refine wl_storeA hS7 rfl rfl sz_35 rfl (by first | rfl | (simp [allOne, Value.oneCell']; done) | assumption | exact hone) (i := 3) rfl (by first | decide | exact Nat.le_of_ble_eq_true rfl | (simp; done) | omega) ?_)
 intro w8 hS9; dsimp only [List.set] at hS9
 clear hS7
 refine wl_nil (qs_seq (wc_seq (wc_region (wl_move rfl rfl ?_))))
 have hC10 := hS9.split [1] [false, true, false, false, false] rfl; dsimp only [selF, pickA, nthA, List.cons_append, List.nil_append] at hC10
 refine wl_call cal_79 rfl (r1RInt_sp hC10 (by omega)) rfl ?_
 rintro e w10 ⟨_, rfl, rfl, hS10⟩; refine ⟨_, rfl, ?_⟩
 replace hS10 := hS10.join rfl; dsimp only [List.dropLast, List.cons_append, List.nil_append] at hS10; clear hC10
 clear hS9
 have hrl0 := numR_len 59 (-9223372036854775808) (W.cells (kI id), false)
 refine wl_fieldAddr rfl fo_35_0 rfl ?_
 first | (refine wl_store hS10 rfl rfl sz_3 (by first | rfl | assumption) (i := 1) rfl (by first | decide | exact Nat.le_of_ble_eq_true rfl | (simp; done) | omega) ?_) | (refine wl_store hS10 rfl rfl sz_3 (by first | rfl | assumption) (i := 3) rfl (by first | decide | exact Nat.le_of_ble_eq_true rfl | (simp; done) | omega) ?_)
 intro w11 hS12; dsimp only [List.set] at hS12
 clear hS10
 refine wl_nil (qs_seq ?_)
 refine wc_sub (L' := [(8, _), (7, _), (5, _), (4, _)]) (.cons rfl (.cons rfl (.cons rfl (.cons rfl .nil)))) ?_
 refine wc_seq (wc_region (wl_move rfl rfl ?_))
 have hC13 := hS12.split [0] [true, false, false, false, false] rfl; dsimp only [selF, pickA, nthA, List.cons_append, List.nil_append] at hC13
 refine wl_call cal_79 rfl (r1RInt_sp hC13 (by omega)) rfl ?_
 rintro e w13 ⟨_, rfl, rfl, hS13⟩; refine ⟨_, rfl, ?_⟩
 replace hS13 := hS13.join rfl; dsimp only [List.dropLast, List.cons_append, List.nil_append] at hS13; clear hC13
 clear hS12
 have hrl1 := numR_len 59 (-9223372036854775808) (numR 59 (-9223372036854775808) (W.cells (kI id), false))
 refine wl_fieldAddr rfl fo_35_1 rfl ?_
 first | (refine wl_store hS13 rfl rfl sz_3 (by first | rfl | assumption) (i := 1) rfl (by first | decide | exact Nat.le_of_ble_eq_true rfl | (simp; done) | omega) ?_) | (refine wl_store hS13 rfl rfl sz_3 (by first | rfl | assumption) (i := 3) rfl (by first | decide | exact Nat.le_of_ble_eq_true rfl | (simp; done) | omega) ?_)
 intro w14 hS15; dsimp only [List.set] at hS15
 clear hS13
 refine wl_nil (qs_seq (wc_seq (wc_region (wl_move rfl rfl ?_))))
 have hC16 := hS15.split [0] [true, false, false, false, false] rfl; dsimp only [selF, pickA, nthA, List.cons_append, List.nil_append] at hC16
 refine wl_call cal_79 rfl (r1RInt_sp hC16 (by omega)) rfl ?_
 rintro e w16 ⟨_, rfl, rfl, hS16⟩; refine ⟨_, rfl, ?_⟩
 replace hS16 := hS16.join rfl; dsimp only [List.dropLast, List.cons_append, List.nil_append] at hS16; clear hC16
 clear hS15
 have hrl2 := numR_len 59 (-9223372036854775808) (numR 59 (-9223372036854775808) (numR 59 (-9223372036854775808) (W.cells (kI id), false)))
 refine wl_fieldAddr rfl fo_35_2 rfl ?_
 first | (refine wl_store hS16 rfl rfl sz_3 (by first | rfl | assumption) (i := 1) rfl (by first | decide | exact Nat.le_of_ble_eq_true rfl | (simp; done) | omega) ?_) | (refine wl_store hS16 rfl rfl sz_3 (by first | rfl | assumption) (i := 3) rfl (by first | decide | exact Nat.le_of_ble_eq_true rfl | (simp; done) | omega) ?_)
 intro w17 hS18; dsimp only [List.set] at hS18
 clear hS16
 refine wl_nil (qs_seq (wc_seq (wc_seq (wc_region (wl_move rfl rfl ?_)))))
 have hC19 := hS18.split [0] [true, false, false, false, false] rfl; dsimp only [selF, pickA, nthA, List.cons_append, List.nil_append] at hC19
 refine wl_call cal_80 rfl (r1Done_sp hC19) rfl ?_
 rintro e w19 ⟨_, rfl, rfl, hS19⟩; refine ⟨_, rfl, ?_⟩
 replace hS19 := hS19.join rfl; dsimp only [List.dropLast, List.cons_append, List.nil_append] at hS19; clear hC19
 clear hS18
 refine wl_not rfl rfl ?_
 refine wl_nil (qs_seq ?_)
 refine wc_sub (L' := [(30, _), (8, _), (5, _), (4, _)]) (.cons rfl (.cons rfl (.cons rfl (.cons rfl .nil)))) ?_
 refine wc_cond rfl (fun h20 => ?_) (fun h20 => ?_)
 ·refine wc_seq (wc_region ?_)
  refine wl_buildS rfl pl_35_ asz_35 zr_35 rfl rfl ?_
  first | (refine wl_storeA hS19 rfl rfl sz_35 rfl (by first | rfl | (simp [allOne, Value.oneCell']; done) | assumption | exact hone) (i := 1) rfl (by first | decide | exact Nat.le_of_ble_eq_true rfl | (simp; done) | omega) ?_) | (refine wl_storeA hS19 rfl rfl sz_35 rfl (by first | rfl | (simp [allOne, Value.oneCell']; done) | assumption | exact hone) (i := 3) rfl (by first | decide | exact Nat.le_of_ble_eq_true rfl | (simp; done) | omega) ?_)
  intro w21 hS22; dsimp only [List.set] at hS22
  clear hS19
  refine wl_assign rfl rfl (wl_nil (qs_seq (wc_ret (qs_then_ret ?_))))
  refine finR2 (.inr rfl) rfl (resCA rfl ag_35 sz_35 (by first | exact hS22.blk 1 rfl | exact hS22.blk 3 rfl) (by first | decide | exact Nat.le_of_ble_eq_true rfl | (simp; done) | omega) rfl) (resT rfl) ?_
  have hg : inoW W id = none := by unfold inoW decI imin; rw [if_neg (by assumption), if_neg (done_no (by assumption))]
  exact ⟨_, rfl, by unfold gI' bI; rw [hg]; rfl, hS22.pick [2, 4] rfl⟩
 refine wc_skip (qs_seq (wc_seq (wc_region ?_)))
 refine wl_loadA rfl ag_35 sz_35 (by first | exact hS19.blk 1 rfl | exact hS19.blk 3 rfl) (by first | decide | exact Nat.le_of_ble_eq_true rfl | (simp; done) | omega) rfl rfl ?_
 first | (refine wl_storeA hS19 rfl rfl sz_35 rfl (by first | rfl | (simp [allOne, Value.oneCell']; done) | assumption | exact hone) (i := 1) rfl (by first | decide | exact Nat.le_of_ble_eq_true rfl | (simp; done) | omega) ?_) | (refine wl_storeA hS19 rfl rfl sz_35 rfl (by first | rfl | (simp [allOne, Value.oneCell']; done) | assumption | exact hone) (i := 3) rfl (by first | decide | exact Nat.le_of_ble_eq_true rfl | (simp; done) | omega) ?_)
 intro w23 hS24; dsimp only [List.set] at hS24
 clear hS19
 refine wl_assign rfl rfl (wl_nil (qs_seq (wc_ret ?_)))
 refine finR2 (.inr rfl) rfl (resCA rfl ag_35 sz_35 (by first | exact hS24.blk 1 rfl | exact hS24.blk 3 rfl) (by first | decide | exact Nat.le_of_ble_eq_true rfl | (simp; done) | omega) rfl) (resT rfl) ?_
 have hdn := done_yes (by assumption)
 have hg : inoW W id = some ⟨numV 59 imin (W.cells (kI id), false), numV 59 imin (numR 59 imin (W.cells (kI id), false)), numV 59 imin (numR 59 imin (numR 59 imin (W.cells (kI id), false)))⟩ := by unfold inoW decI imin; rw [if_neg (by assumption), if_pos ⟨hdn.1, hdn.2⟩]
 exact ⟨_, rfl, by unfold gI' bI; rw [hg]; rfl, hS24.pick [2, 4] rfl⟩
set_option maxRecDepth 100000 in
theorem rslash_sp {w : World} {F : Th} (hS : Sat w [F]) (s : Bs) (hs : s.length ≤ 3000000) :
    Calls Tryz.prog 81 #[strV s] w (Ret fun v w' => v = .bool (decide ((47 : UInt8) ∈ s)) ∧ Sat w' [F]) := by
 refine calls_enter Tryz.func81 rfl Tryz.ntmps81 rfl ?_
 refine wc_seq (wc_region (wl_assign rfl rfl (wl_nil (qs_seq (wc_seq (wc_seq (wc_region (wl_assign rfl rfl (wl_nil (qs_seq (wc_block ?_)))))))))))
 refine wc_loop (fun K0 E0 W0 => ∃ (i : Nat), K0 = s.length - i ∧ E0 = [(0, strV s), (3, intV (i : Int))] ∧ Sat W0 [F] ∧ (i ≤ s.length) ∧ (∀ j, j < i → s[j]? ≠ some 47)) (L0 := [(0, _), (3, _)]) (s.length - 0) (.cons rfl (.cons rfl .nil)) ⟨0, rfl, rfl, hS, by omega, by omega⟩ ?_
 rintro _ _ w1 ⟨i, rfl, rfl, hS1, hi, hno⟩
 refine wc_seq (wc_seq (wc_region (wl_move rfl rfl (wl_move rfl rfl ?_))))
 refine wl_lenS Tryz.underlying9 rfl rfl ?_
 refine wl_lss rfl rfl rfl ?_
 refine wl_nil (qs_seq ?_)
 refine wc_condD rfl (fun h2 => ?_) (fun h2 => ?_)
 ·obtain ⟨c0, hc⟩ : ∃ c, s[i]? = some c := ⟨_, List.getElem?_eq_getElem (by omega)⟩
  refine wc_skip (qs_seq (wc_seq (wc_block (wc_seq (wc_region (wl_move rfl rfl (wl_move rfl rfl ?_)))))))
  refine wl_indexS i Tryz.underlying9 rfl rfl (by omega) hc rfl ?_
  refine wl_eql rfl rfl rfl ?_
  refine wl_nil (qs_seq ?_)
  refine wc_condD rfl (fun h3 => ?_) (fun h3 => ?_)
  ·refine wc_seq (wc_region (wl_assign rfl rfl (wl_nil (qs_seq ?_))))
   refine wc_sub (L' := [(2, _), (0, _), (3, _)]) (.cons rfl (.cons rfl (.cons rfl .nil))) ?_
   refine wc_ret (qs_block_ret (qs_then_ret (qs_then_ret (qs_block_ret (qs_then_ret ?_)))))
   refine fin1 (.inr rfl) rfl rfl ?_
   exact ⟨_, rfl, by rw [decide_eq_true (show (47 : UInt8) ∈ s from List.mem_of_getElem? (hc.trans (congrArg some (u8_47.1 (by assumption)))))], hS1.pick [0] rfl⟩
  refine wc_skip (qs_block_normal (qs_seq (wc_region (wl_move rfl rfl ?_))))
  refine wl_add rfl rfl (by first | omega | (simp; omega)) (by first | omega | (simp; omega)) rfl ?_
  refine wl_assign rfl rfl (wl_nil ?_)
  exact qs_round (L1 := [(0, _), (3, intV ((i + 1 : Nat) : Int))]) (.cons rfl (.cons rfl .nil)) (k1 := s.length - (i + 1)) (by omega) ⟨i + 1, rfl, rfl, hS1.pick [0] rfl, by omega, fun j hj hq => by by_cases e : j = i; (subst e; rw [hc] at hq; cases hq; exact absurd rfl (by assumption)); exact hno j (by omega) hq⟩
 refine wc_exit (qs_then_exit (qs_then_exit (qs_block_exit (qs_seq (wc_seq (wc_region (wl_assign rfl rfl (wl_nil (qs_seq (wc_ret ?_))))))))))
 refine fin1 (.inr rfl) rfl rfl ?_
 exact ⟨_, rfl, by rw [decide_eq_false (show ¬ (47 : UInt8) ∈ s from fun q => by obtain ⟨j, hj⟩ := List.mem_iff_getElem?.1 q; exact hno j (by have := (List.getElem?_eq_some_iff.1 hj).1; omega) hj)], hS1.pick [0] rfl⟩
theorem nameB_no {s : Bs} (h : s.length < 1 ∨ 14 < s.length ∨ s = [46] ∨ s = [46, 46]) : nameB s = false := by
  unfold nameB
  rcases h with h | h | h | h
  · have : s = [] := List.length_eq_zero_iff.1 (by omega)
    simp [this]
  · simp; intros; omega
  · simp [h]
  · simp [h]
theorem nameB_or {s : Bs} (h1 : ¬ s.length < 1) (h2 : ¬ 14 < s.length) (h3 : s ≠ [46]) (h4 : s ≠ [46, 46]) : nameB s = !decide ((47 : UInt8) ∈ s) := by
  unfold nameB
  have e1 : s ≠ [] := fun q => by subst q; simp at h1
  have e2 : s.length ≤ 14 := by omega
  simp [e1, e2, h3, h4]
theorem rname_sp {w : World} {F : Th} (hS : Sat w [F]) (s : Bs) (hs : s.length ≤ 3000000) :
    Calls Tryz.prog 38 #[strV s] w (Ret fun v w' => v = .bool (nameB s) ∧ Sat w' [F]) := by
 refine calls_enter Tryz.func38 rfl Tryz.ntmps38 rfl ?_
 refine wc_seq (wc_region (wl_assign rfl rfl (wl_nil (qs_seq (wc_seq (wc_seq (wc_region (wl_move rfl rfl ?_))))))))
 refine wl_lenS Tryz.underlying9 rfl rfl ?_
 refine wl_lss rfl rfl rfl ?_
 refine wl_move rfl rfl ?_
 refine wl_splitD 6 rfl (fun h1 => ?_) (fun h1 => ?_)
 ·refine wl_unwanted rfl rfl (decide_eq_true h1) rfl ?_
  refine wl_unwanted rfl rfl (decide_eq_true h1) rfl ?_
  refine wl_unwanted rfl rfl (decide_eq_true h1) rfl ?_
  refine wl_pickT rfl (decide_eq_true h1) rfl rfl ?_
  refine wl_move rfl rfl ?_
  refine wl_unwanted rfl rfl rfl rfl ?_
  refine wl_unwanted rfl rfl rfl rfl ?_
  refine wl_pickT rfl rfl rfl rfl ?_
  refine wl_move rfl rfl ?_
  refine wl_unwanted rfl rfl rfl rfl ?_
  refine wl_unwanted rfl rfl rfl rfl ?_
  refine wl_pickT rfl rfl rfl rfl ?_
  refine wl_nil (qs_seq ?_)
  refine wc_sub (L' := [(18, _), (2, _), (0, _)]) (.cons rfl (.cons rfl (.cons rfl .nil))) ?_
  refine wc_condT rfl ?_
  refine wc_seq (wc_region (wl_assign rfl rfl (wl_nil (qs_seq (wc_ret (qs_then_ret ?_))))))
  refine fin1 (.inr rfl) rfl rfl ?_
  exact ⟨_, rfl, by rw [nameB_no (by first | (exact .inl (by omega)) | (exact .inr (.inl (by omega))) | (exact .inr (.inr (.inl (by assumption)))) | (exact .inr (.inr (.inr (by assumption)))))], hS.pick [0] rfl⟩
 refine wl_guard rfl rfl (decide_eq_false h1) ?_
 refine wl_move rfl rfl ?_
 refine wl_guard rfl rfl (decide_eq_false h1) ?_
 refine wl_lenS Tryz.underlying9 rfl rfl ?_
 refine wl_guard rfl rfl (decide_eq_false h1) ?_
 refine wl_gtr rfl rfl rfl ?_
 refine wl_pickF rfl (decide_eq_false h1) rfl rfl ?_
 refine wl_move rfl rfl ?_
 refine wl_splitD 11 rfl (fun h2 => ?_) (fun h2 => ?_)
 ·refine wl_unwanted rfl rfl (decide_eq_true h2) rfl ?_
  refine wl_unwanted rfl rfl (decide_eq_true h2) rfl ?_
  refine wl_pickT rfl (decide_eq_true h2) rfl rfl ?_
  refine wl_move rfl rfl ?_
  refine wl_unwanted rfl rfl rfl rfl ?_
  refine wl_unwanted rfl rfl rfl rfl ?_
  refine wl_pickT rfl rfl rfl rfl ?_
  refine wl_nil (qs_seq ?_)
  refine wc_sub (L' := [(18, _), (2, _), (0, _)]) (.cons rfl (.cons rfl (.cons rfl .nil))) ?_
  refine wc_condT rfl ?_
  refine wc_seq (wc_region (wl_assign rfl rfl (wl_nil (qs_seq (wc_ret (qs_then_ret ?_))))))
  refine fin1 (.inr rfl) rfl rfl ?_
  exact ⟨_, rfl, by rw [nameB_no (by first | (exact .inl (by omega)) | (exact .inr (.inl (by omega))) | (exact .inr (.inr (.inl (by assumption)))) | (exact .inr (.inr (.inr (by assumption)))))], hS.pick [0] rfl⟩
 refine wl_guard rfl rfl (decide_eq_false h2) ?_
 refine wl_move rfl rfl ?_
 refine wl_guard rfl rfl (decide_eq_false h2) ?_
 refine wl_eqlS rfl rfl rfl ?_
 refine wl_pickF rfl (decide_eq_false h2) rfl rfl ?_
 refine wl_move rfl rfl ?_
 refine wl_splitD 15 rfl (fun h3 => ?_) (fun h3 => ?_)
 ·refine wl_unwanted rfl rfl (decide_eq_true h3) rfl ?_
  refine wl_unwanted rfl rfl (decide_eq_true h3) rfl ?_
  refine wl_pickT rfl (decide_eq_true h3) rfl rfl ?_
  refine wl_nil (qs_seq ?_)
  refine wc_sub (L' := [(18, _), (2, _), (0, _)]) (.cons rfl (.cons rfl (.cons rfl .nil))) ?_
  refine wc_condT rfl ?_
  refine wc_seq (wc_region (wl_assign rfl rfl (wl_nil (qs_seq (wc_ret (qs_then_ret ?_))))))
  refine fin1 (.inr rfl) rfl rfl ?_
  exact ⟨_, rfl, by rw [nameB_no (by first | (exact .inl (by omega)) | (exact .inr (.inl (by omega))) | (exact .inr (.inr (.inl (by assumption)))) | (exact .inr (.inr (.inr (by assumption)))))], hS.pick [0] rfl⟩
 refine wl_guard rfl rfl (decide_eq_false h3) ?_
 refine wl_move rfl rfl ?_
 refine wl_guard rfl rfl (decide_eq_false h3) ?_
 refine wl_eqlS rfl rfl rfl ?_
 refine wl_pickF rfl (decide_eq_false h3) rfl rfl ?_
 refine wl_nil (qs_seq ?_)
 refine wc_sub (L' := [(18, _), (2, _), (0, _)]) (.cons rfl (.cons rfl (.cons rfl .nil))) ?_
 refine wc_condD rfl (fun h4 => ?_) (fun h4 => ?_)
 ·refine wc_seq (wc_region (wl_assign rfl rfl (wl_nil (qs_seq (wc_ret (qs_then_ret ?_))))))
  refine fin1 (.inr rfl) rfl rfl ?_
  exact ⟨_, rfl, by rw [nameB_no (by first | (exact .inl (by omega)) | (exact .inr (.inl (by omega))) | (exact .inr (.inr (.inl (by assumption)))) | (exact .inr (.inr (.inr (by assumption)))))], hS.pick [0] rfl⟩
 refine wc_skip (qs_seq (wc_seq (wc_region (wl_move rfl rfl ?_))))
 have hC5 := hS.split [] [false] rfl; dsimp only [selF, pickA, nthA, List.cons_append, List.nil_append] at hC5
 refine wl_call cal_81 rfl (rslash_sp hC5 s hs) rfl ?_
 rintro e w5 ⟨_, rfl, rfl, hS5⟩; refine ⟨_, rfl, ?_⟩
 replace hS5 := hS5.join rfl; dsimp only [List.dropLast, List.cons_append, List.nil_append] at hS5; clear hC5
 refine wl_not rfl rfl ?_
 refine wl_assign rfl rfl (wl_nil (qs_seq (wc_ret ?_)))
 refine fin1 (.inr rfl) rfl rfl ?_
 exact ⟨_, rfl, by rw [nameB_or (by omega) (by omega) (by assumption) (by assumption)], hS5.pick [0] rfl⟩
end Go.Proofs.YtkaikhcpcbjkcaaGreatDoor
/- the reference of names: directory, Depth, found -/
namespace Go.Proofs.YtkaikhcpcbjkcaaGreatDoor
open Go.RowKit M
set_option linter.unusedVariables false
set_option maxRecDepth 100000 in
theorem rdir_sp {w : World} {F : Th} {p n : Nat} {W : WS} (hS : Sat w [refP p W n, F]) (hn : n ≤ 1000) (hB : TB W) (id : Bs) (hid : id.length ≤ 3000000) :
    Calls Tryz.prog 69 #[ptrV p 0, strV id] w (Ret fun v w' => v = intV (dirE W id) ∧ Sat w' [refP p W n, F]) := by
 refine calls_enter Tryz.func69 rfl Tryz.ntmps69 rfl ?_
 refine wc_seq (wc_region (wl_assign rfl rfl (wl_nil (qs_seq (wc_seq (wc_region (wl_move rfl rfl (wl_move rfl rfl ?_))))))))
 have hC1 := hS.split [0] [true, false] rfl; dsimp only [selF, pickA, nthA, List.cons_append, List.nil_append] at hC1
 refine wl_call cal_31 rfl (rino_sp hC1 hn id (by omega) (hB _)) rfl ?_
 rintro e w1 ⟨_, rfl, rfl, hS1⟩; refine ⟨_, rfl, ?_⟩
 replace hS1 := hS1.join rfl; dsimp only [List.dropLast, List.cons_append, List.nil_append] at hS1; clear hC1
 refine wl_move rfl rfl (wl_extract rfl rfl rfl (wl_extract rfl rfl rfl ?_))
 refine wl_alloc hS1 zr_35 rfl rfl ?_
 intro b2 w2 hS2
 clear hS1
 first | (refine wl_storeA hS2 rfl rfl sz_35 rfl (by first | rfl | (simp [allOne, Value.oneCell']; done) | assumption | exact hone) (i := 0) rfl (by first | decide | exact Nat.le_of_ble_eq_true rfl | (simp; done) | omega) ?_)
 intro w3 hS4; dsimp only [List.set] at hS4
 clear hS2
 refine wl_assign rfl rfl (wl_nil (qs_seq ?_))
 refine wc_sub (L' := [(6, _), (5, _), (4, _)]) (.cons rfl (.cons rfl (.cons rfl .nil))) ?_
 refine wc_seq (wc_seq (wc_region (wl_move rfl rfl ?_)))
 refine wl_not rfl rfl ?_
 refine wl_nil (qs_seq ?_)
 refine wc_cond rfl (fun h5 => ?_) (fun h5 => ?_)
 ·have hb0 : bI W id = false := by simpa using h5
  refine wc_seq (wc_region (wl_assign rfl rfl (wl_nil (qs_seq (wc_ret (qs_then_ret ?_))))))
  refine fin1 (.inr rfl) rfl rfl ?_
  exact ⟨_, rfl, by unfold dirE; rw [if_pos (by simpa using hb0)], hS4.pick [1, 2] rfl⟩
 have hb0 : bI W id = true := by simpa using h5
 refine wc_skip (qs_seq (wc_seq (wc_seq (wc_region ?_))))
 refine wl_fieldAddr rfl fo_35_0 rfl ?_
 refine wl_load rfl ag_3 (by first | assumption | exact hS4.cell 0 rfl rfl) rfl ?_
 refine wl_neq rfl rfl rfl ?_
 refine wl_nil (qs_seq ?_)
 refine wc_condD rfl (fun h6 => ?_) (fun h6 => ?_)
 ·refine wc_seq (wc_region (wl_assign rfl rfl (wl_nil (qs_seq (wc_ret (qs_then_ret ?_))))))
  refine fin1 (.inr rfl) rfl rfl ?_
  exact ⟨_, rfl, by unfold dirE; rw [if_neg (by simp [hb0]), if_pos (by assumption)], hS4.pick [1, 2] rfl⟩
 refine wc_skip (qs_seq (wc_seq (wc_region (wl_assign rfl rfl (wl_nil (qs_seq (wc_ret ?_)))))))
 refine fin1 (.inr rfl) rfl rfl ?_
 exact ⟨_, rfl, by unfold dirE; rw [if_neg (by simp [hb0]), if_neg (by assumption)], hS4.pick [1, 2] rfl⟩
set_option maxRecDepth 100000 in
theorem rdepth_sp {w : World} {F : Th} {p n : Nat} {W : WS} (hS : Sat w [refP p W n, F]) (hn : n ≤ 1000) (hB : TB W) (dir : Bs) (hd : dir.length ≤ 3000000) :
    Calls Tryz.prog 37 #[ptrV p 0, strV dir] w (Ret fun v w' => v = intV (depF W 100 dir : Nat) ∧ Sat w' [refP p W n, F]) := by
 refine calls_enter Tryz.func37 rfl Tryz.ntmps37 rfl ?_
 refine wc_seq (wc_region (wl_assign rfl rfl (wl_nil (qs_seq (wc_seq (wc_seq (wc_region (wl_assign rfl rfl (wl_nil (qs_seq (wc_block ?_)))))))))))
 refine wc_loop (fun K0 E0 W0 => ∃ (i : Nat) (d : Bs), K0 = 100 - i ∧ E0 = [(0, ptrV p 0), (1, strV d), (5, intV (i : Int))] ∧ Sat W0 [refP p W n, F] ∧ (i ≤ 100) ∧ (depF W 100 dir = i + depF W (100 - i) d) ∧ (d.length ≤ 3000000)) (L0 := [(0, _), (1, _), (5, _)]) (100 - 0) (.cons rfl (.cons rfl (.cons rfl .nil))) ⟨0, dir, rfl, rfl, hS, by omega, by simp, hd⟩ ?_
 rintro _ _ w1 ⟨i, d, rfl, rfl, hS1, hi, hdp, hdl⟩
 refine wc_seq (wc_seq (wc_region (wl_move rfl rfl ?_)))
 refine wl_lss rfl rfl rfl ?_
 refine wl_nil (qs_seq ?_)
 refine wc_condD rfl (fun h2 => ?_) (fun h2 => ?_)
 ·refine wc_skip (qs_seq (wc_seq (wc_block (wc_seq (wc_seq (wc_region (wl_move rfl rfl ?_)))))))
  refine wl_eqlS rfl rfl rfl ?_
  refine wl_nil (qs_seq ?_)
  refine wc_condD rfl (fun h3 => ?_) (fun h3 => ?_)
  ·refine wc_seq (wc_region (wl_move rfl rfl (wl_assign rfl rfl (wl_nil (qs_seq (wc_ret (qs_then_ret (qs_block_ret (qs_then_ret (qs_then_ret (qs_block_ret (qs_then_ret ?_))))))))))))
   refine fin1 (.inr rfl) rfl rfl ?_
   exact ⟨_, rfl, by rw [hdp, show 100 - i = (99 - i) + 1 by omega, depF, if_pos (by assumption), Nat.add_zero], hS1.pick [0, 1] rfl⟩
  refine wc_skip (qs_seq (wc_region (wl_move rfl rfl (wl_move rfl rfl ?_))))
  refine wl_concat rfl rfl (by first | omega | (simp; omega)) rfl ?_
  have hC4 := hS1.split [0] [true, false] rfl; dsimp only [selF, pickA, nthA, List.cons_append, List.nil_append] at hC4
  refine wl_call cal_77 rfl (qGet hC4 hn (kU d)) rfl ?_
  rintro e w4 ⟨_, rfl, rfl, hS4⟩; refine ⟨_, rfl, ?_⟩
  replace hS4 := hS4.join rfl; dsimp only [List.dropLast, List.cons_append, List.nil_append] at hS4; clear hC4
  clear hS1
  refine wl_assign rfl rfl (wl_nil (qs_block_normal (qs_seq ?_)))
  refine wc_sub (L' := [(1, _), (0, _), (5, _)]) (.cons rfl (.cons rfl (.cons rfl .nil))) ?_
  refine wc_region (wl_move rfl rfl ?_)
  refine wl_add rfl rfl (by first | omega | (simp; omega)) (by first | omega | (simp; omega)) rfl ?_
  refine wl_assign rfl rfl (wl_nil ?_)
  exact qs_round (L1 := [(0, _), (1, strV (W.cells (kU d))), (5, intV ((i + 1 : Nat) : Int))]) (.cons rfl (.cons rfl (.cons rfl .nil))) (k1 := 100 - (i + 1)) (by omega) ⟨i + 1, W.cells (kU d), rfl, rfl, hS4.pick [0, 1] rfl, by omega, by rw [hdp, show 100 - i = (100 - (i + 1)) + 1 by omega, depF, if_neg (by assumption)]; omega, by have := hB (kU d); omega⟩
 refine wc_exit (qs_then_exit (qs_then_exit (qs_block_exit (qs_seq (wc_seq (wc_region (wl_assign rfl rfl (wl_nil (qs_seq (wc_ret ?_))))))))))
 refine fin1 (.inr rfl) rfl rfl ?_
 exact ⟨_, rfl, by rw [hdp, show 100 - i = 0 by omega, depF, show i = 100 by omega]; rfl, hS1.pick [0, 1] rfl⟩
set_option maxRecDepth 100000 in
theorem rinodes_sp {w : World} {F : Th} {p n : Nat} {W : WS} (hS : Sat w [refP p W n, F]) (hn : n ≤ 1000) :
    Calls Tryz.prog 35 #[ptrV p 0] w (Ret fun v w' => v = intV (cntK W [105, 47] : Nat) ∧ Sat w' [refP p W n, F]) := by
 refine calls_enter Tryz.func35 rfl Tryz.ntmps35 rfl ?_
 refine wc_seq (wc_region (wl_assign rfl rfl (wl_nil (qs_seq (wc_seq (wc_region (wl_move rfl rfl ?_)))))))
 have hC1 := hS.split [0] [true, false] rfl; dsimp only [selF, pickA, nthA, List.cons_append, List.nil_append] at hC1
 refine wl_call cal_72 rfl (qWith hC1 hn [105, 47]) rfl ?_
 rintro e w1 ⟨_, rfl, lw, hcn, _, hln, hS1⟩; refine ⟨_, rfl, ?_⟩
 replace hS1 := hS1.join rfl; dsimp only [List.dropLast, List.cons_append, List.nil_append] at hS1; clear hC1
 obtain ⟨la, lc, hlv, _⟩ := hS1.own_shape 0 rfl
 obtain rfl := hlv
 first | refine wl_lenL Tryz.underlying40 rfl rfl ?_ | refine wl_lenO 0 hS1 Tryz.underlying40 rfl rfl rfl ?_
 refine wl_assign rfl rfl (wl_nil (qs_seq (wc_ret ?_)))
 refine fin1 (.inr rfl) rfl rfl ?_
 exact ⟨_, rfl, by rw [cntK_eq hcn], hS1.pick [1, 2] rfl⟩
set_option maxRecDepth 100000 in
theorem rinit_sp {w : World} {F : Th} {p n : Nat} {W : WS} (hS : Sat w [refP p W n, F]) (hn : n ≤ 900) :
    Calls Tryz.prog 22 #[ptrV p 0] w (Ret fun v w' => v = .tuple #[] ∧ Sat w' [refP p (initW W) (n + 2), F]) := by
 refine calls_enter Tryz.func22 rfl Tryz.ntmps22 rfl ?_
 refine wc_seq (wc_region (wl_move rfl rfl ?_))
 refine wl_buildX (vs' := [intV mkdI.k, intV mkdI.sz, intV mkdI.ln]) rfl pl_35_0_2 asz_35 zr_35 rfl rfl rfl ?_
 have hC1 := hS.split [0] [true, false] rfl; dsimp only [selF, pickA, nthA, List.cons_append, List.nil_append] at hC1
 refine wl_call cal_60 rfl (rset_sp hC1 (by omega) [114] (by simp) mkdI_in) rfl ?_
 rintro e w1 ⟨_, rfl, rfl, hS1⟩; refine ⟨_, rfl, ?_⟩
 replace hS1 := hS1.join rfl; dsimp only [List.dropLast, List.cons_append, List.nil_append] at hS1; clear hC1
 refine wl_nil (qs_seq (wc_region (wl_move rfl rfl ?_)))
 have hC2 := hS1.split [0] [true, false] rfl; dsimp only [selF, pickA, nthA, List.cons_append, List.nil_append] at hC2
 refine wl_call cal_24 rfl (qPut hC2 (by omega) (kU [114]) [114]) rfl ?_
 rintro e w2 ⟨_, rfl, rfl, hS2⟩; refine ⟨_, rfl, ?_⟩
 replace hS2 := hS2.join rfl; dsimp only [List.dropLast, List.cons_append, List.nil_append] at hS2; clear hC2
 clear hS1
 refine wl_nil ?_
 refine fin0 (.inl rfl) rfl ?_
 exact ⟨_, rfl, rfl, hS2.pick [0, 1] rfl⟩
set_option maxRecDepth 100000 in
theorem rfound_sp {w : World} {F : Th} {p n : Nat} {W : WS} (hS : Sat w [refP p W n, F]) (hn : n ≤ 1000) (hB : TB W) (dir name : Bs) (hd : dir.length ≤ 900) (hnl : name.length ≤ 900) :
    Calls Tryz.prog 98 #[ptrV p 0, strV dir, strV name] w (Ret fun v w' => v = .tuple #[strV (W.cells (kE dir name)), .agg #[intV (gI' W (W.cells (kE dir name))).k, intV (gI' W (W.cells (kE dir name))).sz, intV (gI' W (W.cells (kE dir name))).ln], .bool (bI W (W.cells (kE dir name)) && decide ((W.cells (kE dir name)) ≠ []))] ∧ Sat w' [refP p W n, F]) := by
 refine calls_enter Tryz.func98 rfl Tryz.ntmps98 rfl ?_
 refine wc_seq (wc_region (wl_assign rfl rfl ?_))
 refine wl_alloc hS zr_35 rfl rfl ?_
 intro b1 w1 hS1
 refine wl_assign rfl rfl (wl_nil (qs_seq (wc_seq (wc_region (wl_move rfl rfl (wl_move rfl rfl (wl_move rfl rfl ?_)))))))
 have hC2 := hS1.split [] [false, false, false] rfl; dsimp only [selF, pickA, nthA, List.cons_append, List.nil_append] at hC2
 refine wl_call cal_73 rfl (rentry_sp hC2 dir name (by omega) (by omega)) rfl ?_
 rintro e w2 ⟨_, rfl, rfl, hS2⟩; refine ⟨_, rfl, ?_⟩
 replace hS2 := hS2.join rfl; dsimp only [List.dropLast, List.cons_append, List.nil_append] at hS2; clear hC2
 clear hS1
 have hC3 := hS2.split [1] [false, true, false] rfl; dsimp only [selF, pickA, nthA, List.cons_append, List.nil_append] at hC3
 refine wl_call cal_77 rfl (qGet hC3 hn (kE dir name)) rfl ?_
 rintro e w3 ⟨_, rfl, rfl, hS3⟩; refine ⟨_, rfl, ?_⟩
 replace hS3 := hS3.join rfl; dsimp only [List.dropLast, List.cons_append, List.nil_append] at hS3; clear hC3
 clear hS2
 refine wl_assign rfl rfl (wl_nil (qs_seq ?_))
 refine wc_sub (L' := [(9, _), (8, _), (7, _), (6, _), (0, _)]) (.cons rfl (.cons rfl (.cons rfl (.cons rfl (.cons rfl .nil))))) ?_
 refine wc_seq (wc_region (wl_move rfl rfl (wl_move rfl rfl ?_)))
 have hC4 := hS3.split [0] [true, false, false] rfl; dsimp only [selF, pickA, nthA, List.cons_append, List.nil_append] at hC4
 refine wl_call cal_31 rfl (rino_sp hC4 hn (W.cells (kE dir name)) (by have := hB (kE dir name); omega) (hB _)) rfl ?_
 rintro e w4 ⟨_, rfl, rfl, hS4⟩; refine ⟨_, rfl, ?_⟩
 replace hS4 := hS4.join rfl; dsimp only [List.dropLast, List.cons_append, List.nil_append] at hS4; clear hC4
 clear hS3
 refine wl_move rfl rfl (wl_extract rfl rfl rfl (wl_extract rfl rfl rfl ?_))
 refine wl_alloc hS4 zr_35 rfl rfl ?_
 intro b5 w5 hS5
 clear hS4
 first | (refine wl_storeA hS5 rfl rfl sz_35 rfl (by first | rfl | (simp [allOne, Value.oneCell']; done) | assumption | exact hone) (i := 0) rfl (by first | decide | exact Nat.le_of_ble_eq_true rfl | (simp; done) | omega) ?_) | (refine wl_storeA hS5 rfl rfl sz_35 rfl (by first | rfl | (simp [allOne, Value.oneCell']; done) | assumption | exact hone) (i := 2) rfl (by first | decide | exact Nat.le_of_ble_eq_true rfl | (simp; done) | omega) ?_)
 intro w6 hS7; dsimp only [List.set] at hS7
 clear hS5
 refine wl_assign rfl rfl (wl_nil (qs_seq ?_))
 refine wc_sub (L' := [(11, _), (10, _), (9, _), (8, _), (7, _), (6, _)]) (.cons rfl (.cons rfl (.cons rfl (.cons rfl (.cons rfl (.cons rfl .nil)))))) ?_
 refine wc_seq ?_
 have hS8 := hS7.drew
 refine wc_draw [0, 1, 2, 3, 4, 5, 6, 7, 8, 9] [8] mix (by kernel_rfl) ?_
 refine vc_p rfl rfl rfl (fun _ => (ev_move rfl)) ?_
 refine vc_q rfl rfl rfl (ev_loadA rfl ag_35 sz_35 (by first | exact hS8.blk 0 rfl | exact hS8.blk 2 rfl) (by first | decide | exact Nat.le_of_ble_eq_true rfl | (simp; done) | omega) rfl) ?_
 refine vc_p rfl rfl rfl (fun _ => (ev_move rfl)) ?_
 refine vc_p rfl rfl rfl (fun _ => (ev_move rfl)) ?_
 refine vc_split 26 rfl (fun h9 => ?_) (fun h9 => ?_)
 ·have hbx : bI W (W.cells (kE dir name)) = true := h9
  refine vc_p rfl rfl (guard_yes rfl rfl h9) (fun _ => (Ev.gd (ev_move rfl))) ?_
  refine vc_p rfl rfl (guard_yes rfl rfl h9) (fun _ => (Ev.gd (ev_neqS rfl rfl))) ?_
  refine vc_p rfl rfl rfl (fun _ => (ev_pickT rfl h9 rfl)) ?_
  refine vc_p rfl rfl rfl (fun _ => (ev_assign rfl)) ?_
  refine vc_s rfl rfl rfl rfl rfl rfl ?_
  first | (refine wl_storeA hS8 rfl rfl sz_35 rfl (by first | rfl | (simp [allOne, Value.oneCell']; done) | assumption | exact hone) (i := 0) rfl (by first | decide | exact Nat.le_of_ble_eq_true rfl | (simp; done) | omega) ?_) | (refine wl_storeA hS8 rfl rfl sz_35 rfl (by first | rfl | (simp [allOne, Value.oneCell']; done) | assumption | exact hone) (i := 2) rfl (by first | decide | exact Nat.le_of_ble_eq_true rfl | (simp; done) | omega) ?_)
  intro w10 hS11; dsimp only [List.set] at hS11
  clear hS8
  refine vc_e0 (.skip (by kernel_rfl) .nil) ?_
  refine vc_p rfl rfl rfl (fun _ => (ev_assign rfl)) ?_
  refine VC.nil (qs_seq ?_)
  refine wc_sub (L' := [(8, _), (6, _), (7, _)]) (.cons rfl (.cons rfl (.cons rfl .nil))) ?_
  refine wc_ret ?_
  refine finR3 (.inr rfl) rfl (resT rfl) (resCA rfl ag_35 sz_35 (by first | exact hS11.blk 0 rfl | exact hS11.blk 2 rfl) (by first | decide | exact Nat.le_of_ble_eq_true rfl | (simp; done) | omega) rfl) (resT rfl) ?_
  exact ⟨_, rfl, by first | rfl | (rw [hbx]; rfl), hS11.pick [1, 3] rfl⟩
 have hbx : bI W (W.cells (kE dir name)) = false := by simpa using h9
 refine vc_not rfl rfl (guard_no rfl rfl h9) ?_
 refine vc_not rfl rfl (guard_no rfl rfl h9) ?_
 refine vc_p rfl rfl rfl (fun _ => (ev_pickF rfl h9 rfl)) ?_
 refine vc_p rfl rfl rfl (fun _ => (ev_assign rfl)) ?_
 refine vc_s rfl rfl rfl rfl rfl rfl ?_
 first | (refine wl_storeA hS8 rfl rfl sz_35 rfl (by first | rfl | (simp [allOne, Value.oneCell']; done) | assumption | exact hone) (i := 0) rfl (by first | decide | exact Nat.le_of_ble_eq_true rfl | (simp; done) | omega) ?_) | (refine wl_storeA hS8 rfl rfl sz_35 rfl (by first | rfl | (simp [allOne, Value.oneCell']; done) | assumption | exact hone) (i := 2) rfl (by first | decide | exact Nat.le_of_ble_eq_true rfl | (simp; done) | omega) ?_)
 intro w12 hS13; dsimp only [List.set] at hS13
 clear hS8
 refine vc_e0 (.skip (by kernel_rfl) .nil) ?_
 refine vc_p rfl rfl rfl (fun _ => (ev_assign rfl)) ?_
 refine VC.nil (qs_seq ?_)
 refine wc_sub (L' := [(8, _), (6, _), (7, _)]) (.cons rfl (.cons rfl (.cons rfl .nil))) ?_
 refine wc_ret ?_
 refine finR3 (.inr rfl) rfl (resT rfl) (resCA rfl ag_35 sz_35 (by first | exact hS13.blk 0 rfl | exact hS13.blk 2 rfl) (by first | decide | exact Nat.le_of_ble_eq_true rfl | (simp; done) | omega) rfl) (resT rfl) ?_
 exact ⟨_, rfl, by first | rfl | (rw [hbx]; rfl), hS13.pick [1, 3] rfl⟩
end Go.Proofs.YtkaikhcpcbjkcaaGreatDoor
