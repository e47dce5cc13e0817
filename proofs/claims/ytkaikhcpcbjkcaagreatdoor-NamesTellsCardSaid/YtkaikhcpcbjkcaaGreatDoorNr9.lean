/- the reference of names: Parent; tell, pairs -/
import Derived.Test.YtkaikhcpcbjkcaaGreatDoorNr8
import Derived.Test.YtkaikhcpcbjkcaaGreatDoorNm1
namespace Go.Proofs.YtkaikhcpcbjkcaaGreatDoor
open Go.RowKit M
set_option linter.unusedVariables false
theorem par_nil {W : WS} {cwd path : Bs} (hb : begE path = 0) (h : partsL path = []) : parV W cwd path = ([], [], 16) := by
  unfold parV
  have e : lastP path = [] := by unfold lastP; rw [h]; rfl
  rw [if_neg (by simp [hb]), e, if_pos (by decide)]
theorem par_cut {W : WS} {cwd path : Bs} {ps : List Bs} {x : Bs} (hb : begE path = 0) (h : partsL path = ps ++ [x]) : parV W cwd path = if nameB x = false then ([], [], 16) else if (walkV W (begS cwd path) ps).2 ≠ 0 then ([], [], (walkV W (begS cwd path) ps).2) else if dirE W (walkV W (begS cwd path) ps).1 ≠ 0 then ([], [], dirE W (walkV W (begS cwd path) ps).1) else ((walkV W (begS cwd path) ps).1, x, 0) := by
  unfold parV
  have e : lastP path = x := by unfold lastP; rw [h]; simp
  have hne : ∀ y ∈ ps, y ≠ [] := fun y hy => partsL_ne (p := path) (by rw [h]; exact List.mem_append_left _ hy)
  have hw := walkP_init (W := W) ps (begS cwd path) x hne
  rw [if_neg (by simp [hb]), e, h, hw]
  by_cases hn : nameB x = false
  · rw [if_pos hn, if_pos hn]
  · rw [if_neg hn, if_neg hn]
    by_cases he : (walkV W (begS cwd path) ps).2 ≠ 0
    · rw [if_pos he, if_pos he]; simp only [if_pos he]
    · rw [if_neg he, if_neg he]; simp
theorem lastcut {l : List Bs} (h : l.length ≠ 0) : ∃ ps x, l = ps ++ [x] := ⟨l.dropLast, l.getLast (fun q => h (by rw [q]; rfl)), (List.dropLast_concat_getLast _).symm⟩
def pcC : RowC (Bs × Bs) := ⟨fun x => [strV x.1, strV x.2], 2, by decide, fun _ => rfl, fun _ => rfl⟩
def fewP (l : List (Bs × Bs)) : Bool := l.all (fun x => decide (x.1.length ≤ 60) && decide (x.2.length ≤ 60)) && decide (l.length ≤ 20)
theorem fewP_bad {l : List (Bs × Bs)} {i : Nat} {x : Bs × Bs} (ha : l[i]? = some x) (h : 60 < x.1.length ∨ 60 < x.2.length) : Value.bool false = .bool (fewP l) := by
  have : l.all (fun x => decide (x.1.length ≤ 60) && decide (x.2.length ≤ 60)) = false := by
    rw [List.all_eq_false]; refine ⟨x, List.mem_of_getElem? ha, ?_⟩; simp; omega
  simp [fewP, this]
theorem fewP_end {l : List (Bs × Bs)} {i : Nat} (hok : ∀ j a, j < i → l[j]? = some a → a.1.length ≤ 60 ∧ a.2.length ≤ 60) (hi : i ≤ l.length) (he : ¬ i < l.length) : Value.bool (decide ((l.length : Int) ≤ 20)) = .bool (fewP l) := by
  have : l.all (fun x => decide (x.1.length ≤ 60) && decide (x.2.length ≤ 60)) = true := by
    rw [List.all_eq_true]; intro a ha
    obtain ⟨j, hj⟩ := List.mem_iff_getElem?.1 ha
    have := hok j a (by have := (List.getElem?_eq_some_iff.1 hj).1; omega) hj
    simp [this]
  unfold fewP
  rw [this, Bool.true_and]
  congr 1
  exact decide_eq_decide.2 (by omega)
theorem fewP_is {l : List (Bs × Bs)} (h : fewP l = true) : l.length ≤ 20 ∧ ∀ (i : Nat) (x : Bs × Bs), l[i]? = some x → x.1.length ≤ 60 ∧ x.2.length ≤ 60 := by
  simp only [fewP, Bool.and_eq_true, decide_eq_true_eq, List.all_eq_true] at h
  exact ⟨h.2, fun i x hx => h.1 x (List.mem_of_getElem? hx)⟩
set_option maxRecDepth 100000 in
set_option maxHeartbeats 1600000 in
theorem rparent_sp {w : World} {F : Th} {p n : Nat} {W : WS} (hS : Sat w [refP p W n, F]) (hn : n ≤ 900) {m : Nat} (hP : PI W m) (cwd path : Bs) (hcl : cwd.length ≤ 900) (hpl : path.length ≤ 3000000) :
    Calls Tryz.prog 27 #[ptrV p 0, strV cwd, strV path] w (Ret fun v w' => v = .tuple #[strV (parV W cwd path).1, strV (parV W cwd path).2.1, intV (parV W cwd path).2.2] ∧ Sat w' [refP p W n, F]) := by
 refine calls_enter Tryz.func27 rfl Tryz.ntmps27 rfl ?_
 refine wc_seq (wc_region (wl_assign rfl rfl (wl_assign rfl rfl (wl_assign rfl rfl (wl_nil (qs_seq (wc_seq (wc_seq (wc_region (wl_move rfl rfl ?_))))))))))
 refine wl_lenS Tryz.underlying9 rfl rfl ?_
 refine wl_gtr rfl rfl rfl ?_
 refine wl_nil (qs_seq ?_)
 refine wc_condD rfl (fun h1 => ?_) (fun h1 => ?_)
 ·refine wc_seq (wc_region (wl_assign rfl rfl (wl_assign rfl rfl (wl_assign rfl rfl (wl_nil (qs_seq (wc_ret (qs_then_ret ?_))))))))
  refine fin3 (.inr rfl) rfl rfl rfl rfl ?_
  have hb : begE path = 16 := by unfold begE; rw [if_pos (by omega)]
  exact ⟨_, rfl, by unfold parV; rw [if_pos (by rw [hb]; decide), hb], hS.pick [0, 1] rfl⟩
 refine wc_skip (qs_seq (wc_seq (wc_seq (wc_region (wl_move rfl rfl ?_)))))
 refine wl_eqlS rfl rfl rfl ?_
 refine wl_nil (qs_seq ?_)
 refine wc_sub (L' := [(17, _), (8, _), (7, _), (6, _), (0, _), (1, _), (2, _)]) (.cons rfl (.cons rfl (.cons rfl (.cons rfl (.cons rfl (.cons rfl (.cons rfl .nil))))))) ?_
 refine wc_condD rfl (fun h2 => ?_) (fun h2 => ?_)
 ·have hpe : path = [] := h2
  refine wc_seq (wc_region (wl_assign rfl rfl (wl_assign rfl rfl (wl_assign rfl rfl (wl_nil (qs_seq (wc_ret (qs_then_ret ?_))))))))
  refine fin3 (.inr rfl) rfl rfl rfl rfl ?_
  subst hpe
  exact ⟨_, rfl, rfl, hS.pick [0, 1] rfl⟩
 obtain ⟨c0, pt, rfl⟩ : ∃ c t, path = c :: t := by cases path with | nil => exact absurd rfl h2 | cons c t => exact ⟨c, t, rfl⟩
 have hpf := partsL_few (c0 :: pt)
 refine wc_skip (qs_seq (wc_seq (wc_seq (wc_region (wl_move rfl rfl ?_)))))
 refine wl_indexS 0 Tryz.underlying9 rfl rfl (by first | rfl | omega) (show (c0 :: pt : Bs)[0]? = some c0 from rfl) rfl ?_
 refine wl_eql rfl rfl rfl ?_
 refine wl_nil (qs_seq ?_)
 refine wc_condD rfl (fun h3 => ?_) (fun h3 => ?_)
 ·have hc47 : c0 = 47 := u8_47.1 h3
  refine wc_region (wl_assign rfl rfl (wl_nil (qs_seq (wc_seq (wc_region (wl_move rfl rfl ?_))))))
  have hC4 := hS.split [] [false, false] rfl; dsimp only [selF, pickA, nthA, List.cons_append, List.nil_append] at hC4
  refine wl_call cal_68 rfl (rparts_sp hC4 (c0 :: pt) (by omega)) rfl ?_
  rintro e w4 ⟨_, rfl, hS4⟩; refine ⟨_, rfl, ?_⟩
  replace hS4 := hS4.join rfl; dsimp only [List.dropLast, List.cons_append, List.nil_append] at hS4; clear hC4
  have h1pv := hS4.own_one 0 rfl
  obtain ⟨la, lc, hlv, hlc, hlm⟩ := hS4.own_shape 0 rfl
  obtain rfl := hlv
  refine wl_assign rfl rfl (wl_nil (qs_seq ?_))
  refine wc_sub (L' := [(9, _), (1, _), (8, _), (7, _), (6, _), (0, _)]) (.cons rfl (.cons rfl (.cons rfl (.cons rfl (.cons rfl (.cons rfl .nil)))))) ?_
  refine wc_seq (wc_seq (wc_region (wl_move rfl rfl ?_)))
  first | refine wl_lenL Tryz.underlying40 rfl rfl ?_ | refine wl_lenO 0 hS4 Tryz.underlying40 rfl rfl rfl ?_
  refine wl_eql rfl rfl rfl ?_
  refine wl_nil (qs_seq ?_)
  refine wc_condD rfl (fun h5 => ?_) (fun h5 => ?_)
  ·refine wc_seq (wc_region (wl_assign rfl rfl (wl_assign rfl rfl (wl_assign rfl rfl (wl_nil (qs_seq (wc_ret (qs_then_ret ?_))))))))
   refine fin3 (.inr rfl) rfl rfl rfl rfl ?_
   have hb : begE (c0 :: pt) = 0 := begE_ok (by simp) (by omega)
   exact ⟨_, rfl, by rw [par_nil hb (List.length_eq_zero_iff.1 (by omega))], hS4.pick [1, 2] rfl⟩
  obtain ⟨ps, x, hps⟩ := lastcut (l := partsL (c0 :: pt)) (by omega)
  have hpl9 : (partsL (c0 :: pt)).length = ps.length + 1 := by rw [hps]; simp
  have hxi : (partsL (c0 :: pt))[ps.length]? = some x := by rw [hps]; simp
  have hxl := partsL_le (List.mem_of_getElem? hxi)
  refine wc_skip (qs_seq (wc_seq (wc_region (wl_move rfl rfl (wl_move rfl rfl ?_)))))
  first | refine wl_lenL Tryz.underlying40 rfl rfl ?_ | refine wl_lenO 0 hS4 Tryz.underlying40 rfl rfl rfl ?_
  refine wl_sub' rfl rfl (by first | omega | (simp; omega)) (by first | omega | (simp; omega)) rfl ?_
  refine wl_rowIdx stC 0 ps.length hS4 rfl rfl rfl (by first | rfl | omega) hxi es_40 rfl ?_
  intro bx6 capx6 hvx6
  refine wl_rowLoad 0 ps.length 0 hS4 rfl hvx6 rfl rfl hxi ag_9 rfl rfl ?_
  refine wl_assign rfl rfl (wl_nil (qs_seq ?_))
  refine wc_sub (L' := [(10, _), (9, _), (1, _), (8, _), (7, _), (6, _), (0, _)]) (.cons rfl (.cons rfl (.cons rfl (.cons rfl (.cons rfl (.cons rfl (.cons rfl .nil))))))) ?_
  refine wc_seq (wc_seq (wc_region (wl_move rfl rfl ?_)))
  have hC7 := hS4.split [] [false, false, false] rfl; dsimp only [selF, pickA, nthA, List.cons_append, List.nil_append] at hC7
  refine wl_call cal_38 rfl (rname_sp hC7 x (by omega)) rfl ?_
  rintro e w7 ⟨_, rfl, rfl, hS7⟩; refine ⟨_, rfl, ?_⟩
  replace hS7 := hS7.join rfl; dsimp only [List.dropLast, List.cons_append, List.nil_append] at hS7; clear hC7
  clear hS4
  refine wl_not rfl rfl ?_
  refine wl_nil (qs_seq ?_)
  refine wc_cond rfl (fun h8 => ?_) (fun h8 => ?_)
  ·have hnx : nameB x = false := by simpa using h8
   refine wc_seq (wc_region (wl_assign rfl rfl (wl_assign rfl rfl (wl_assign rfl rfl (wl_nil (qs_seq (wc_ret (qs_then_ret ?_))))))))
   refine fin3 (.inr rfl) rfl rfl rfl rfl ?_
   have hb : begE (c0 :: pt) = 0 := begE_ok (by simp) (by omega)
   have hbs : begS cwd (c0 :: pt) = [114] := by rw [begS_root rfl (by omega), if_pos hc47]
   have hpc := par_cut (W := W) (cwd := cwd) hb hps
   rw [hbs] at hpc
   rw [if_pos hnx] at hpc
   exact ⟨_, rfl, by rw [hpc], hS7.pick [1, 2] rfl⟩
  have hnx : ¬ nameB x = false := by simpa using h8
  refine wc_skip (qs_seq (wc_seq (wc_region (wl_move rfl rfl (wl_move rfl rfl (wl_move rfl rfl (wl_move rfl rfl ?_)))))))
  first | refine wl_lenL Tryz.underlying40 rfl rfl ?_ | refine wl_lenO 0 hS7 Tryz.underlying40 rfl rfl rfl ?_
  refine wl_sub' rfl rfl (by first | omega | (simp; omega)) (by first | omega | (simp; omega)) rfl ?_
  refine wl_view 0 ps.length Tryz.underlying40 sz_9 rfl (bndN _) (bndS ps.length _ rfl (by omega)) (by omega) (by omega) rfl ?_
  have hvw : Ent (rowT stC (.slice la (partsL (c0 :: pt)).length lc) (partsL (c0 :: pt))) (RdL stC (viewV 1 (.slice la (partsL (c0 :: pt)).length lc) 0 ps.length) ps) := fun hq9 => by have q := ent_view (C := stC) (A := 0) (B := ps.length) (by omega) (by omega) (by omega) hlc hq9; rwa [show ((partsL (c0 :: pt)).take ps.length).drop 0 = ps by rw [hps]; simp] at q
  have hC9 := hS7.split [1] [false, true, false] rfl; dsimp only [selF, pickA, nthA, List.cons_append, List.nil_append] at hC9
  refine wl_call cal_67 rfl (ralong_sp hC9 hn hP [114] (by simp) (Ent.starL hvw 0 rfl) (fun y hy => by have := partsL_le (path := c0 :: pt) (x := y) (by rw [hps]; exact List.mem_append_left _ hy); omega)) rfl ?_
  rintro e w9 ⟨_, rfl, rfl, hS9⟩; refine ⟨_, rfl, ?_⟩
  replace hS9 := hS9.join rfl; dsimp only [List.dropLast, List.cons_append, List.nil_append] at hS9; clear hC9
  clear hS7
  have hwl : (walkV W [114] ps).1.length ≤ 900 := walkV_len hP (by simp)
  refine wl_move rfl rfl (wl_extract rfl rfl rfl (wl_extract rfl rfl rfl (wl_assign rfl rfl (wl_assign rfl rfl (wl_nil (qs_seq ?_))))))
  refine wc_sub (L' := [(12, _), (11, _), (10, _), (8, _), (7, _), (6, _), (0, _)]) (.cons rfl (.cons rfl (.cons rfl (.cons rfl (.cons rfl (.cons rfl (.cons rfl .nil))))))) ?_
  refine wc_seq (wc_seq (wc_region (wl_move rfl rfl ?_)))
  refine wl_eql rfl rfl rfl ?_
  refine wl_nil (qs_seq ?_)
  refine wc_condD rfl (fun h10 => ?_) (fun h10 => ?_)
  ·have hw0 : (walkV W [114] ps).2 = 0 := h10
   refine wc_region (wl_move rfl rfl (wl_move rfl rfl ?_))
   have hC11 := hS9.split [0] [true, false, false] rfl; dsimp only [selF, pickA, nthA, List.cons_append, List.nil_append] at hC11
   refine wl_call cal_69 rfl (rdir_sp hC11 (by omega) hP.tb (walkV W [114] ps).1 (by omega)) rfl ?_
   rintro e w11 ⟨_, rfl, rfl, hS11⟩; refine ⟨_, rfl, ?_⟩
   replace hS11 := hS11.join rfl; dsimp only [List.dropLast, List.cons_append, List.nil_append] at hS11; clear hC11
   clear hS9
   refine wl_assign rfl rfl (wl_nil (qs_seq ?_))
   refine wc_sub (L' := [(12, _), (11, _), (10, _), (8, _), (7, _), (6, _)]) (.cons rfl (.cons rfl (.cons rfl (.cons rfl (.cons rfl (.cons rfl .nil)))))) ?_
   refine wc_seq (wc_seq (wc_region (wl_move rfl rfl ?_)))
   refine wl_neq rfl rfl rfl ?_
   refine wl_nil (qs_seq ?_)
   refine wc_condD rfl (fun h12 => ?_) (fun h12 => ?_)
   ·refine wc_seq (wc_region (wl_move rfl rfl (wl_assign rfl rfl (wl_assign rfl rfl (wl_assign rfl rfl (wl_nil (qs_seq (wc_ret (qs_then_ret ?_)))))))))
    refine fin3 (.inr rfl) rfl rfl rfl rfl ?_
    have hb : begE (c0 :: pt) = 0 := begE_ok (by simp) (by omega)
    have hbs : begS cwd (c0 :: pt) = [114] := by rw [begS_root rfl (by omega), if_pos hc47]
    have hpc := par_cut (W := W) (cwd := cwd) hb hps
    rw [hbs] at hpc
    rw [if_neg hnx, if_neg (by simp [hw0]), if_pos (by assumption)] at hpc
    exact ⟨_, rfl, by rw [hpc], hS11.pick [0, 2] rfl⟩
   refine wc_skip (qs_seq (wc_seq (wc_region (wl_move rfl rfl (wl_move rfl rfl (wl_assign rfl rfl (wl_assign rfl rfl (wl_assign rfl rfl (wl_nil (qs_seq (wc_ret ?_)))))))))))
   refine fin3 (.inr rfl) rfl rfl rfl rfl ?_
   have hb : begE (c0 :: pt) = 0 := begE_ok (by simp) (by omega)
   have hbs : begS cwd (c0 :: pt) = [114] := by rw [begS_root rfl (by omega), if_pos hc47]
   have hpc := par_cut (W := W) (cwd := cwd) hb hps
   rw [hbs] at hpc
   rw [if_neg hnx, if_neg (by simp [hw0]), if_neg (by assumption)] at hpc
   exact ⟨_, rfl, by rw [hpc], hS11.pick [0, 2] rfl⟩
  refine wc_skip (qs_seq (wc_seq (wc_seq (wc_region (wl_move rfl rfl ?_)))))
  refine wl_neq rfl rfl rfl ?_
  refine wl_nil (qs_seq ?_)
  refine wc_sub (L' := [(52, _), (12, _), (11, _), (10, _), (8, _), (7, _), (6, _)]) (.cons rfl (.cons rfl (.cons rfl (.cons rfl (.cons rfl (.cons rfl (.cons rfl .nil))))))) ?_
  refine wc_condD rfl (fun h13 => ?_) (fun h13 => ?_)
  ·refine wc_seq (wc_region (wl_move rfl rfl (wl_assign rfl rfl (wl_assign rfl rfl (wl_assign rfl rfl (wl_nil (qs_seq (wc_ret (qs_then_ret ?_)))))))))
   refine fin3 (.inr rfl) rfl rfl rfl rfl ?_
   have hb : begE (c0 :: pt) = 0 := begE_ok (by simp) (by omega)
   have hbs : begS cwd (c0 :: pt) = [114] := by rw [begS_root rfl (by omega), if_pos hc47]
   have hpc := par_cut (W := W) (cwd := cwd) hb hps
   rw [hbs] at hpc
   rw [if_neg hnx, if_pos (by assumption)] at hpc
   exact ⟨_, rfl, by rw [hpc], hS9.pick [0, 2] rfl⟩
  exact absurd (Decidable.not_not.1 h13) (by assumption)
 have hc47 : ¬ c0 = 47 := fun q => h3 (u8_47.2 q)
 refine wc_skip (qs_seq (wc_seq (wc_region (wl_move rfl rfl ?_))))
 have hC14 := hS.split [] [false, false] rfl; dsimp only [selF, pickA, nthA, List.cons_append, List.nil_append] at hC14
 refine wl_call cal_68 rfl (rparts_sp hC14 (c0 :: pt) (by omega)) rfl ?_
 rintro e w14 ⟨_, rfl, hS14⟩; refine ⟨_, rfl, ?_⟩
 replace hS14 := hS14.join rfl; dsimp only [List.dropLast, List.cons_append, List.nil_append] at hS14; clear hC14
 have h1pv := hS14.own_one 0 rfl
 obtain ⟨la, lc, hlv, hlc, hlm⟩ := hS14.own_shape 0 rfl
 obtain rfl := hlv
 refine wl_assign rfl rfl (wl_nil (qs_seq ?_))
 refine wc_sub (L' := [(9, _), (8, _), (7, _), (6, _), (0, _), (1, _)]) (.cons rfl (.cons rfl (.cons rfl (.cons rfl (.cons rfl (.cons rfl .nil)))))) ?_
 refine wc_seq (wc_seq (wc_region (wl_move rfl rfl ?_)))
 first | refine wl_lenL Tryz.underlying40 rfl rfl ?_ | refine wl_lenO 0 hS14 Tryz.underlying40 rfl rfl rfl ?_
 refine wl_eql rfl rfl rfl ?_
 refine wl_nil (qs_seq ?_)
 refine wc_condD rfl (fun h15 => ?_) (fun h15 => ?_)
 ·refine wc_seq (wc_region (wl_assign rfl rfl (wl_assign rfl rfl (wl_assign rfl rfl (wl_nil (qs_seq (wc_ret (qs_then_ret ?_))))))))
  refine fin3 (.inr rfl) rfl rfl rfl rfl ?_
  have hb : begE (c0 :: pt) = 0 := begE_ok (by simp) (by omega)
  exact ⟨_, rfl, by rw [par_nil hb (List.length_eq_zero_iff.1 (by omega))], hS14.pick [1, 2] rfl⟩
 obtain ⟨ps, x, hps⟩ := lastcut (l := partsL (c0 :: pt)) (by omega)
 have hpl9 : (partsL (c0 :: pt)).length = ps.length + 1 := by rw [hps]; simp
 have hxi : (partsL (c0 :: pt))[ps.length]? = some x := by rw [hps]; simp
 have hxl := partsL_le (List.mem_of_getElem? hxi)
 refine wc_skip (qs_seq (wc_seq (wc_region (wl_move rfl rfl (wl_move rfl rfl ?_)))))
 first | refine wl_lenL Tryz.underlying40 rfl rfl ?_ | refine wl_lenO 0 hS14 Tryz.underlying40 rfl rfl rfl ?_
 refine wl_sub' rfl rfl (by first | omega | (simp; omega)) (by first | omega | (simp; omega)) rfl ?_
 refine wl_rowIdx stC 0 ps.length hS14 rfl rfl rfl (by first | rfl | omega) hxi es_40 rfl ?_
 intro bx16 capx16 hvx16
 refine wl_rowLoad 0 ps.length 0 hS14 rfl hvx16 rfl rfl hxi ag_9 rfl rfl ?_
 refine wl_assign rfl rfl (wl_nil (qs_seq ?_))
 refine wc_sub (L' := [(10, _), (9, _), (8, _), (7, _), (6, _), (0, _), (1, _)]) (.cons rfl (.cons rfl (.cons rfl (.cons rfl (.cons rfl (.cons rfl (.cons rfl .nil))))))) ?_
 refine wc_seq (wc_seq (wc_region (wl_move rfl rfl ?_)))
 have hC17 := hS14.split [] [false, false, false] rfl; dsimp only [selF, pickA, nthA, List.cons_append, List.nil_append] at hC17
 refine wl_call cal_38 rfl (rname_sp hC17 x (by omega)) rfl ?_
 rintro e w17 ⟨_, rfl, rfl, hS17⟩; refine ⟨_, rfl, ?_⟩
 replace hS17 := hS17.join rfl; dsimp only [List.dropLast, List.cons_append, List.nil_append] at hS17; clear hC17
 clear hS14
 refine wl_not rfl rfl ?_
 refine wl_nil (qs_seq ?_)
 refine wc_cond rfl (fun h18 => ?_) (fun h18 => ?_)
 ·have hnx : nameB x = false := by simpa using h18
  refine wc_seq (wc_region (wl_assign rfl rfl (wl_assign rfl rfl (wl_assign rfl rfl (wl_nil (qs_seq (wc_ret (qs_then_ret ?_))))))))
  refine fin3 (.inr rfl) rfl rfl rfl rfl ?_
  have hb : begE (c0 :: pt) = 0 := begE_ok (by simp) (by omega)
  have hbs : begS cwd (c0 :: pt) = cwd := by rw [begS_root rfl (by omega), if_neg hc47]
  have hpc := par_cut (W := W) (cwd := cwd) hb hps
  rw [hbs] at hpc
  rw [if_pos hnx] at hpc
  exact ⟨_, rfl, by rw [hpc], hS17.pick [1, 2] rfl⟩
 have hnx : ¬ nameB x = false := by simpa using h18
 refine wc_skip (qs_seq (wc_seq (wc_region (wl_move rfl rfl (wl_move rfl rfl (wl_move rfl rfl (wl_move rfl rfl ?_)))))))
 first | refine wl_lenL Tryz.underlying40 rfl rfl ?_ | refine wl_lenO 0 hS17 Tryz.underlying40 rfl rfl rfl ?_
 refine wl_sub' rfl rfl (by first | omega | (simp; omega)) (by first | omega | (simp; omega)) rfl ?_
 refine wl_view 0 ps.length Tryz.underlying40 sz_9 rfl (bndN _) (bndS ps.length _ rfl (by omega)) (by omega) (by omega) rfl ?_
 have hvw : Ent (rowT stC (.slice la (partsL (c0 :: pt)).length lc) (partsL (c0 :: pt))) (RdL stC (viewV 1 (.slice la (partsL (c0 :: pt)).length lc) 0 ps.length) ps) := fun hq9 => by have q := ent_view (C := stC) (A := 0) (B := ps.length) (by omega) (by omega) (by omega) hlc hq9; rwa [show ((partsL (c0 :: pt)).take ps.length).drop 0 = ps by rw [hps]; simp] at q
 have hC19 := hS17.split [1] [false, true, false] rfl; dsimp only [selF, pickA, nthA, List.cons_append, List.nil_append] at hC19
 refine wl_call cal_67 rfl (ralong_sp hC19 hn hP cwd hcl (Ent.starL hvw 0 rfl) (fun y hy => by have := partsL_le (path := c0 :: pt) (x := y) (by rw [hps]; exact List.mem_append_left _ hy); omega)) rfl ?_
 rintro e w19 ⟨_, rfl, rfl, hS19⟩; refine ⟨_, rfl, ?_⟩
 replace hS19 := hS19.join rfl; dsimp only [List.dropLast, List.cons_append, List.nil_append] at hS19; clear hC19
 clear hS17
 have hwl : (walkV W cwd ps).1.length ≤ 900 := walkV_len hP hcl
 refine wl_move rfl rfl (wl_extract rfl rfl rfl (wl_extract rfl rfl rfl (wl_assign rfl rfl (wl_assign rfl rfl (wl_nil (qs_seq ?_))))))
 refine wc_sub (L' := [(12, _), (11, _), (10, _), (8, _), (7, _), (6, _), (0, _)]) (.cons rfl (.cons rfl (.cons rfl (.cons rfl (.cons rfl (.cons rfl (.cons rfl .nil))))))) ?_
 refine wc_seq (wc_seq (wc_region (wl_move rfl rfl ?_)))
 refine wl_eql rfl rfl rfl ?_
 refine wl_nil (qs_seq ?_)
 refine wc_condD rfl (fun h20 => ?_) (fun h20 => ?_)
 ·have hw0 : (walkV W cwd ps).2 = 0 := h20
  refine wc_region (wl_move rfl rfl (wl_move rfl rfl ?_))
  have hC21 := hS19.split [0] [true, false, false] rfl; dsimp only [selF, pickA, nthA, List.cons_append, List.nil_append] at hC21
  refine wl_call cal_69 rfl (rdir_sp hC21 (by omega) hP.tb (walkV W cwd ps).1 (by omega)) rfl ?_
  rintro e w21 ⟨_, rfl, rfl, hS21⟩; refine ⟨_, rfl, ?_⟩
  replace hS21 := hS21.join rfl; dsimp only [List.dropLast, List.cons_append, List.nil_append] at hS21; clear hC21
  clear hS19
  refine wl_assign rfl rfl (wl_nil (qs_seq ?_))
  refine wc_sub (L' := [(12, _), (11, _), (10, _), (8, _), (7, _), (6, _)]) (.cons rfl (.cons rfl (.cons rfl (.cons rfl (.cons rfl (.cons rfl .nil)))))) ?_
  refine wc_seq (wc_seq (wc_region (wl_move rfl rfl ?_)))
  refine wl_neq rfl rfl rfl ?_
  refine wl_nil (qs_seq ?_)
  refine wc_condD rfl (fun h22 => ?_) (fun h22 => ?_)
  ·refine wc_seq (wc_region (wl_move rfl rfl (wl_assign rfl rfl (wl_assign rfl rfl (wl_assign rfl rfl (wl_nil (qs_seq (wc_ret (qs_then_ret ?_)))))))))
   refine fin3 (.inr rfl) rfl rfl rfl rfl ?_
   have hb : begE (c0 :: pt) = 0 := begE_ok (by simp) (by omega)
   have hbs : begS cwd (c0 :: pt) = cwd := by rw [begS_root rfl (by omega), if_neg hc47]
   have hpc := par_cut (W := W) (cwd := cwd) hb hps
   rw [hbs] at hpc
   rw [if_neg hnx, if_neg (by simp [hw0]), if_pos (by assumption)] at hpc
   exact ⟨_, rfl, by rw [hpc], hS21.pick [0, 2] rfl⟩
  refine wc_skip (qs_seq (wc_seq (wc_region (wl_move rfl rfl (wl_move rfl rfl (wl_assign rfl rfl (wl_assign rfl rfl (wl_assign rfl rfl (wl_nil (qs_seq (wc_ret ?_)))))))))))
  refine fin3 (.inr rfl) rfl rfl rfl rfl ?_
  have hb : begE (c0 :: pt) = 0 := begE_ok (by simp) (by omega)
  have hbs : begS cwd (c0 :: pt) = cwd := by rw [begS_root rfl (by omega), if_neg hc47]
  have hpc := par_cut (W := W) (cwd := cwd) hb hps
  rw [hbs] at hpc
  rw [if_neg hnx, if_neg (by simp [hw0]), if_neg (by assumption)] at hpc
  exact ⟨_, rfl, by rw [hpc], hS21.pick [0, 2] rfl⟩
 refine wc_skip (qs_seq (wc_seq (wc_seq (wc_region (wl_move rfl rfl ?_)))))
 refine wl_neq rfl rfl rfl ?_
 refine wl_nil (qs_seq ?_)
 refine wc_sub (L' := [(52, _), (12, _), (11, _), (10, _), (8, _), (7, _), (6, _)]) (.cons rfl (.cons rfl (.cons rfl (.cons rfl (.cons rfl (.cons rfl (.cons rfl .nil))))))) ?_
 refine wc_condD rfl (fun h23 => ?_) (fun h23 => ?_)
 ·refine wc_seq (wc_region (wl_move rfl rfl (wl_assign rfl rfl (wl_assign rfl rfl (wl_assign rfl rfl (wl_nil (qs_seq (wc_ret (qs_then_ret ?_)))))))))
  refine fin3 (.inr rfl) rfl rfl rfl rfl ?_
  have hb : begE (c0 :: pt) = 0 := begE_ok (by simp) (by omega)
  have hbs : begS cwd (c0 :: pt) = cwd := by rw [begS_root rfl (by omega), if_neg hc47]
  have hpc := par_cut (W := W) (cwd := cwd) hb hps
  rw [hbs] at hpc
  rw [if_neg hnx, if_pos (by assumption)] at hpc
  exact ⟨_, rfl, by rw [hpc], hS19.pick [0, 2] rfl⟩
 exact absurd (Decidable.not_not.1 h23) (by assumption)
set_option maxRecDepth 100000 in
set_option maxHeartbeats 1600000 in
theorem tell_sp {w : World} {F : Th} {p n : Nat} {W : WS} (hS : Sat w [refP p W n, F]) (hn : n ≤ 900) (hB : TB W) {x : AcD} (hx : OkA x) (hnb : InB x.n) :
    Calls Tryz.prog 25 #[ptrV p 0, .agg #[intV x.d, strV x.dir, strV x.name, strV x.id, strV x.td, strV x.to, intV x.n.k, intV x.n.sz, intV x.n.ln]] w (Ret fun v w' => v = .tuple #[strV (doV W x).1, intV (doV W x).2] ∧ Sat w' [refP p (doW W x) (n + 4), F]) := by
 refine calls_enter Tryz.func25 rfl Tryz.ntmps25 rfl ?_
 refine wc_seq (wc_region ?_)
 refine wl_box hS rfl rfl rfl ?_
 intro b1 w1 hS1
 refine wl_assign rfl rfl (wl_assign rfl rfl (wl_nil (qs_seq (wc_seq (wc_seq (wc_region ?_))))))
 refine wl_fieldAddr rfl fo_37_0 rfl ?_
 refine wl_load rfl ag_3 (by first | assumption | exact hS1.cell 0 rfl rfl) rfl ?_
 refine wl_mask 3 rfl rfl rfl rfl (q := 8) rfl rfl ?_
 refine wl_nil (qs_seq (wc_block (wc_seq (wc_region ?_))))
 refine wl_eql rfl rfl rfl ?_
 refine wl_assign rfl rfl (wl_nil (qs_seq ?_))
 refine wc_condD rfl (fun h2 => ?_) (fun h2 => ?_)
 ·refine wc_seq (wc_region (wl_move rfl rfl ?_))
  refine wl_fieldAddr rfl fo_37_1 rfl ?_
  refine wl_load rfl ag_9 (by first | assumption | exact hS1.cell 0 rfl rfl) rfl ?_
  refine wl_fieldAddr rfl fo_37_2 rfl ?_
  refine wl_load rfl ag_9 (by first | assumption | exact hS1.cell 0 rfl rfl) rfl ?_
  refine wl_fieldAddr rfl fo_37_3 rfl ?_
  refine wl_load rfl ag_9 (by first | assumption | exact hS1.cell 0 rfl rfl) rfl ?_
  have hC3 := hS1.split [1] [false, true, false] rfl; dsimp only [selF, pickA, nthA, List.cons_append, List.nil_append] at hC3
  refine wl_call cal_61 rfl (rlink_sp hC3 hn hB x.dir x.name x.id (by have := hx.dir; omega) (by have := hx.name; omega) (by have := hx.id; omega)) rfl ?_
  rintro e w3 ⟨_, rfl, rfl, hS3⟩; refine ⟨_, rfl, ?_⟩
  replace hS3 := hS3.join rfl; dsimp only [List.dropLast, List.cons_append, List.nil_append] at hS3; clear hC3
  clear hS1
  refine wl_assign rfl rfl (wl_assign rfl rfl (wl_nil (qs_seq ?_)))
  refine wc_sub (L' := [(5, _), (4, _)]) (.cons rfl (.cons rfl .nil)) ?_
  refine wc_ret (qs_block_ret (qs_then_ret ?_))
  refine fin2 (.inr rfl) rfl rfl rfl ?_
  exact ⟨_, rfl, by unfold doV; rw [if_pos (by assumption)], by unfold doW; rw [if_pos (by assumption)]; exact refP_up (by omega) (hS3.pick [0, 2] rfl)⟩
 refine wc_seq (wc_region ?_)
 refine wl_eql rfl rfl rfl ?_
 refine wl_assign rfl rfl (wl_nil (qs_seq ?_))
 refine wc_sub (L' := [(23, _), (8, _), (5, _), (4, _), (3, _), (0, _)]) (.cons rfl (.cons rfl (.cons rfl (.cons rfl (.cons rfl (.cons rfl .nil)))))) ?_
 refine wc_condD rfl (fun h4 => ?_) (fun h4 => ?_)
 ·refine wc_seq (wc_region (wl_move rfl rfl ?_))
  refine wl_fieldAddr rfl fo_37_1 rfl ?_
  refine wl_load rfl ag_9 (by first | assumption | exact hS1.cell 0 rfl rfl) rfl ?_
  refine wl_fieldAddr rfl fo_37_2 rfl ?_
  refine wl_load rfl ag_9 (by first | assumption | exact hS1.cell 0 rfl rfl) rfl ?_
  have hC5 := hS1.split [1] [false, true, false] rfl; dsimp only [selF, pickA, nthA, List.cons_append, List.nil_append] at hC5
  refine wl_call cal_62 rfl (runl_sp hC5 hn hB x.dir x.name (by have := hx.dir; omega) (by have := hx.name; omega)) rfl ?_
  rintro e w5 ⟨_, rfl, rfl, hS5⟩; refine ⟨_, rfl, ?_⟩
  replace hS5 := hS5.join rfl; dsimp only [List.dropLast, List.cons_append, List.nil_append] at hS5; clear hC5
  clear hS1
  refine wl_extract rfl rfl rfl (wl_extract rfl rfl rfl (wl_assign rfl rfl (wl_assign rfl rfl (wl_nil (qs_seq ?_)))))
  refine wc_sub (L' := [(5, _), (4, _)]) (.cons rfl (.cons rfl .nil)) ?_
  refine wc_ret (qs_block_ret (qs_then_ret ?_))
  refine fin2 (.inr rfl) rfl rfl rfl ?_
  exact ⟨_, rfl, by unfold doV; rw [if_neg (by omega), if_pos (by assumption)], by unfold doW; rw [if_neg (by omega), if_pos (by assumption)]; exact refP_up (by omega) (hS5.pick [0, 2] rfl)⟩
 refine wc_seq (wc_seq (wc_region ?_))
 refine wl_eql rfl rfl rfl ?_
 refine wl_assign rfl rfl (wl_nil (qs_seq ?_))
 refine wc_condD rfl (fun h6 => ?_) (fun h6 => ?_)
 ·refine wc_skip (qs_seq ?_)
  refine wc_condKT rfl (decide_eq_true h6) ?_
  refine wc_seq (wc_region (wl_move rfl rfl ?_))
  refine wl_fieldAddr rfl fo_37_1 rfl ?_
  refine wl_load rfl ag_9 (by first | assumption | exact hS1.cell 0 rfl rfl) rfl ?_
  refine wl_fieldAddr rfl fo_37_2 rfl ?_
  refine wl_load rfl ag_9 (by first | assumption | exact hS1.cell 0 rfl rfl) rfl ?_
  refine wl_fieldAddr rfl fo_37_3 rfl ?_
  refine wl_load rfl ag_9 (by first | assumption | exact hS1.cell 0 rfl rfl) rfl ?_
  have hC7 := hS1.split [1] [false, true, false] rfl; dsimp only [selF, pickA, nthA, List.cons_append, List.nil_append] at hC7
  refine wl_call cal_63 rfl (rmkdir_sp hC7 hn hB x.dir x.name x.id (by have := hx.dir; omega) (by have := hx.name; omega) (by have := hx.id; omega)) rfl ?_
  rintro e w7 ⟨_, rfl, rfl, hS7⟩; refine ⟨_, rfl, ?_⟩
  replace hS7 := hS7.join rfl; dsimp only [List.dropLast, List.cons_append, List.nil_append] at hS7; clear hC7
  clear hS1
  refine wl_assign rfl rfl (wl_assign rfl rfl (wl_nil (qs_seq ?_)))
  refine wc_sub (L' := [(5, _), (4, _)]) (.cons rfl (.cons rfl .nil)) ?_
  refine wc_ret (qs_block_ret (qs_then_ret ?_))
  refine fin2 (.inr rfl) rfl rfl rfl ?_
  exact ⟨_, rfl, by unfold doV; rw [if_neg (by omega), if_neg (by omega), if_pos (by omega)], by unfold doW; rw [if_neg (by omega), if_neg (by omega), if_pos (by omega)]; exact refP_up (by omega) (hS7.pick [0, 2] rfl)⟩
 refine wc_region ?_
 refine wl_eql rfl rfl rfl ?_
 refine wl_assign rfl rfl (wl_nil (qs_seq ?_))
 refine wc_condD rfl (fun h8 => ?_) (fun h8 => ?_)
 ·refine wc_seq (wc_region (wl_move rfl rfl ?_))
  refine wl_fieldAddr rfl fo_37_1 rfl ?_
  refine wl_load rfl ag_9 (by first | assumption | exact hS1.cell 0 rfl rfl) rfl ?_
  refine wl_fieldAddr rfl fo_37_2 rfl ?_
  refine wl_load rfl ag_9 (by first | assumption | exact hS1.cell 0 rfl rfl) rfl ?_
  refine wl_fieldAddr rfl fo_37_3 rfl ?_
  refine wl_load rfl ag_9 (by first | assumption | exact hS1.cell 0 rfl rfl) rfl ?_
  have hC9 := hS1.split [1] [false, true, false] rfl; dsimp only [selF, pickA, nthA, List.cons_append, List.nil_append] at hC9
  refine wl_call cal_63 rfl (rmkdir_sp hC9 hn hB x.dir x.name x.id (by have := hx.dir; omega) (by have := hx.name; omega) (by have := hx.id; omega)) rfl ?_
  rintro e w9 ⟨_, rfl, rfl, hS9⟩; refine ⟨_, rfl, ?_⟩
  replace hS9 := hS9.join rfl; dsimp only [List.dropLast, List.cons_append, List.nil_append] at hS9; clear hC9
  clear hS1
  refine wl_assign rfl rfl (wl_assign rfl rfl (wl_nil (qs_seq ?_)))
  refine wc_sub (L' := [(5, _), (4, _)]) (.cons rfl (.cons rfl .nil)) ?_
  refine wc_ret (qs_block_ret (qs_then_ret ?_))
  refine fin2 (.inr rfl) rfl rfl rfl ?_
  exact ⟨_, rfl, by unfold doV; rw [if_neg (by omega), if_neg (by omega), if_pos (by omega)], by unfold doW; rw [if_neg (by omega), if_neg (by omega), if_pos (by omega)]; exact refP_up (by omega) (hS9.pick [0, 2] rfl)⟩
 refine wc_seq (wc_region ?_)
 refine wl_eql rfl rfl rfl ?_
 refine wl_assign rfl rfl (wl_nil (qs_seq ?_))
 refine wc_sub (L' := [(44, _), (8, _), (5, _), (4, _), (3, _), (0, _)]) (.cons rfl (.cons rfl (.cons rfl (.cons rfl (.cons rfl (.cons rfl .nil)))))) ?_
 refine wc_condD rfl (fun h10 => ?_) (fun h10 => ?_)
 ·refine wc_seq (wc_region (wl_move rfl rfl ?_))
  refine wl_fieldAddr rfl fo_37_1 rfl ?_
  refine wl_load rfl ag_9 (by first | assumption | exact hS1.cell 0 rfl rfl) rfl ?_
  refine wl_fieldAddr rfl fo_37_2 rfl ?_
  refine wl_load rfl ag_9 (by first | assumption | exact hS1.cell 0 rfl rfl) rfl ?_
  have hC11 := hS1.split [1] [false, true, false] rfl; dsimp only [selF, pickA, nthA, List.cons_append, List.nil_append] at hC11
  refine wl_call cal_64 rfl (rrmdir_sp hC11 hn hB x.dir x.name (by have := hx.dir; omega) (by have := hx.name; omega)) rfl ?_
  rintro e w11 ⟨_, rfl, rfl, hS11⟩; refine ⟨_, rfl, ?_⟩
  replace hS11 := hS11.join rfl; dsimp only [List.dropLast, List.cons_append, List.nil_append] at hS11; clear hC11
  clear hS1
  refine wl_assign rfl rfl (wl_assign rfl rfl (wl_nil (qs_seq ?_)))
  refine wc_sub (L' := [(5, _), (4, _)]) (.cons rfl (.cons rfl .nil)) ?_
  refine wc_ret (qs_block_ret (qs_then_ret ?_))
  refine fin2 (.inr rfl) rfl rfl rfl ?_
  exact ⟨_, rfl, by unfold doV; rw [if_neg (by omega), if_neg (by omega), if_neg (by omega), if_pos (by assumption)], by unfold doW; rw [if_neg (by omega), if_neg (by omega), if_neg (by omega), if_pos (by assumption)]; exact refP_up (by omega) (hS11.pick [0, 2] rfl)⟩
 refine wc_seq (wc_region ?_)
 refine wl_eql rfl rfl rfl ?_
 refine wl_assign rfl rfl (wl_nil (qs_seq ?_))
 refine wc_condD rfl (fun h12 => ?_) (fun h12 => ?_)
 ·refine wc_seq (wc_region (wl_move rfl rfl ?_))
  refine wl_fieldAddr rfl fo_37_1 rfl ?_
  refine wl_load rfl ag_9 (by first | assumption | exact hS1.cell 0 rfl rfl) rfl ?_
  refine wl_fieldAddr rfl fo_37_2 rfl ?_
  refine wl_load rfl ag_9 (by first | assumption | exact hS1.cell 0 rfl rfl) rfl ?_
  refine wl_fieldAddr rfl fo_37_4 rfl ?_
  refine wl_load rfl ag_9 (by first | assumption | exact hS1.cell 0 rfl rfl) rfl ?_
  refine wl_fieldAddr rfl fo_37_5 rfl ?_
  refine wl_load rfl ag_9 (by first | assumption | exact hS1.cell 0 rfl rfl) rfl ?_
  have hC13 := hS1.split [1] [false, true, false] rfl; dsimp only [selF, pickA, nthA, List.cons_append, List.nil_append] at hC13
  refine wl_call cal_65 rfl (rrename_sp hC13 hn hB x.dir x.name x.td x.to (by have := hx.dir; omega) (by have := hx.name; omega) (by have := hx.td; omega) (by have := hx.to; omega)) rfl ?_
  rintro e w13 ⟨_, rfl, rfl, hS13⟩; refine ⟨_, rfl, ?_⟩
  replace hS13 := hS13.join rfl; dsimp only [List.dropLast, List.cons_append, List.nil_append] at hS13; clear hC13
  clear hS1
  refine wl_extract rfl rfl rfl (wl_extract rfl rfl rfl (wl_assign rfl rfl (wl_assign rfl rfl (wl_nil (qs_seq ?_)))))
  refine wc_sub (L' := [(5, _), (4, _)]) (.cons rfl (.cons rfl .nil)) ?_
  refine wc_ret (qs_block_ret (qs_then_ret ?_))
  refine fin2 (.inr rfl) rfl rfl rfl ?_
  exact ⟨_, rfl, by unfold doV; rw [if_neg (by omega), if_neg (by omega), if_neg (by omega), if_neg (by omega), if_pos (by assumption)], by unfold doW; rw [if_neg (by omega), if_neg (by omega), if_neg (by omega), if_neg (by omega), if_pos (by assumption)]; exact refP_up (by omega) (hS13.pick [0, 2] rfl)⟩
 refine wc_seq (wc_region ?_)
 refine wl_eql rfl rfl rfl ?_
 refine wl_assign rfl rfl (wl_nil (qs_seq ?_))
 refine wc_condD rfl (fun h14 => ?_) (fun h14 => ?_)
 ·refine wc_region (wl_move rfl rfl ?_)
  refine wl_fieldAddr rfl fo_37_3 rfl ?_
  refine wl_load rfl ag_9 (by first | assumption | exact hS1.cell 0 rfl rfl) rfl ?_
  refine wl_fieldAddr rfl fo_37_6 rfl ?_
  refine wl_loadA rfl ag_35 sz_35 (by first | exact hS1.blk 0 rfl) (by first | decide | exact Nat.le_of_ble_eq_true rfl | (simp; done) | omega) rfl rfl ?_
  have hC15 := hS1.split [1] [false, true, false] rfl; dsimp only [selF, pickA, nthA, List.cons_append, List.nil_append] at hC15
  refine wl_call cal_60 rfl (rset_sp hC15 (by omega) x.id (by have := hx.id; omega) hnb) rfl ?_
  rintro e w15 ⟨_, rfl, rfl, hS15⟩; refine ⟨_, rfl, ?_⟩
  replace hS15 := hS15.join rfl; dsimp only [List.dropLast, List.cons_append, List.nil_append] at hS15; clear hC15
  clear hS1
  refine wl_nil (qs_block_normal (qs_seq ?_))
  refine wc_sub (L' := [(5, _), (4, _)]) (.cons rfl (.cons rfl .nil)) ?_
  refine wc_seq (wc_region (wl_assign rfl rfl (wl_assign rfl rfl (wl_nil (qs_seq (wc_ret ?_))))))
  refine fin2 (.inr rfl) rfl rfl rfl ?_
  exact ⟨_, rfl, by unfold doV; rw [if_neg (by omega), if_neg (by omega), if_neg (by omega), if_neg (by omega), if_neg (by omega)], by unfold doW; rw [if_neg (by omega), if_neg (by omega), if_neg (by omega), if_neg (by omega), if_neg (by omega), if_pos (by assumption)]; exact refP_up (by omega) (hS15.pick [0, 2] rfl)⟩
 refine wc_region (wl_move rfl rfl ?_)
 refine wl_fieldAddr rfl fo_37_3 rfl ?_
 refine wl_load rfl ag_9 (by first | assumption | exact hS1.cell 0 rfl rfl) rfl ?_
 have hC16 := hS1.split [1] [false, true, false] rfl; dsimp only [selF, pickA, nthA, List.cons_append, List.nil_append] at hC16
 refine wl_call cal_66 rfl (rno_sp hC16 (by omega) x.id (by have := hx.id; omega)) rfl ?_
 rintro e w16 ⟨_, rfl, rfl, hS16⟩; refine ⟨_, rfl, ?_⟩
 replace hS16 := hS16.join rfl; dsimp only [List.dropLast, List.cons_append, List.nil_append] at hS16; clear hC16
 clear hS1
 refine wl_nil (qs_block_normal (qs_seq ?_))
 refine wc_sub (L' := [(5, _), (4, _)]) (.cons rfl (.cons rfl .nil)) ?_
 refine wc_seq (wc_region (wl_assign rfl rfl (wl_assign rfl rfl (wl_nil (qs_seq (wc_ret ?_))))))
 refine fin2 (.inr rfl) rfl rfl rfl ?_
 exact ⟨_, rfl, by unfold doV; rw [if_neg (by omega), if_neg (by omega), if_neg (by omega), if_neg (by omega), if_neg (by omega)], by unfold doW; rw [if_neg (by omega), if_neg (by omega), if_neg (by omega), if_neg (by omega), if_neg (by omega), if_neg (by omega)]; exact refP_up (by omega) (hS16.pick [0, 2] rfl)⟩
set_option maxRecDepth 100000 in
theorem pairs_sp {w : World} {F : Th} (hS : Sat w [F]) {lv : Value} {l : List (Bs × Bs)} (hL : Ent F (RdL pcC lv l)) :
    Calls Tryz.prog 19 #[lv] w (Ret fun v w' => v = .bool (fewP l) ∧ Sat w' [F]) := by
 obtain ⟨ao, cap, rfl, hmax⟩ := (hL.sat hS 0 rfl).shape
 refine calls_enter Tryz.func19 rfl Tryz.ntmps19 rfl ?_
 refine wc_seq (wc_region (wl_assign rfl rfl (wl_nil (qs_seq (wc_seq (wc_seq (wc_region (wl_assign rfl rfl (wl_nil (qs_seq (wc_block ?_)))))))))))
 refine wc_loop (fun K0 E0 W0 => ∃ (i : Nat), K0 = l.length - i ∧ E0 = [(0, .slice ao l.length cap), (3, intV (i : Int))] ∧ Sat W0 [F] ∧ (i ≤ l.length) ∧ (∀ j a, j < i → l[j]? = some a → a.1.length ≤ 60 ∧ a.2.length ≤ 60)) (L0 := [(0, _), (3, _)]) (l.length - 0) (.cons rfl (.cons rfl .nil)) ⟨0, rfl, rfl, hS, by omega, by omega⟩ ?_
 rintro _ _ w1 ⟨i, rfl, rfl, hS1, hi, hok⟩
 refine wc_seq (wc_seq (wc_region (wl_move rfl rfl (wl_move rfl rfl ?_))))
 refine wl_lenL Tryz.underlying45 rfl rfl ?_
 refine wl_lss rfl rfl rfl ?_
 refine wl_nil (qs_seq ?_)
 refine wc_condD rfl (fun h2 => ?_) (fun h2 => ?_)
 ·obtain ⟨x, ha⟩ : ∃ x, l[i]? = some x := ⟨_, List.getElem?_eq_getElem (by omega)⟩
  obtain ⟨b, off, rfl, hcx⟩ := (hL.sat hS1 0 rfl).get ha
  have hil := (List.getElem?_eq_some_iff.1 ha).1
  refine wc_skip (qs_seq (wc_seq (wc_block (wc_seq (wc_region (wl_move rfl rfl (wl_move rfl rfl ?_)))))))
  refine wl_indexAddr i rfl rfl (by first | rfl | omega) (by omega) es_45 rfl ?_
  refine wl_fieldAddr rfl fo_55_0 rfl ?_
  refine wl_load rfl ag_9 ((hL.sat hS1 0 rfl).at_ ha 0 _ rfl) rfl ?_
  refine wl_lenS Tryz.underlying9 rfl rfl ?_
  refine wl_gtr rfl rfl rfl ?_
  refine wl_move rfl rfl ?_
  refine wl_splitD 17 rfl (fun h3 => ?_) (fun h3 => ?_)
  ·refine wl_unwanted rfl rfl (decide_eq_true h3) rfl ?_
   refine wl_unwanted rfl rfl (decide_eq_true h3) rfl ?_
   refine wl_unwanted rfl rfl (decide_eq_true h3) rfl ?_
   refine wl_unwanted rfl rfl (decide_eq_true h3) rfl ?_
   refine wl_unwanted rfl rfl (decide_eq_true h3) rfl ?_
   refine wl_unwanted rfl rfl (decide_eq_true h3) rfl ?_
   refine wl_unwanted rfl rfl (decide_eq_true h3) rfl ?_
   refine wl_pickT rfl (decide_eq_true h3) rfl rfl ?_
   refine wl_nil (qs_seq ?_)
   refine wc_sub (L' := [(25, _), (0, _), (3, _)]) (.cons rfl (.cons rfl (.cons rfl .nil))) ?_
   refine wc_condT rfl ?_
   refine wc_seq (wc_region (wl_assign rfl rfl (wl_nil (qs_seq (wc_ret (qs_block_ret (qs_then_ret (qs_then_ret (qs_block_ret (qs_then_ret ?_))))))))))
   refine fin1 (.inr rfl) rfl rfl ?_
   exact ⟨_, rfl, fewP_bad ha (by omega), hS1.pick [0] rfl⟩
  refine wl_guard rfl rfl (decide_eq_false h3) ?_
  refine wl_move rfl rfl ?_
  refine wl_guard rfl rfl (decide_eq_false h3) ?_
  refine wl_move rfl rfl ?_
  refine wl_guard rfl rfl (decide_eq_false h3) ?_
  refine wl_indexAddr i rfl rfl (by first | rfl | omega) (by omega) es_45 rfl ?_
  refine wl_guard rfl rfl (decide_eq_false h3) ?_
  refine wl_fieldAddr rfl fo_55_1 rfl ?_
  refine wl_guard rfl rfl (decide_eq_false h3) ?_
  refine wl_load rfl ag_9 ((hL.sat hS1 0 rfl).at_ ha 1 _ rfl) rfl ?_
  refine wl_guard rfl rfl (decide_eq_false h3) ?_
  refine wl_lenS Tryz.underlying9 rfl rfl ?_
  refine wl_guard rfl rfl (decide_eq_false h3) ?_
  refine wl_gtr rfl rfl rfl ?_
  refine wl_pickF rfl (decide_eq_false h3) rfl rfl ?_
  refine wl_nil (qs_seq ?_)
  refine wc_sub (L' := [(25, _), (0, _), (3, _)]) (.cons rfl (.cons rfl (.cons rfl .nil))) ?_
  refine wc_condD rfl (fun h4 => ?_) (fun h4 => ?_)
  ·refine wc_seq (wc_region (wl_assign rfl rfl (wl_nil (qs_seq (wc_ret (qs_block_ret (qs_then_ret (qs_then_ret (qs_block_ret (qs_then_ret ?_))))))))))
   refine fin1 (.inr rfl) rfl rfl ?_
   exact ⟨_, rfl, fewP_bad ha (by omega), hS1.pick [0] rfl⟩
  refine wc_skip (qs_block_normal (qs_seq (wc_region (wl_move rfl rfl ?_))))
  refine wl_add rfl rfl (by first | omega | (simp; omega)) (by first | omega | (simp; omega)) rfl ?_
  refine wl_assign rfl rfl (wl_nil ?_)
  exact qs_round (L1 := [(0, _), (3, intV ((i + 1 : Nat) : Int))]) (.cons rfl (.cons rfl .nil)) (k1 := l.length - (i + 1)) (by omega) ⟨i + 1, rfl, rfl, hS1.pick [0] rfl, by omega, fun j b hj hb => by by_cases e : j = i; (subst e; rw [ha] at hb; cases hb; exact ⟨by omega, by omega⟩); exact hok j b (by omega) hb⟩
 refine wc_exit (qs_then_exit (qs_then_exit (qs_block_exit (qs_seq (wc_seq (wc_region (wl_move rfl rfl ?_)))))))
 refine wl_lenL Tryz.underlying45 rfl rfl ?_
 refine wl_leq rfl rfl rfl ?_
 refine wl_assign rfl rfl (wl_nil (qs_seq (wc_ret ?_)))
 refine fin1 (.inr rfl) rfl rfl ?_
 exact ⟨_, rfl, fewP_end hok hi (by omega), hS1.pick [0] rfl⟩
end Go.Proofs.YtkaikhcpcbjkcaaGreatDoor
/- SameTexts -/
namespace Go.Proofs.YtkaikhcpcbjkcaaGreatDoor
open Go.RowKit M
set_option linter.unusedVariables false
theorem same_end {l1 l2 : List Bs} {i : Nat} (h : ∀ j, j < i → l1[j]? = l2[j]?) (h1 : i = l1.length) (h2 : l1.length = l2.length) : l1 = l2 := by
  apply List.ext_getElem?
  intro j
  by_cases hj : j < i
  · exact h j hj
  · rw [List.getElem?_eq_none (by omega), List.getElem?_eq_none (by omega)]
set_option maxRecDepth 100000 in
theorem same_sp {w : World} {F : Th} (hS : Sat w [F]) {v1 v2 : Value} {l1 l2 : List Bs} (hA : Ent F (RdL stC v1 l1)) (hB : Ent F (RdL stC v2 l2)) :
    Calls Tryz.prog 32 #[v1, v2] w (Ret fun v w' => v = .bool (decide (l1 = l2)) ∧ Sat w' [F]) := by
 obtain ⟨ao1, cap1, rfl, hm1⟩ := (hA.sat hS 0 rfl).shape
 obtain ⟨ao2, cap2, rfl, hm2⟩ := (hB.sat hS 0 rfl).shape
 refine calls_enter Tryz.func32 rfl Tryz.ntmps32 rfl ?_
 refine wc_seq (wc_region (wl_assign rfl rfl (wl_nil (qs_seq (wc_seq (wc_seq (wc_region (wl_move rfl rfl ?_))))))))
 refine wl_lenL Tryz.underlying40 rfl rfl ?_
 refine wl_move rfl rfl ?_
 refine wl_lenL Tryz.underlying40 rfl rfl ?_
 refine wl_neq rfl rfl rfl ?_
 refine wl_nil (qs_seq ?_)
 refine wc_condD rfl (fun h1 => ?_) (fun h1 => ?_)
 ·refine wc_seq (wc_region (wl_assign rfl rfl (wl_nil (qs_seq (wc_ret (qs_then_ret ?_))))))
  refine fin1 (.inr rfl) rfl rfl ?_
  exact ⟨_, rfl, by rw [decide_eq_false (by rintro rfl; omega)], hS⟩
 refine wc_skip (qs_seq (wc_seq (wc_seq (wc_region (wl_assign rfl rfl (wl_nil (qs_seq (wc_block ?_))))))))
 refine wc_loop (fun K0 E0 W0 => ∃ (i : Nat), K0 = l1.length - i ∧ E0 = [(0, .slice ao1 l1.length cap1), (1, .slice ao2 l2.length cap2), (5, intV (i : Int))] ∧ Sat W0 [F] ∧ (i ≤ l1.length) ∧ (∀ j, j < i → l1[j]? = l2[j]?)) (L0 := [(0, _), (1, _), (5, _)]) (l1.length - 0) (.cons rfl (.cons rfl (.cons rfl .nil))) ⟨0, rfl, rfl, hS, by omega, by omega⟩ ?_
 rintro _ _ w2 ⟨i, rfl, rfl, hS2, hi, hok⟩
 refine wc_seq (wc_seq (wc_region (wl_move rfl rfl (wl_move rfl rfl ?_))))
 refine wl_lenL Tryz.underlying40 rfl rfl ?_
 refine wl_lss rfl rfl rfl ?_
 refine wl_nil (qs_seq ?_)
 refine wc_condD rfl (fun h3 => ?_) (fun h3 => ?_)
 ·obtain ⟨s1, ha⟩ : ∃ s, l1[i]? = some s := ⟨_, List.getElem?_eq_getElem (by omega)⟩
  obtain ⟨s2, hb⟩ : ∃ s, l2[i]? = some s := ⟨_, List.getElem?_eq_getElem (by omega)⟩
  obtain ⟨b1, off1, rfl, hc1⟩ := (hA.sat hS2 0 rfl).get ha
  obtain ⟨b2, off2, rfl, hc2⟩ := (hB.sat hS2 0 rfl).get hb
  refine wc_skip (qs_seq (wc_seq (wc_block (wc_seq ?_))))
  have hS4 := hS2.drew
  refine wc_draw [0, 1, 2, 3, 4, 5, 6, 7, 8] [] mix (by kernel_rfl) ?_
  refine vc_p rfl rfl rfl (fun _ => (ev_move rfl)) ?_
  refine vc_p rfl rfl rfl (fun _ => (ev_move rfl)) ?_
  refine vc_p rfl rfl rfl (fun _ => (ev_indexAddr i rfl rfl (by first | rfl | omega) (by exact (List.getElem?_eq_some_iff.1 ha).1) es_40)) ?_
  refine vc_q rfl rfl rfl (ev_load rfl ag_9 (by have h := hc1 0 _ rfl; exact h)) ?_
  refine vc_p rfl rfl rfl (fun _ => (ev_move rfl)) ?_
  refine vc_p rfl rfl rfl (fun _ => (ev_move rfl)) ?_
  refine vc_p rfl rfl rfl (fun _ => (ev_indexAddr i rfl rfl (by first | rfl | omega) (by exact (List.getElem?_eq_some_iff.1 hb).1) es_40)) ?_
  refine vc_q rfl rfl rfl (ev_load rfl ag_9 (by have h := hc2 0 _ rfl; exact h)) ?_
  refine vc_p rfl rfl rfl (fun _ => (ev_neqS rfl rfl)) ?_
  refine VC.nil (qs_seq ?_)
  refine wc_sub (L' := [(25, _), (0, _), (1, _), (5, _)]) (.cons rfl (.cons rfl (.cons rfl (.cons rfl .nil)))) ?_
  refine wc_condD rfl (fun h5 => ?_) (fun h5 => ?_)
  ·have hne : s1 ≠ s2 := h5
   refine wc_seq (wc_region (wl_assign rfl rfl (wl_nil (qs_seq (wc_ret (qs_block_ret (qs_then_ret (qs_then_ret (qs_block_ret (qs_then_ret ?_))))))))))
   refine fin1 (.inr rfl) rfl rfl ?_
   exact ⟨_, rfl, by rw [decide_eq_false (by rintro rfl; rw [ha] at hb; cases hb; exact hne rfl)], hS4⟩
  have heq : s1 = s2 := Decidable.not_not.1 h5
  refine wc_skip (qs_block_normal (qs_seq (wc_region (wl_move rfl rfl ?_))))
  refine wl_add rfl rfl (by omega) (by omega) rfl ?_
  refine wl_assign rfl rfl (wl_nil ?_)
  exact qs_round (L1 := [(0, _), (1, _), (5, intV ((i + 1 : Nat) : Int))]) (.cons rfl (.cons rfl (.cons rfl .nil))) (k1 := l1.length - (i + 1)) (by omega) ⟨i + 1, rfl, rfl, hS4, by omega, fun j hj => by by_cases e : j = i; (subst e; rw [ha, hb, heq]); exact hok j (by omega)⟩
 refine wc_exit (qs_then_exit (qs_then_exit (qs_block_exit (qs_seq (wc_seq (wc_region (wl_assign rfl rfl (wl_nil (qs_seq (wc_ret ?_))))))))))
 refine fin1 (.inr rfl) rfl rfl ?_
 exact ⟨_, rfl, by rw [decide_eq_true (same_end hok (by omega) (by omega))], hS2⟩
end Go.Proofs.YtkaikhcpcbjkcaaGreatDoor
