/- laws of names: NamesPaths -/
import Derived.Test.YtkaikhcpcbjkcaaGreatDoorNm10
namespace Go.Proofs.YtkaikhcpcbjkcaaGreatDoor
open Go.RowKit M
set_option linter.unusedVariables false
theorem splitB_app : ∀ (p q : Bs), splitB (p ++ 47 :: q) = splitB p ++ splitB q
  | [], q => by
    show splitB (47 :: q) = _
    rw [splitB_cons, if_pos rfl]; rfl
  | c :: p, q => by
    rw [List.cons_append, splitB_cons, splitB_cons, splitB_app p q]
    by_cases h : c = 47
    · rw [if_pos h, if_pos h]; rfl
    · rw [if_neg h, if_neg h]
      cases hs : splitB p with
      | nil => exact absurd hs (splitB_ne p)
      | cons y t => rfl
theorem partsL_app (p q : Bs) : partsL (p ++ 47 :: q) = partsL p ++ partsL q := by
  unfold partsL
  rw [splitB_app, List.filter_append]
theorem partsL_slash (q : Bs) : partsL (47 :: q) = partsL q := by
  have := partsL_app [] q
  rw [List.nil_append] at this
  rw [this]; rfl
theorem partsL_ne {p x : Bs} (h : x ∈ partsL p) : x ≠ [] := by
  have := (List.mem_filter.1 h).2
  simpa using this
theorem partsL_one {n : Bs} (h1 : n ≠ []) (h2 : (47 : UInt8) ∉ n) : partsL n = [n] := by
  unfold partsL
  rw [splitB_one h2]
  simp [h1]
theorem begE_ok {p : Bs} (h : p ≠ []) (hl : p.length ≤ 64) : begE p = 0 := by unfold begE; rw [if_neg (by omega), if_neg h]
theorem begS_app {cwd p t : Bs} (h : p ≠ []) (hl : (p ++ t).length ≤ 64) : begS cwd (p ++ t) = begS cwd p := by
  rw [List.length_append] at hl
  unfold begS
  rw [if_neg (by rw [List.length_append]; omega), if_neg (by omega)]
  cases p with
  | nil => exact absurd rfl h
  | cons c r => rfl
theorem begS_rel {cwd q : Bs} (hl : q.length ≤ 64) (hq : q ≠ []) (h0 : q[0]? ≠ some 47) : begS cwd q = cwd := by
  unfold begS
  rw [if_neg (by omega)]
  cases q with
  | nil => exact absurd rfl hq
  | cons c r =>
    dsimp only
    rw [if_neg]
    intro e
    exact h0 (by simp [e])
theorem res_eq {W : WS} {cwd p : Bs} (h : p ≠ []) (hl : p.length ≤ 64) : resV W cwd p = walkV W (begS cwd p) (partsL p) := by
  unfold resV
  rw [if_neg (by simp [begE_ok h hl])]
/-- a path and another one behind it -/
theorem paths_join {W : WS} {cwd p q : Bs} (hp : p ≠ []) (hq : q ≠ []) (hl : p.length + q.length ≤ 62) :
    resV W cwd (p ++ 47 :: q) = if (resV W cwd p).2 ≠ 0 then ([], (resV W cwd p).2) else walkV W (resV W cwd p).1 (partsL q) := by
  rw [res_eq (by simp) (by simp; omega), res_eq hp (by omega), partsL_app, begS_app hp (by simp; omega), walkV_app]
theorem paths_two {W : WS} {cwd p q : Bs} (hp : p ≠ []) (hq : q ≠ []) (hl : p.length + q.length ≤ 61) : resV W cwd (p ++ 47 :: 47 :: q) = resV W cwd (p ++ 47 :: q) := by
  rw [paths_join hp (by simp) (by simp; omega), paths_join hp hq (by omega), partsL_slash]
theorem paths_rel {W : WS} {cwd q : Bs} (hl : q.length ≤ 64) (hq : q ≠ []) (h0 : q[0]? ≠ some 47) : resV W cwd q = walkV W cwd (partsL q) := by
  rw [res_eq hq hl, begS_rel hl hq h0]
theorem walkP_last {W : WS} : ∀ (ps : List Bs) (d nm x : Bs), nm ≠ [] → (∀ y ∈ ps, y ≠ []) →
    walkP W d nm (ps ++ [x]) = if (walkV W d (nm :: ps)).2 ≠ 0 then ([], [], (walkV W d (nm :: ps)).2) else ((walkV W d (nm :: ps)).1, x, 0)
  | [], d, nm, x, hn, _ => by
    rw [List.nil_append, walkP, if_pos hn, walkV]
    by_cases h : (stepV W d nm).2 ≠ 0
    · rw [if_pos h, if_pos h, if_pos h]
    · rw [if_neg h, if_neg h, walkP, walkV]; simp
  | y :: ps, d, nm, x, hn, hy => by
    rw [List.cons_append, walkP, if_pos hn, walkV]
    by_cases h : (stepV W d nm).2 ≠ 0
    · rw [if_pos h, if_pos h, if_pos h]
    · rw [if_neg h, if_neg h]
      exact walkP_last ps _ _ _ (hy y (by simp)) fun z hz => hy z (List.mem_cons_of_mem _ hz)
theorem walkP_init {W : WS} (ps : List Bs) (d x : Bs) (hy : ∀ y ∈ ps, y ≠ []) : walkP W d [] (ps ++ [x]) = if (walkV W d ps).2 ≠ 0 then ([], [], (walkV W d ps).2) else ((walkV W d ps).1, x, 0) := by
  cases ps with
  | nil => rw [List.nil_append, walkP, if_neg (by simp), walkP, walkV]; simp
  | cons y t => rw [List.cons_append, walkP, if_neg (by simp)]; exact walkP_last t d y x (hy y (by simp)) fun z hz => hy z (List.mem_cons_of_mem _ hz)
theorem nameB_is {n : Bs} (h : nameB n = true) : n ≠ [] ∧ n.length ≤ 14 ∧ (47 : UInt8) ∉ n := by
  unfold nameB at h
  simp only [Bool.and_eq_true, Bool.not_eq_true', decide_eq_true_eq, decide_eq_false_iff_not] at h
  exact ⟨h.1.1.1.1, h.1.1.1.2, h.2⟩
theorem par_ok {W : WS} {cwd p : Bs} (hp : p ≠ []) (hl : p.length ≤ 60) (h : (parV W cwd p).2.2 = 0) :
    nameB (parV W cwd p).2.1 = true ∧ resV W (parV W cwd p).1 (parV W cwd p).2.1 = resV W cwd p := by
  have hb := begE_ok hp (by omega)
  unfold parV at h ⊢
  rw [if_neg (by simp [hb])] at h ⊢
  by_cases hn : nameB (lastP p) = false
  · rw [if_pos hn] at h; exact absurd h (by decide)
  · rw [if_neg hn] at h ⊢
    have hn1 : nameB (lastP p) = true := by simpa using hn
    obtain ⟨n1, n2, n3⟩ := nameB_is hn1
    obtain ⟨ps, hps⟩ : ∃ ps, partsL p = ps ++ [lastP p] := by
      unfold lastP at n1 ⊢
      cases hg : (partsL p).getLast? with
      | none => rw [hg] at n1; simp at n1
      | some y => obtain ⟨ys, hys⟩ := List.getLast?_eq_some_iff.1 hg; exact ⟨ys, by rw [Option.getD_some]; exact hys⟩
    have hne : ∀ y ∈ ps, y ≠ [] := fun y hy => partsL_ne (p := p) (by rw [hps]; exact List.mem_append_left _ hy)
    have hw := walkP_init (W := W) ps (begS cwd p) (lastP p) hne
    rw [← hps] at hw
    by_cases he : (walkV W (begS cwd p) ps).2 ≠ 0
    · rw [if_pos he] at hw
      rw [hw, if_pos he] at h; exact absurd h he
    · rw [if_neg he] at hw
      rw [hw] at h ⊢
      rw [if_neg (by simp)] at h ⊢
      by_cases hd : dirE W (walkV W (begS cwd p) ps).1 ≠ 0
      · rw [if_pos hd] at h; exact absurd h hd
      · rw [if_neg hd]
        refine ⟨hn1, ?_⟩
        show resV W (walkV W (begS cwd p) ps).1 (lastP p) = _
        rw [paths_rel (by omega) n1 (fun q => n3 (List.mem_of_getElem? q)), partsL_one n1 n3, res_eq hp (by omega), hps, walkV_app, if_neg he]
theorem par_len {W : WS} {m : Nat} (h : PI W m) {cwd p : Bs} (hc : cwd.length ≤ 900) : (parV W cwd p).1.length ≤ 900 := by
  unfold parV
  split
  · simp
  · split
    · simp
    · split
      · simp
      · split
        · simp
        · exact walkP_len h (begS_len hc)
theorem par_nm {W : WS} {cwd p : Bs} : (parV W cwd p).2.1.length ≤ p.length := by
  unfold parV
  split
  · simp
  · split
    · simp
    · split
      · simp
      · split
        · simp
        · exact walkP_nm (by simp) fun q hq => partsL_le hq
set_option maxRecDepth 100000 in
set_option maxHeartbeats 3200000 in
theorem paths_law {w : World} {F : Th} (hS : Sat w [F]) (hG : Ent F WireG) {lv : Value} {l : List AcD} (cwd p q : Bs) (hp : p.length ≤ 281474976710656) (hq : q.length ≤ 281474976710656) (hL : Ent F (RdL acC lv l)) (hnb : ∀ (i : Nat) (y : AcD), l[i]? = some y → InB y.n) :
    Calls Tryz.prog 3 #[lv, strV cwd, strV p, strV q] w (Ret fun v w' => v = .bool true ∧ Sat w' [F]) := by
 obtain ⟨ao, cap, rfl, hmax⟩ := (hL.sat hS 0 rfl).shape
 refine calls_enter Tryz.func3 rfl Tryz.ntmps3 rfl ?_
 refine wc_seq (wc_region (wl_assign rfl rfl (wl_nil (qs_seq (wc_seq (wc_region ?_))))))
 have hC1 := hS.split [] [false] rfl; dsimp only [selF, pickA, nthA, List.cons_append, List.nil_append] at hC1
 refine wl_call cal_8 rfl (small_sp hC1 (hG.starL 0 rfl)) rfl ?_
 rintro e w1 ⟨_, rfl, rfl, hS1⟩; refine ⟨_, rfl, ?_⟩
 replace hS1 := hS1.join rfl; dsimp only [List.dropLast, List.cons_append, List.nil_append] at hS1; clear hC1
 refine wl_assign rfl rfl (wl_nil (qs_seq (wc_seq (wc_seq (wc_region (wl_move rfl rfl ?_))))))
 have hC2 := hS1.split [] [false] rfl; dsimp only [selF, pickA, nthA, List.cons_append, List.nil_append] at hC2
 refine wl_call cal_9 rfl (few_sp hC2 (hL.starL 0 rfl)) rfl ?_
 rintro e w2 ⟨_, rfl, rfl, hS2⟩; refine ⟨_, rfl, ?_⟩
 replace hS2 := hS2.join rfl; dsimp only [List.dropLast, List.cons_append, List.nil_append] at hS2; clear hC2
 clear hS1
 refine wl_not rfl rfl ?_
 refine wl_move rfl rfl ?_
 refine wl_split 28 rfl (fun h3 => ?_) (fun h3 => ?_)
 ·refine wl_unwanted rfl rfl h3 rfl ?_
  refine wl_unwanted rfl rfl h3 rfl ?_
  refine wl_unwanted rfl rfl h3 rfl ?_
  refine wl_unwanted rfl rfl h3 rfl ?_
  refine wl_unwanted rfl rfl h3 rfl ?_
  refine wl_unwanted rfl rfl h3 rfl ?_
  refine wl_pickT rfl h3 rfl rfl ?_
  refine wl_move rfl rfl ?_
  refine wl_unwanted rfl rfl rfl rfl ?_
  refine wl_unwanted rfl rfl rfl rfl ?_
  refine wl_unwanted rfl rfl rfl rfl ?_
  refine wl_pickT rfl rfl rfl rfl ?_
  refine wl_move rfl rfl ?_
  refine wl_unwanted rfl rfl rfl rfl ?_
  refine wl_unwanted rfl rfl rfl rfl ?_
  refine wl_pickT rfl rfl rfl rfl ?_
  refine wl_move rfl rfl ?_
  refine wl_unwanted rfl rfl rfl rfl ?_
  refine wl_unwanted rfl rfl rfl rfl ?_
  refine wl_pickT rfl rfl rfl rfl ?_
  refine wl_nil (qs_seq ?_)
  refine wc_sub (L' := [(48, _), (9, _), (8, _), (0, _), (1, _), (2, _), (3, _)]) (.cons rfl (.cons rfl (.cons rfl (.cons rfl (.cons rfl (.cons rfl (.cons rfl .nil))))))) ?_
  refine wc_condT rfl ?_
  refine wc_seq (wc_region (wl_move rfl rfl (wl_assign rfl rfl (wl_nil (qs_seq (wc_ret (qs_then_ret ?_)))))))
  refine fin1 (.inr rfl) rfl rfl ?_
  exact ⟨_, rfl, by first | rfl | (rw [hpn1]) | simp [*], hS2.pick [0] rfl⟩
 have hsf : (!fewA l) = false := h3
 refine wl_guard rfl rfl h3 ?_
 refine wl_move rfl rfl ?_
 refine wl_guard rfl rfl h3 ?_
 refine wl_lenS Tryz.underlying9 rfl rfl ?_
 refine wl_guard rfl rfl h3 ?_
 refine wl_move rfl rfl ?_
 refine wl_guard rfl rfl h3 ?_
 refine wl_lenS Tryz.underlying9 rfl rfl ?_
 refine wl_guard rfl rfl h3 ?_
 refine wl_add rfl rfl (by first | omega | (simp; omega)) (by first | omega | (simp; omega)) rfl ?_
 refine wl_guard rfl rfl h3 ?_
 refine wl_gtr rfl rfl rfl ?_
 refine wl_pickF rfl h3 rfl rfl ?_
 refine wl_move rfl rfl ?_
 refine wl_splitD 36 rfl (fun h4 => ?_) (fun h4 => ?_)
 ·refine wl_unwanted rfl rfl (decide_eq_true h4) rfl ?_
  refine wl_unwanted rfl rfl (decide_eq_true h4) rfl ?_
  refine wl_unwanted rfl rfl (decide_eq_true h4) rfl ?_
  refine wl_pickT rfl (decide_eq_true h4) rfl rfl ?_
  refine wl_move rfl rfl ?_
  refine wl_unwanted rfl rfl rfl rfl ?_
  refine wl_unwanted rfl rfl rfl rfl ?_
  refine wl_pickT rfl rfl rfl rfl ?_
  refine wl_move rfl rfl ?_
  refine wl_unwanted rfl rfl rfl rfl ?_
  refine wl_unwanted rfl rfl rfl rfl ?_
  refine wl_pickT rfl rfl rfl rfl ?_
  refine wl_nil (qs_seq ?_)
  refine wc_sub (L' := [(48, _), (9, _), (8, _), (0, _), (1, _), (2, _), (3, _)]) (.cons rfl (.cons rfl (.cons rfl (.cons rfl (.cons rfl (.cons rfl (.cons rfl .nil))))))) ?_
  refine wc_condT rfl ?_
  refine wc_seq (wc_region (wl_move rfl rfl (wl_assign rfl rfl (wl_nil (qs_seq (wc_ret (qs_then_ret ?_)))))))
  refine fin1 (.inr rfl) rfl rfl ?_
  exact ⟨_, rfl, by first | rfl | (rw [hpn1]) | simp [*], hS2.pick [0] rfl⟩
 have hpq : (p.length : Int) + q.length ≤ 60 := by omega
 refine wl_guard rfl rfl (decide_eq_false h4) ?_
 refine wl_move rfl rfl ?_
 refine wl_guard rfl rfl (decide_eq_false h4) ?_
 refine wl_lenS Tryz.underlying9 rfl rfl ?_
 refine wl_guard rfl rfl (decide_eq_false h4) ?_
 refine wl_gtr rfl rfl rfl ?_
 refine wl_pickF rfl (decide_eq_false h4) rfl rfl ?_
 refine wl_move rfl rfl ?_
 refine wl_splitD 41 rfl (fun h5 => ?_) (fun h5 => ?_)
 ·refine wl_unwanted rfl rfl (decide_eq_true h5) rfl ?_
  refine wl_unwanted rfl rfl (decide_eq_true h5) rfl ?_
  refine wl_pickT rfl (decide_eq_true h5) rfl rfl ?_
  refine wl_move rfl rfl ?_
  refine wl_unwanted rfl rfl rfl rfl ?_
  refine wl_unwanted rfl rfl rfl rfl ?_
  refine wl_pickT rfl rfl rfl rfl ?_
  refine wl_nil (qs_seq ?_)
  refine wc_sub (L' := [(48, _), (9, _), (8, _), (0, _), (1, _), (2, _), (3, _)]) (.cons rfl (.cons rfl (.cons rfl (.cons rfl (.cons rfl (.cons rfl (.cons rfl .nil))))))) ?_
  refine wc_condT rfl ?_
  refine wc_seq (wc_region (wl_move rfl rfl (wl_assign rfl rfl (wl_nil (qs_seq (wc_ret (qs_then_ret ?_)))))))
  refine fin1 (.inr rfl) rfl rfl ?_
  exact ⟨_, rfl, by first | rfl | (rw [hpn1]) | simp [*], hS2.pick [0] rfl⟩
 have hcw : (cwd.length : Int) ≤ 30 := by omega
 refine wl_guard rfl rfl (decide_eq_false h5) ?_
 refine wl_move rfl rfl ?_
 refine wl_guard rfl rfl (decide_eq_false h5) ?_
 refine wl_eqlS rfl rfl rfl ?_
 refine wl_pickF rfl (decide_eq_false h5) rfl rfl ?_
 refine wl_move rfl rfl ?_
 refine wl_splitD 45 rfl (fun h6 => ?_) (fun h6 => ?_)
 ·refine wl_unwanted rfl rfl (decide_eq_true h6) rfl ?_
  refine wl_unwanted rfl rfl (decide_eq_true h6) rfl ?_
  refine wl_pickT rfl (decide_eq_true h6) rfl rfl ?_
  refine wl_nil (qs_seq ?_)
  refine wc_sub (L' := [(48, _), (9, _), (8, _), (0, _), (1, _), (2, _), (3, _)]) (.cons rfl (.cons rfl (.cons rfl (.cons rfl (.cons rfl (.cons rfl (.cons rfl .nil))))))) ?_
  refine wc_condT rfl ?_
  refine wc_seq (wc_region (wl_move rfl rfl (wl_assign rfl rfl (wl_nil (qs_seq (wc_ret (qs_then_ret ?_)))))))
  refine fin1 (.inr rfl) rfl rfl ?_
  exact ⟨_, rfl, by first | rfl | (rw [hpn1]) | simp [*], hS2.pick [0] rfl⟩
 have hpn : p ≠ [] := h6
 refine wl_guard rfl rfl (decide_eq_false h6) ?_
 refine wl_move rfl rfl ?_
 refine wl_guard rfl rfl (decide_eq_false h6) ?_
 refine wl_eqlS rfl rfl rfl ?_
 refine wl_pickF rfl (decide_eq_false h6) rfl rfl ?_
 refine wl_nil (qs_seq ?_)
 refine wc_sub (L' := [(48, _), (9, _), (8, _), (0, _), (1, _), (2, _), (3, _)]) (.cons rfl (.cons rfl (.cons rfl (.cons rfl (.cons rfl (.cons rfl (.cons rfl .nil))))))) ?_
 refine wc_condD rfl (fun h7 => ?_) (fun h7 => ?_)
 ·refine wc_seq (wc_region (wl_move rfl rfl (wl_assign rfl rfl (wl_nil (qs_seq (wc_ret (qs_then_ret ?_)))))))
  refine fin1 (.inr rfl) rfl rfl ?_
  exact ⟨_, rfl, by first | rfl | (rw [hpn1]) | simp [*], hS2.pick [0] rfl⟩
 have hfl : fewA l = true := by simpa using hsf
 simp only [fewA, Bool.and_eq_true, decide_eq_true_eq, List.all_eq_true] at hfl
 have hok : ∀ (i : Nat) (y : AcD), l[i]? = some y → OkA y := fun i y hy => okA_is (hfl.1 y (List.mem_of_getElem? hy))
 have hPg := groW_all hfl.2 hok hnb
 have hqn : q ≠ [] := h7
 obtain ⟨c0, hc0⟩ : ∃ c, q[0]? = some c := ⟨_, List.getElem?_eq_getElem (List.length_pos_iff.2 hqn)⟩
 have hbl : (begS cwd p).length ≤ 900 := begS_len (by omega)
 have hal : (resV (groW l) cwd p).1.length ≤ 900 := by rw [res_eq hpn (by omega)]; exact walkV_len hPg hbl
 have hdl : (parV (groW l) cwd p).1.length ≤ 900 := par_len hPg (by omega)
 have hnl : (parV (groW l) cwd p).2.1.length ≤ p.length := par_nm
 have hjn := paths_join (W := (groW l)) (cwd := cwd) hpn hqn (by omega)
 refine wc_skip (qs_seq (wc_seq (wc_region (wl_move rfl rfl ?_))))
 have hC8 := hS2.split [] [false] rfl; dsimp only [selF, pickA, nthA, List.cons_append, List.nil_append] at hC8
 refine wl_call cal_10 rfl (grown_sp hC8 (hG.starL 0 rfl) (hL.starL 0 rfl) hfl.2 hok hnb) rfl ?_
 rintro e w8 ⟨_, rfl, p0, rfl, hS8⟩; refine ⟨_, rfl, ?_⟩
 replace hS8 := hS8.join rfl; dsimp only [List.dropLast, List.cons_append, List.nil_append] at hS8; clear hC8
 clear hS2
 refine wl_assign rfl rfl (wl_nil (qs_seq (wc_seq (wc_seq (wc_region (wl_move rfl rfl ?_))))))
 refine wl_eqlNil Tryz.underlying25 rfl rfl rfl ?_
 refine wl_nil (qs_seq ?_)
 refine wc_sub (L' := [(53, _), (10, _), (9, _), (8, _), (1, _), (2, _), (3, _)]) (.cons rfl (.cons rfl (.cons rfl (.cons rfl (.cons rfl (.cons rfl (.cons rfl .nil))))))) ?_
 refine wc_condF rfl ?_
 refine wc_skip (qs_seq (wc_seq (wc_region (wl_move rfl rfl ?_))))
 refine wl_makeIface nif_25 rfl rfl ?_
 refine wl_move rfl rfl (wl_move rfl rfl ?_)
 have hC9 := hS8.split [0] [true, false] rfl; dsimp only [selF, pickA, nthA, List.cons_append, List.nil_append] at hC9
 refine wl_call cal_11 rfl (resolve_sp hC9 (hG.starL 0 rfl) hPg (by decide) cwd p (by omega) (by omega)) rfl ?_
 rintro e w9 ⟨_, rfl, rfl, hS9⟩; refine ⟨_, rfl, ?_⟩
 replace hS9 := hS9.join rfl; dsimp only [List.dropLast, List.cons_append, List.nil_append] at hS9; clear hC9
 clear hS8
 refine wl_move rfl rfl (wl_extract rfl rfl rfl (wl_extract rfl rfl rfl (wl_assign rfl rfl (wl_assign rfl rfl (wl_nil (qs_seq ?_))))))
 refine wc_sub (L' := [(12, _), (11, _), (10, _), (9, _), (8, _), (1, _), (2, _), (3, _)]) (.cons rfl (.cons rfl (.cons rfl (.cons rfl (.cons rfl (.cons rfl (.cons rfl (.cons rfl .nil)))))))) ?_
 refine wc_seq (wc_region (wl_move rfl rfl ?_))
 refine wl_makeIface nif_25 rfl rfl ?_
 refine wl_move rfl rfl (wl_move rfl rfl ?_)
 refine wl_concat rfl rfl (by first | omega | (simp; omega)) rfl ?_
 refine wl_move rfl rfl ?_
 refine wl_concat rfl rfl (by simp; omega) rfl ?_
 rw [show p ++ [47] ++ q = p ++ 47 :: q by simp]
 have hC10 := hS9.split [0] [true, false] rfl; dsimp only [selF, pickA, nthA, List.cons_append, List.nil_append] at hC10
 refine wl_call cal_11 rfl (resolve_sp hC10 (hG.starL 0 rfl) hPg (by decide) cwd (p ++ 47 :: q) (by omega) (by simp; omega)) rfl ?_
 rintro e w10 ⟨_, rfl, rfl, hS10⟩; refine ⟨_, rfl, ?_⟩
 replace hS10 := hS10.join rfl; dsimp only [List.dropLast, List.cons_append, List.nil_append] at hS10; clear hC10
 clear hS9
 refine wl_move rfl rfl (wl_extract rfl rfl rfl (wl_extract rfl rfl rfl (wl_assign rfl rfl (wl_assign rfl rfl (wl_nil (qs_seq ?_))))))
 refine wc_sub (L' := [(14, _), (13, _), (12, _), (11, _), (10, _), (9, _), (8, _), (1, _), (2, _), (3, _)]) (.cons rfl (.cons rfl (.cons rfl (.cons rfl (.cons rfl (.cons rfl (.cons rfl (.cons rfl (.cons rfl (.cons rfl .nil)))))))))) ?_
 refine wc_seq (wc_seq (wc_region (wl_move rfl rfl ?_)))
 refine wl_indexS 0 Tryz.underlying9 rfl rfl (by first | rfl | omega) hc0 rfl ?_
 refine wl_neq rfl rfl rfl ?_
 refine wl_nil (qs_seq ?_)
 refine wc_condD rfl (fun h11 => ?_) (fun h11 => ?_)
 ·have hq0 : q[0]? ≠ some 47 := by rw [hc0]; intro e; cases e; exact absurd rfl h11
  refine wc_seq (wc_seq (wc_region (wl_move rfl rfl ?_)))
  refine wl_neq rfl rfl rfl ?_
  refine wl_move rfl rfl ?_
  refine wl_splitD 78 rfl (fun h12 => ?_) (fun h12 => ?_)
  ·have he : (resV (groW l) cwd p).2 ≠ 0 := h12
   rw [if_pos he] at hjn
   refine wl_guard rfl rfl (decide_eq_true h12) ?_
   refine wl_move rfl rfl ?_
   refine wl_guard rfl rfl (decide_eq_true h12) ?_
   refine wl_move rfl rfl ?_
   refine wl_guard rfl rfl (decide_eq_true h12) ?_
   refine wl_neq rfl rfl rfl ?_
   refine wl_guard rfl rfl (decide_eq_true h12) ?_
   refine wl_move rfl rfl ?_
   refine wl_splitD 82 rfl (fun h13 => ?_) (fun h13 => ?_)
   ·exact absurd h13 (by rw [hjn]; simp)
   refine wl_guard rfl rfl (decide_eq_false h13) ?_
   refine wl_move rfl rfl ?_
   refine wl_guard rfl rfl (decide_eq_false h13) ?_
   refine wl_neqS rfl rfl rfl ?_
   refine wl_guard rfl rfl (decide_eq_true h12) ?_
   refine wl_pickF rfl (decide_eq_false h13) rfl rfl ?_
   refine wl_pickT rfl (decide_eq_true h12) rfl rfl ?_
   refine wl_nil (qs_seq ?_)
   refine wc_sub (L' := [(86, _), (14, _), (13, _), (12, _), (11, _), (10, _), (9, _), (8, _), (1, _), (2, _), (3, _)]) (.cons rfl (.cons rfl (.cons rfl (.cons rfl (.cons rfl (.cons rfl (.cons rfl (.cons rfl (.cons rfl (.cons rfl (.cons rfl .nil))))))))))) ?_
   refine wc_condD rfl (fun h14 => ?_) (fun h14 => ?_)
   ·exact absurd h14 (by rw [hjn]; simp)
   refine wc_skip (qs_seq (wc_seq (wc_region (wl_move rfl rfl ?_))))
   refine wl_makeIface nif_25 rfl rfl ?_
   refine wl_move rfl rfl (wl_move rfl rfl ?_)
   have hC15 := hS10.split [0] [true, false] rfl; dsimp only [selF, pickA, nthA, List.cons_append, List.nil_append] at hC15
   refine wl_call cal_11 rfl (resolve_sp hC15 (hG.starL 0 rfl) hPg (by decide) (resV (groW l) cwd p).1 q hal (by omega)) rfl ?_
   rintro e w15 ⟨_, rfl, rfl, hS15⟩; refine ⟨_, rfl, ?_⟩
   replace hS15 := hS15.join rfl; dsimp only [List.dropLast, List.cons_append, List.nil_append] at hS15; clear hC15
   clear hS10
   refine wl_move rfl rfl (wl_extract rfl rfl rfl (wl_extract rfl rfl rfl (wl_assign rfl rfl (wl_assign rfl rfl (wl_nil (qs_seq ?_))))))
   refine wc_sub (L' := [(16, _), (15, _), (14, _), (13, _), (12, _), (11, _), (10, _), (9, _), (8, _), (1, _), (2, _), (3, _)]) (.cons rfl (.cons rfl (.cons rfl (.cons rfl (.cons rfl (.cons rfl (.cons rfl (.cons rfl (.cons rfl (.cons rfl (.cons rfl (.cons rfl .nil)))))))))))) ?_
   refine wc_seq (wc_region (wl_move rfl rfl ?_))
   refine wl_eql rfl rfl rfl ?_
   refine wl_move rfl rfl ?_
   refine wl_splitD 97 rfl (fun h16 => ?_) (fun h16 => ?_)
   ·exact absurd h16 he
   refine wl_unwanted rfl rfl (decide_eq_false h16) rfl ?_
   refine wl_unwanted rfl rfl (decide_eq_false h16) rfl ?_
   refine wl_unwanted rfl rfl (decide_eq_false h16) rfl ?_
   refine wl_unwanted rfl rfl (decide_eq_false h16) rfl ?_
   refine wl_unguarded rfl rfl rfl ?_
   refine wl_unguarded rfl rfl rfl ?_
   refine wl_unguarded rfl rfl rfl ?_
   refine wl_unwanted rfl rfl (decide_eq_false h16) rfl ?_
   refine wl_pickF rfl (decide_eq_false h16) rfl rfl ?_
   refine wl_nil (qs_seq ?_)
   refine wc_sub (L' := [(106, _), (14, _), (13, _), (12, _), (11, _), (10, _), (9, _), (8, _), (1, _), (2, _), (3, _)]) (.cons rfl (.cons rfl (.cons rfl (.cons rfl (.cons rfl (.cons rfl (.cons rfl (.cons rfl (.cons rfl (.cons rfl (.cons rfl .nil))))))))))) ?_
   refine wc_condF rfl ?_
   refine wc_skip (qs_seq (wc_seq (wc_region (wl_move rfl rfl ?_))))
   refine wl_makeIface nif_25 rfl rfl ?_
   refine wl_move rfl rfl (wl_move rfl rfl ?_)
   refine wl_concat rfl rfl (by first | omega | (simp; omega)) rfl ?_
   refine wl_move rfl rfl ?_
   refine wl_concat rfl rfl (by simp; omega) rfl ?_
   rw [show p ++ [47, 47] ++ q = p ++ 47 :: 47 :: q by simp]
   have hC17 := hS15.split [0] [true, false] rfl; dsimp only [selF, pickA, nthA, List.cons_append, List.nil_append] at hC17
   refine wl_call cal_11 rfl (resolve_sp hC17 (hG.starL 0 rfl) hPg (by decide) cwd (p ++ 47 :: 47 :: q) (by omega) (by simp; omega)) rfl ?_
   rintro e w17 ⟨_, rfl, rfl, hS17⟩; refine ⟨_, rfl, ?_⟩
   replace hS17 := hS17.join rfl; dsimp only [List.dropLast, List.cons_append, List.nil_append] at hS17; clear hC17
   clear hS15
   rw [paths_two hpn hqn (by omega)]
   refine wl_move rfl rfl (wl_extract rfl rfl rfl (wl_extract rfl rfl rfl (wl_assign rfl rfl (wl_assign rfl rfl (wl_nil (qs_seq ?_))))))
   refine wc_sub (L' := [(18, _), (17, _), (14, _), (13, _), (12, _), (11, _), (10, _), (9, _), (8, _), (1, _), (2, _)]) (.cons rfl (.cons rfl (.cons rfl (.cons rfl (.cons rfl (.cons rfl (.cons rfl (.cons rfl (.cons rfl (.cons rfl (.cons rfl .nil))))))))))) ?_
   refine wc_seq (wc_seq (wc_region (wl_move rfl rfl (wl_move rfl rfl ?_))))
   refine wl_neqS rfl rfl rfl ?_
   refine wl_move rfl rfl ?_
   refine wl_splitD 121 rfl (fun h18 => ?_) (fun h18 => ?_)
   ·exact absurd rfl h18
   refine wl_guard rfl rfl (decide_eq_false h18) ?_
   refine wl_move rfl rfl ?_
   refine wl_guard rfl rfl (decide_eq_false h18) ?_
   refine wl_move rfl rfl ?_
   refine wl_guard rfl rfl (decide_eq_false h18) ?_
   refine wl_neq rfl rfl rfl ?_
   refine wl_pickF rfl (decide_eq_false h18) rfl rfl ?_
   refine wl_nil (qs_seq ?_)
   refine wc_sub (L' := [(125, _), (12, _), (11, _), (10, _), (9, _), (8, _), (1, _), (2, _)]) (.cons rfl (.cons rfl (.cons rfl (.cons rfl (.cons rfl (.cons rfl (.cons rfl (.cons rfl .nil)))))))) ?_
   refine wc_condD rfl (fun h19 => ?_) (fun h19 => ?_)
   ·exact absurd rfl h19
   refine wc_skip (qs_seq (wc_seq (wc_region (wl_move rfl rfl ?_))))
   refine wl_makeIface nif_25 rfl rfl ?_
   refine wl_move rfl rfl (wl_move rfl rfl ?_)
   have hC20 := hS17.split [0] [true, false] rfl; dsimp only [selF, pickA, nthA, List.cons_append, List.nil_append] at hC20
   refine wl_call cal_12 rfl (parent_sp hC20 (hG.starL 0 rfl) hPg (by decide) cwd p (by omega) (by omega)) rfl ?_
   rintro e w20 ⟨_, rfl, rfl, hS20⟩; refine ⟨_, rfl, ?_⟩
   replace hS20 := hS20.join rfl; dsimp only [List.dropLast, List.cons_append, List.nil_append] at hS20; clear hC20
   clear hS17
   refine wl_move rfl rfl (wl_extract rfl rfl rfl (wl_extract rfl rfl rfl (wl_extract rfl rfl rfl (wl_assign rfl rfl (wl_assign rfl rfl (wl_assign rfl rfl (wl_nil (qs_seq ?_))))))))
   refine wc_sub (L' := [(21, _), (20, _), (19, _), (12, _), (11, _), (10, _), (9, _), (8, _)]) (.cons rfl (.cons rfl (.cons rfl (.cons rfl (.cons rfl (.cons rfl (.cons rfl (.cons rfl .nil)))))))) ?_
   refine wc_seq (wc_region (wl_move rfl rfl ?_))
   refine wl_makeIface nif_25 rfl rfl ?_
   refine wl_move rfl rfl (wl_move rfl rfl ?_)
   have hC21 := hS20.split [0] [true, false] rfl; dsimp only [selF, pickA, nthA, List.cons_append, List.nil_append] at hC21
   refine wl_call cal_11 rfl (resolve_sp hC21 (hG.starL 0 rfl) hPg (by decide) (parV (groW l) cwd p).1 (parV (groW l) cwd p).2.1 hdl (by omega)) rfl ?_
   rintro e w21 ⟨_, rfl, rfl, hS21⟩; refine ⟨_, rfl, ?_⟩
   replace hS21 := hS21.join rfl; dsimp only [List.dropLast, List.cons_append, List.nil_append] at hS21; clear hC21
   clear hS20
   refine wl_move rfl rfl (wl_extract rfl rfl rfl (wl_extract rfl rfl rfl (wl_assign rfl rfl (wl_assign rfl rfl (wl_nil (qs_seq ?_))))))
   refine wc_sub (L' := [(23, _), (22, _), (21, _), (20, _), (12, _), (11, _), (9, _), (8, _)]) (.cons rfl (.cons rfl (.cons rfl (.cons rfl (.cons rfl (.cons rfl (.cons rfl (.cons rfl .nil)))))))) ?_
   refine wc_seq (wc_region (wl_move rfl rfl (wl_move rfl rfl ?_)))
   refine wl_split 144 rfl (fun h22 => ?_) (fun h22 => ?_)
   ·refine wl_guard rfl rfl h22 ?_
    refine wl_move rfl rfl ?_
    refine wl_guard rfl rfl h22 ?_
    refine wl_neq rfl rfl rfl ?_
    refine wl_guard rfl rfl h22 ?_
    refine wl_move rfl rfl ?_
    refine wl_splitD 147 rfl (fun h23 => ?_) (fun h23 => ?_)
    ·refine wl_unwanted rfl rfl (decide_eq_true h23) rfl ?_
     refine wl_unwanted rfl rfl (decide_eq_true h23) rfl ?_
     refine wl_unwanted rfl rfl (decide_eq_true h23) rfl ?_
     refine wl_unwanted rfl rfl (decide_eq_true h23) rfl ?_
     refine wl_unguarded rfl rfl rfl ?_
     refine wl_unguarded rfl rfl rfl ?_
     refine wl_unguarded rfl rfl rfl ?_
     refine wl_unwanted rfl rfl (decide_eq_true h23) rfl ?_
     refine wl_unwanted rfl rfl (decide_eq_true h23) rfl ?_
     refine wl_unguarded rfl rfl rfl ?_
     refine wl_unguarded rfl rfl rfl ?_
     refine wl_unwanted rfl rfl (decide_eq_true h23) rfl ?_
     refine wl_guard rfl rfl h22 ?_
     refine wl_pickT rfl (decide_eq_true h23) rfl rfl ?_
     refine wl_pickT rfl h22 rfl rfl ?_
     refine wl_assign rfl rfl (wl_nil (qs_seq ?_))
     refine wc_sub (L' := [(8, _)]) (.cons rfl .nil) ?_
     refine wc_ret ?_
     refine fin1 (.inr rfl) rfl rfl ?_
     exact ⟨_, rfl, by first | rfl | (rw [hpn1]) | simp [*], hS21.pick [1] rfl⟩
    have hpo : (parV (groW l) cwd p).2.2 = 0 := Decidable.not_not.1 h23
    obtain ⟨hpn1, hpn2⟩ := par_ok hpn (by omega) hpo
    refine wl_guard rfl rfl (decide_eq_false h23) ?_
    refine wl_move rfl rfl ?_
    refine wl_guard rfl rfl (decide_eq_false h23) ?_
    refine wl_move rfl rfl ?_
    refine wl_guard rfl rfl (decide_eq_false h23) ?_
    refine wl_eqlS rfl rfl rfl ?_
    refine wl_guard rfl rfl (decide_eq_false h23) ?_
    refine wl_move rfl rfl ?_
    refine wl_splitD 151 rfl (fun h24 => ?_) (fun h24 => ?_)
    ·refine wl_guard rfl rfl (decide_eq_true h24) ?_
     refine wl_move rfl rfl ?_
     refine wl_guard rfl rfl (decide_eq_true h24) ?_
     refine wl_move rfl rfl ?_
     refine wl_guard rfl rfl (decide_eq_true h24) ?_
     refine wl_eql rfl rfl rfl ?_
     refine wl_guard rfl rfl (decide_eq_false h23) ?_
     refine wl_pickT rfl (decide_eq_true h24) rfl rfl ?_
     refine wl_guard rfl rfl (decide_eq_false h23) ?_
     refine wl_move rfl rfl ?_
     refine wl_splitD 156 rfl (fun h25 => ?_) (fun h25 => ?_)
     ·refine wl_guard rfl rfl (decide_eq_true h25) ?_
      refine wl_move rfl rfl ?_
      refine wl_guard rfl rfl (decide_eq_true h25) ?_
      have hC26 := hS21.split [] [false, false] rfl; dsimp only [selF, pickA, nthA, List.cons_append, List.nil_append] at hC26
      refine wl_call cal_13 rfl (name_sp hC26 (parV (groW l) cwd p).2.1 (by omega)) rfl ?_
      rintro e w26 ⟨_, rfl, rfl, hS26⟩; refine ⟨_, rfl, ?_⟩
      replace hS26 := hS26.join rfl; dsimp only [List.dropLast, List.cons_append, List.nil_append] at hS26; clear hC26
      clear hS21
      refine wl_guard rfl rfl (decide_eq_false h23) ?_
      refine wl_pickT rfl (decide_eq_true h25) rfl rfl ?_
      refine wl_guard rfl rfl h22 ?_
      refine wl_pickF rfl (decide_eq_false h23) rfl rfl ?_
      refine wl_pickT rfl h22 rfl rfl ?_
      refine wl_assign rfl rfl (wl_nil (qs_seq ?_))
      refine wc_sub (L' := [(8, _)]) (.cons rfl .nil) ?_
      refine wc_ret ?_
      refine fin1 (.inr rfl) rfl rfl ?_
      exact ⟨_, rfl, by first | rfl | (rw [hpn1]) | simp [*], hS26.pick [1] rfl⟩
     exact absurd (by rw [hpn2]) h25
    exact absurd (by rw [hpn2]) h24
   exact absurd h22 (by simp)
  refine wl_unwanted rfl rfl (decide_eq_false h12) rfl ?_
  refine wl_unwanted rfl rfl (decide_eq_false h12) rfl ?_
  refine wl_unwanted rfl rfl (decide_eq_false h12) rfl ?_
  refine wl_unwanted rfl rfl (decide_eq_false h12) rfl ?_
  refine wl_unguarded rfl rfl rfl ?_
  refine wl_unguarded rfl rfl rfl ?_
  refine wl_unwanted rfl rfl (decide_eq_false h12) rfl ?_
  refine wl_pickF rfl (decide_eq_false h12) rfl rfl ?_
  refine wl_nil (qs_seq ?_)
  refine wc_sub (L' := [(86, _), (14, _), (13, _), (12, _), (11, _), (10, _), (9, _), (8, _), (1, _), (2, _), (3, _)]) (.cons rfl (.cons rfl (.cons rfl (.cons rfl (.cons rfl (.cons rfl (.cons rfl (.cons rfl (.cons rfl (.cons rfl (.cons rfl .nil))))))))))) ?_
  refine wc_condF rfl ?_
  refine wc_skip (qs_seq (wc_seq (wc_region (wl_move rfl rfl ?_))))
  refine wl_makeIface nif_25 rfl rfl ?_
  refine wl_move rfl rfl (wl_move rfl rfl ?_)
  have hC27 := hS10.split [0] [true, false] rfl; dsimp only [selF, pickA, nthA, List.cons_append, List.nil_append] at hC27
  refine wl_call cal_11 rfl (resolve_sp hC27 (hG.starL 0 rfl) hPg (by decide) (resV (groW l) cwd p).1 q hal (by omega)) rfl ?_
  rintro e w27 ⟨_, rfl, rfl, hS27⟩; refine ⟨_, rfl, ?_⟩
  replace hS27 := hS27.join rfl; dsimp only [List.dropLast, List.cons_append, List.nil_append] at hS27; clear hC27
  clear hS10
  refine wl_move rfl rfl (wl_extract rfl rfl rfl (wl_extract rfl rfl rfl (wl_assign rfl rfl (wl_assign rfl rfl (wl_nil (qs_seq ?_))))))
  refine wc_sub (L' := [(16, _), (15, _), (14, _), (13, _), (12, _), (11, _), (10, _), (9, _), (8, _), (1, _), (2, _), (3, _)]) (.cons rfl (.cons rfl (.cons rfl (.cons rfl (.cons rfl (.cons rfl (.cons rfl (.cons rfl (.cons rfl (.cons rfl (.cons rfl (.cons rfl .nil)))))))))))) ?_
  refine wc_seq (wc_region (wl_move rfl rfl ?_))
  refine wl_eql rfl rfl rfl ?_
  refine wl_move rfl rfl ?_
  refine wl_splitD 97 rfl (fun h28 => ?_) (fun h28 => ?_)
  ·have he : (resV (groW l) cwd p).2 = 0 := h28
   have hj2 : (resV (groW l) cwd (p ++ 47 :: q)) = resV (groW l) (resV (groW l) cwd p).1 q := by rw [hjn, if_neg (by simp [he]), paths_rel (by omega) hqn hq0]
   refine wl_guard rfl rfl (decide_eq_true h28) ?_
   refine wl_move rfl rfl ?_
   refine wl_guard rfl rfl (decide_eq_true h28) ?_
   refine wl_move rfl rfl ?_
   refine wl_guard rfl rfl (decide_eq_true h28) ?_
   refine wl_neqS rfl rfl rfl ?_
   refine wl_guard rfl rfl (decide_eq_true h28) ?_
   refine wl_move rfl rfl ?_
   refine wl_splitD 101 rfl (fun h29 => ?_) (fun h29 => ?_)
   ·exact absurd h29 (by rw [hj2]; simp)
   refine wl_guard rfl rfl (decide_eq_false h29) ?_
   refine wl_move rfl rfl ?_
   refine wl_guard rfl rfl (decide_eq_false h29) ?_
   refine wl_move rfl rfl ?_
   refine wl_guard rfl rfl (decide_eq_false h29) ?_
   refine wl_neq rfl rfl rfl ?_
   refine wl_guard rfl rfl (decide_eq_true h28) ?_
   refine wl_pickF rfl (decide_eq_false h29) rfl rfl ?_
   refine wl_pickT rfl (decide_eq_true h28) rfl rfl ?_
   refine wl_nil (qs_seq ?_)
   refine wc_sub (L' := [(106, _), (14, _), (13, _), (12, _), (11, _), (10, _), (9, _), (8, _), (1, _), (2, _), (3, _)]) (.cons rfl (.cons rfl (.cons rfl (.cons rfl (.cons rfl (.cons rfl (.cons rfl (.cons rfl (.cons rfl (.cons rfl (.cons rfl .nil))))))))))) ?_
   refine wc_condD rfl (fun h30 => ?_) (fun h30 => ?_)
   ·exact absurd h30 (by rw [hj2]; simp)
   refine wc_skip (qs_seq (wc_seq (wc_region (wl_move rfl rfl ?_))))
   refine wl_makeIface nif_25 rfl rfl ?_
   refine wl_move rfl rfl (wl_move rfl rfl ?_)
   refine wl_concat rfl rfl (by first | omega | (simp; omega)) rfl ?_
   refine wl_move rfl rfl ?_
   refine wl_concat rfl rfl (by simp; omega) rfl ?_
   rw [show p ++ [47, 47] ++ q = p ++ 47 :: 47 :: q by simp]
   have hC31 := hS27.split [0] [true, false] rfl; dsimp only [selF, pickA, nthA, List.cons_append, List.nil_append] at hC31
   refine wl_call cal_11 rfl (resolve_sp hC31 (hG.starL 0 rfl) hPg (by decide) cwd (p ++ 47 :: 47 :: q) (by omega) (by simp; omega)) rfl ?_
   rintro e w31 ⟨_, rfl, rfl, hS31⟩; refine ⟨_, rfl, ?_⟩
   replace hS31 := hS31.join rfl; dsimp only [List.dropLast, List.cons_append, List.nil_append] at hS31; clear hC31
   clear hS27
   rw [paths_two hpn hqn (by omega)]
   refine wl_move rfl rfl (wl_extract rfl rfl rfl (wl_extract rfl rfl rfl (wl_assign rfl rfl (wl_assign rfl rfl (wl_nil (qs_seq ?_))))))
   refine wc_sub (L' := [(18, _), (17, _), (14, _), (13, _), (12, _), (11, _), (10, _), (9, _), (8, _), (1, _), (2, _)]) (.cons rfl (.cons rfl (.cons rfl (.cons rfl (.cons rfl (.cons rfl (.cons rfl (.cons rfl (.cons rfl (.cons rfl (.cons rfl .nil))))))))))) ?_
   refine wc_seq (wc_seq (wc_region (wl_move rfl rfl (wl_move rfl rfl ?_))))
   refine wl_neqS rfl rfl rfl ?_
   refine wl_move rfl rfl ?_
   refine wl_splitD 121 rfl (fun h32 => ?_) (fun h32 => ?_)
   ·exact absurd rfl h32
   refine wl_guard rfl rfl (decide_eq_false h32) ?_
   refine wl_move rfl rfl ?_
   refine wl_guard rfl rfl (decide_eq_false h32) ?_
   refine wl_move rfl rfl ?_
   refine wl_guard rfl rfl (decide_eq_false h32) ?_
   refine wl_neq rfl rfl rfl ?_
   refine wl_pickF rfl (decide_eq_false h32) rfl rfl ?_
   refine wl_nil (qs_seq ?_)
   refine wc_sub (L' := [(125, _), (12, _), (11, _), (10, _), (9, _), (8, _), (1, _), (2, _)]) (.cons rfl (.cons rfl (.cons rfl (.cons rfl (.cons rfl (.cons rfl (.cons rfl (.cons rfl .nil)))))))) ?_
   refine wc_condD rfl (fun h33 => ?_) (fun h33 => ?_)
   ·exact absurd rfl h33
   refine wc_skip (qs_seq (wc_seq (wc_region (wl_move rfl rfl ?_))))
   refine wl_makeIface nif_25 rfl rfl ?_
   refine wl_move rfl rfl (wl_move rfl rfl ?_)
   have hC34 := hS31.split [0] [true, false] rfl; dsimp only [selF, pickA, nthA, List.cons_append, List.nil_append] at hC34
   refine wl_call cal_12 rfl (parent_sp hC34 (hG.starL 0 rfl) hPg (by decide) cwd p (by omega) (by omega)) rfl ?_
   rintro e w34 ⟨_, rfl, rfl, hS34⟩; refine ⟨_, rfl, ?_⟩
   replace hS34 := hS34.join rfl; dsimp only [List.dropLast, List.cons_append, List.nil_append] at hS34; clear hC34
   clear hS31
   refine wl_move rfl rfl (wl_extract rfl rfl rfl (wl_extract rfl rfl rfl (wl_extract rfl rfl rfl (wl_assign rfl rfl (wl_assign rfl rfl (wl_assign rfl rfl (wl_nil (qs_seq ?_))))))))
   refine wc_sub (L' := [(21, _), (20, _), (19, _), (12, _), (11, _), (10, _), (9, _), (8, _)]) (.cons rfl (.cons rfl (.cons rfl (.cons rfl (.cons rfl (.cons rfl (.cons rfl (.cons rfl .nil)))))))) ?_
   refine wc_seq (wc_region (wl_move rfl rfl ?_))
   refine wl_makeIface nif_25 rfl rfl ?_
   refine wl_move rfl rfl (wl_move rfl rfl ?_)
   have hC35 := hS34.split [0] [true, false] rfl; dsimp only [selF, pickA, nthA, List.cons_append, List.nil_append] at hC35
   refine wl_call cal_11 rfl (resolve_sp hC35 (hG.starL 0 rfl) hPg (by decide) (parV (groW l) cwd p).1 (parV (groW l) cwd p).2.1 hdl (by omega)) rfl ?_
   rintro e w35 ⟨_, rfl, rfl, hS35⟩; refine ⟨_, rfl, ?_⟩
   replace hS35 := hS35.join rfl; dsimp only [List.dropLast, List.cons_append, List.nil_append] at hS35; clear hC35
   clear hS34
   refine wl_move rfl rfl (wl_extract rfl rfl rfl (wl_extract rfl rfl rfl (wl_assign rfl rfl (wl_assign rfl rfl (wl_nil (qs_seq ?_))))))
   refine wc_sub (L' := [(23, _), (22, _), (21, _), (20, _), (12, _), (11, _), (9, _), (8, _)]) (.cons rfl (.cons rfl (.cons rfl (.cons rfl (.cons rfl (.cons rfl (.cons rfl (.cons rfl .nil)))))))) ?_
   refine wc_seq (wc_region (wl_move rfl rfl (wl_move rfl rfl ?_)))
   refine wl_split 144 rfl (fun h36 => ?_) (fun h36 => ?_)
   ·refine wl_guard rfl rfl h36 ?_
    refine wl_move rfl rfl ?_
    refine wl_guard rfl rfl h36 ?_
    refine wl_neq rfl rfl rfl ?_
    refine wl_guard rfl rfl h36 ?_
    refine wl_move rfl rfl ?_
    refine wl_splitD 147 rfl (fun h37 => ?_) (fun h37 => ?_)
    ·refine wl_unwanted rfl rfl (decide_eq_true h37) rfl ?_
     refine wl_unwanted rfl rfl (decide_eq_true h37) rfl ?_
     refine wl_unwanted rfl rfl (decide_eq_true h37) rfl ?_
     refine wl_unwanted rfl rfl (decide_eq_true h37) rfl ?_
     refine wl_unguarded rfl rfl rfl ?_
     refine wl_unguarded rfl rfl rfl ?_
     refine wl_unguarded rfl rfl rfl ?_
     refine wl_unwanted rfl rfl (decide_eq_true h37) rfl ?_
     refine wl_unwanted rfl rfl (decide_eq_true h37) rfl ?_
     refine wl_unguarded rfl rfl rfl ?_
     refine wl_unguarded rfl rfl rfl ?_
     refine wl_unwanted rfl rfl (decide_eq_true h37) rfl ?_
     refine wl_guard rfl rfl h36 ?_
     refine wl_pickT rfl (decide_eq_true h37) rfl rfl ?_
     refine wl_pickT rfl h36 rfl rfl ?_
     refine wl_assign rfl rfl (wl_nil (qs_seq ?_))
     refine wc_sub (L' := [(8, _)]) (.cons rfl .nil) ?_
     refine wc_ret ?_
     refine fin1 (.inr rfl) rfl rfl ?_
     exact ⟨_, rfl, by first | rfl | (rw [hpn1]) | simp [*], hS35.pick [1] rfl⟩
    have hpo : (parV (groW l) cwd p).2.2 = 0 := Decidable.not_not.1 h37
    obtain ⟨hpn1, hpn2⟩ := par_ok hpn (by omega) hpo
    refine wl_guard rfl rfl (decide_eq_false h37) ?_
    refine wl_move rfl rfl ?_
    refine wl_guard rfl rfl (decide_eq_false h37) ?_
    refine wl_move rfl rfl ?_
    refine wl_guard rfl rfl (decide_eq_false h37) ?_
    refine wl_eqlS rfl rfl rfl ?_
    refine wl_guard rfl rfl (decide_eq_false h37) ?_
    refine wl_move rfl rfl ?_
    refine wl_splitD 151 rfl (fun h38 => ?_) (fun h38 => ?_)
    ·refine wl_guard rfl rfl (decide_eq_true h38) ?_
     refine wl_move rfl rfl ?_
     refine wl_guard rfl rfl (decide_eq_true h38) ?_
     refine wl_move rfl rfl ?_
     refine wl_guard rfl rfl (decide_eq_true h38) ?_
     refine wl_eql rfl rfl rfl ?_
     refine wl_guard rfl rfl (decide_eq_false h37) ?_
     refine wl_pickT rfl (decide_eq_true h38) rfl rfl ?_
     refine wl_guard rfl rfl (decide_eq_false h37) ?_
     refine wl_move rfl rfl ?_
     refine wl_splitD 156 rfl (fun h39 => ?_) (fun h39 => ?_)
     ·refine wl_guard rfl rfl (decide_eq_true h39) ?_
      refine wl_move rfl rfl ?_
      refine wl_guard rfl rfl (decide_eq_true h39) ?_
      have hC40 := hS35.split [] [false, false] rfl; dsimp only [selF, pickA, nthA, List.cons_append, List.nil_append] at hC40
      refine wl_call cal_13 rfl (name_sp hC40 (parV (groW l) cwd p).2.1 (by omega)) rfl ?_
      rintro e w40 ⟨_, rfl, rfl, hS40⟩; refine ⟨_, rfl, ?_⟩
      replace hS40 := hS40.join rfl; dsimp only [List.dropLast, List.cons_append, List.nil_append] at hS40; clear hC40
      clear hS35
      refine wl_guard rfl rfl (decide_eq_false h37) ?_
      refine wl_pickT rfl (decide_eq_true h39) rfl rfl ?_
      refine wl_guard rfl rfl h36 ?_
      refine wl_pickF rfl (decide_eq_false h37) rfl rfl ?_
      refine wl_pickT rfl h36 rfl rfl ?_
      refine wl_assign rfl rfl (wl_nil (qs_seq ?_))
      refine wc_sub (L' := [(8, _)]) (.cons rfl .nil) ?_
      refine wc_ret ?_
      refine fin1 (.inr rfl) rfl rfl ?_
      exact ⟨_, rfl, by first | rfl | (rw [hpn1]) | simp [*], hS40.pick [1] rfl⟩
     exact absurd (by rw [hpn2]) h39
    exact absurd (by rw [hpn2]) h38
   exact absurd h36 (by simp)
  refine wl_unwanted rfl rfl (decide_eq_false h28) rfl ?_
  refine wl_unwanted rfl rfl (decide_eq_false h28) rfl ?_
  refine wl_unwanted rfl rfl (decide_eq_false h28) rfl ?_
  refine wl_unwanted rfl rfl (decide_eq_false h28) rfl ?_
  refine wl_unguarded rfl rfl rfl ?_
  refine wl_unguarded rfl rfl rfl ?_
  refine wl_unguarded rfl rfl rfl ?_
  refine wl_unwanted rfl rfl (decide_eq_false h28) rfl ?_
  refine wl_pickF rfl (decide_eq_false h28) rfl rfl ?_
  refine wl_nil (qs_seq ?_)
  refine wc_sub (L' := [(106, _), (14, _), (13, _), (12, _), (11, _), (10, _), (9, _), (8, _), (1, _), (2, _), (3, _)]) (.cons rfl (.cons rfl (.cons rfl (.cons rfl (.cons rfl (.cons rfl (.cons rfl (.cons rfl (.cons rfl (.cons rfl (.cons rfl .nil))))))))))) ?_
  refine wc_condF rfl ?_
  refine wc_skip (qs_seq (wc_seq (wc_region (wl_move rfl rfl ?_))))
  refine wl_makeIface nif_25 rfl rfl ?_
  refine wl_move rfl rfl (wl_move rfl rfl ?_)
  refine wl_concat rfl rfl (by first | omega | (simp; omega)) rfl ?_
  refine wl_move rfl rfl ?_
  refine wl_concat rfl rfl (by simp; omega) rfl ?_
  rw [show p ++ [47, 47] ++ q = p ++ 47 :: 47 :: q by simp]
  have hC41 := hS27.split [0] [true, false] rfl; dsimp only [selF, pickA, nthA, List.cons_append, List.nil_append] at hC41
  refine wl_call cal_11 rfl (resolve_sp hC41 (hG.starL 0 rfl) hPg (by decide) cwd (p ++ 47 :: 47 :: q) (by omega) (by simp; omega)) rfl ?_
  rintro e w41 ⟨_, rfl, rfl, hS41⟩; refine ⟨_, rfl, ?_⟩
  replace hS41 := hS41.join rfl; dsimp only [List.dropLast, List.cons_append, List.nil_append] at hS41; clear hC41
  clear hS27
  rw [paths_two hpn hqn (by omega)]
  refine wl_move rfl rfl (wl_extract rfl rfl rfl (wl_extract rfl rfl rfl (wl_assign rfl rfl (wl_assign rfl rfl (wl_nil (qs_seq ?_))))))
  refine wc_sub (L' := [(18, _), (17, _), (14, _), (13, _), (12, _), (11, _), (10, _), (9, _), (8, _), (1, _), (2, _)]) (.cons rfl (.cons rfl (.cons rfl (.cons rfl (.cons rfl (.cons rfl (.cons rfl (.cons rfl (.cons rfl (.cons rfl (.cons rfl .nil))))))))))) ?_
  refine wc_seq (wc_seq (wc_region (wl_move rfl rfl (wl_move rfl rfl ?_))))
  refine wl_neqS rfl rfl rfl ?_
  refine wl_move rfl rfl ?_
  refine wl_splitD 121 rfl (fun h42 => ?_) (fun h42 => ?_)
  ·exact absurd rfl h42
  refine wl_guard rfl rfl (decide_eq_false h42) ?_
  refine wl_move rfl rfl ?_
  refine wl_guard rfl rfl (decide_eq_false h42) ?_
  refine wl_move rfl rfl ?_
  refine wl_guard rfl rfl (decide_eq_false h42) ?_
  refine wl_neq rfl rfl rfl ?_
  refine wl_pickF rfl (decide_eq_false h42) rfl rfl ?_
  refine wl_nil (qs_seq ?_)
  refine wc_sub (L' := [(125, _), (12, _), (11, _), (10, _), (9, _), (8, _), (1, _), (2, _)]) (.cons rfl (.cons rfl (.cons rfl (.cons rfl (.cons rfl (.cons rfl (.cons rfl (.cons rfl .nil)))))))) ?_
  refine wc_condD rfl (fun h43 => ?_) (fun h43 => ?_)
  ·exact absurd rfl h43
  refine wc_skip (qs_seq (wc_seq (wc_region (wl_move rfl rfl ?_))))
  refine wl_makeIface nif_25 rfl rfl ?_
  refine wl_move rfl rfl (wl_move rfl rfl ?_)
  have hC44 := hS41.split [0] [true, false] rfl; dsimp only [selF, pickA, nthA, List.cons_append, List.nil_append] at hC44
  refine wl_call cal_12 rfl (parent_sp hC44 (hG.starL 0 rfl) hPg (by decide) cwd p (by omega) (by omega)) rfl ?_
  rintro e w44 ⟨_, rfl, rfl, hS44⟩; refine ⟨_, rfl, ?_⟩
  replace hS44 := hS44.join rfl; dsimp only [List.dropLast, List.cons_append, List.nil_append] at hS44; clear hC44
  clear hS41
  refine wl_move rfl rfl (wl_extract rfl rfl rfl (wl_extract rfl rfl rfl (wl_extract rfl rfl rfl (wl_assign rfl rfl (wl_assign rfl rfl (wl_assign rfl rfl (wl_nil (qs_seq ?_))))))))
  refine wc_sub (L' := [(21, _), (20, _), (19, _), (12, _), (11, _), (10, _), (9, _), (8, _)]) (.cons rfl (.cons rfl (.cons rfl (.cons rfl (.cons rfl (.cons rfl (.cons rfl (.cons rfl .nil)))))))) ?_
  refine wc_seq (wc_region (wl_move rfl rfl ?_))
  refine wl_makeIface nif_25 rfl rfl ?_
  refine wl_move rfl rfl (wl_move rfl rfl ?_)
  have hC45 := hS44.split [0] [true, false] rfl; dsimp only [selF, pickA, nthA, List.cons_append, List.nil_append] at hC45
  refine wl_call cal_11 rfl (resolve_sp hC45 (hG.starL 0 rfl) hPg (by decide) (parV (groW l) cwd p).1 (parV (groW l) cwd p).2.1 hdl (by omega)) rfl ?_
  rintro e w45 ⟨_, rfl, rfl, hS45⟩; refine ⟨_, rfl, ?_⟩
  replace hS45 := hS45.join rfl; dsimp only [List.dropLast, List.cons_append, List.nil_append] at hS45; clear hC45
  clear hS44
  refine wl_move rfl rfl (wl_extract rfl rfl rfl (wl_extract rfl rfl rfl (wl_assign rfl rfl (wl_assign rfl rfl (wl_nil (qs_seq ?_))))))
  refine wc_sub (L' := [(23, _), (22, _), (21, _), (20, _), (12, _), (11, _), (9, _), (8, _)]) (.cons rfl (.cons rfl (.cons rfl (.cons rfl (.cons rfl (.cons rfl (.cons rfl (.cons rfl .nil)))))))) ?_
  refine wc_seq (wc_region (wl_move rfl rfl (wl_move rfl rfl ?_)))
  refine wl_split 144 rfl (fun h46 => ?_) (fun h46 => ?_)
  ·refine wl_guard rfl rfl h46 ?_
   refine wl_move rfl rfl ?_
   refine wl_guard rfl rfl h46 ?_
   refine wl_neq rfl rfl rfl ?_
   refine wl_guard rfl rfl h46 ?_
   refine wl_move rfl rfl ?_
   refine wl_splitD 147 rfl (fun h47 => ?_) (fun h47 => ?_)
   ·refine wl_unwanted rfl rfl (decide_eq_true h47) rfl ?_
    refine wl_unwanted rfl rfl (decide_eq_true h47) rfl ?_
    refine wl_unwanted rfl rfl (decide_eq_true h47) rfl ?_
    refine wl_unwanted rfl rfl (decide_eq_true h47) rfl ?_
    refine wl_unguarded rfl rfl rfl ?_
    refine wl_unguarded rfl rfl rfl ?_
    refine wl_unguarded rfl rfl rfl ?_
    refine wl_unwanted rfl rfl (decide_eq_true h47) rfl ?_
    refine wl_unwanted rfl rfl (decide_eq_true h47) rfl ?_
    refine wl_unguarded rfl rfl rfl ?_
    refine wl_unguarded rfl rfl rfl ?_
    refine wl_unwanted rfl rfl (decide_eq_true h47) rfl ?_
    refine wl_guard rfl rfl h46 ?_
    refine wl_pickT rfl (decide_eq_true h47) rfl rfl ?_
    refine wl_pickT rfl h46 rfl rfl ?_
    refine wl_assign rfl rfl (wl_nil (qs_seq ?_))
    refine wc_sub (L' := [(8, _)]) (.cons rfl .nil) ?_
    refine wc_ret ?_
    refine fin1 (.inr rfl) rfl rfl ?_
    exact ⟨_, rfl, by first | rfl | (rw [hpn1]) | simp [*], hS45.pick [1] rfl⟩
   have hpo : (parV (groW l) cwd p).2.2 = 0 := Decidable.not_not.1 h47
   obtain ⟨hpn1, hpn2⟩ := par_ok hpn (by omega) hpo
   refine wl_guard rfl rfl (decide_eq_false h47) ?_
   refine wl_move rfl rfl ?_
   refine wl_guard rfl rfl (decide_eq_false h47) ?_
   refine wl_move rfl rfl ?_
   refine wl_guard rfl rfl (decide_eq_false h47) ?_
   refine wl_eqlS rfl rfl rfl ?_
   refine wl_guard rfl rfl (decide_eq_false h47) ?_
   refine wl_move rfl rfl ?_
   refine wl_splitD 151 rfl (fun h48 => ?_) (fun h48 => ?_)
   ·refine wl_guard rfl rfl (decide_eq_true h48) ?_
    refine wl_move rfl rfl ?_
    refine wl_guard rfl rfl (decide_eq_true h48) ?_
    refine wl_move rfl rfl ?_
    refine wl_guard rfl rfl (decide_eq_true h48) ?_
    refine wl_eql rfl rfl rfl ?_
    refine wl_guard rfl rfl (decide_eq_false h47) ?_
    refine wl_pickT rfl (decide_eq_true h48) rfl rfl ?_
    refine wl_guard rfl rfl (decide_eq_false h47) ?_
    refine wl_move rfl rfl ?_
    refine wl_splitD 156 rfl (fun h49 => ?_) (fun h49 => ?_)
    ·refine wl_guard rfl rfl (decide_eq_true h49) ?_
     refine wl_move rfl rfl ?_
     refine wl_guard rfl rfl (decide_eq_true h49) ?_
     have hC50 := hS45.split [] [false, false] rfl; dsimp only [selF, pickA, nthA, List.cons_append, List.nil_append] at hC50
     refine wl_call cal_13 rfl (name_sp hC50 (parV (groW l) cwd p).2.1 (by omega)) rfl ?_
     rintro e w50 ⟨_, rfl, rfl, hS50⟩; refine ⟨_, rfl, ?_⟩
     replace hS50 := hS50.join rfl; dsimp only [List.dropLast, List.cons_append, List.nil_append] at hS50; clear hC50
     clear hS45
     refine wl_guard rfl rfl (decide_eq_false h47) ?_
     refine wl_pickT rfl (decide_eq_true h49) rfl rfl ?_
     refine wl_guard rfl rfl h46 ?_
     refine wl_pickF rfl (decide_eq_false h47) rfl rfl ?_
     refine wl_pickT rfl h46 rfl rfl ?_
     refine wl_assign rfl rfl (wl_nil (qs_seq ?_))
     refine wc_sub (L' := [(8, _)]) (.cons rfl .nil) ?_
     refine wc_ret ?_
     refine fin1 (.inr rfl) rfl rfl ?_
     exact ⟨_, rfl, by first | rfl | (rw [hpn1]) | simp [*], hS50.pick [1] rfl⟩
    exact absurd (by rw [hpn2]) h49
   exact absurd (by rw [hpn2]) h48
  exact absurd h46 (by simp)
 refine wc_skip (qs_seq ?_)
 refine wc_sub (L' := [(14, _), (13, _), (12, _), (11, _), (10, _), (9, _), (8, _), (1, _), (2, _), (3, _)]) (.cons rfl (.cons rfl (.cons rfl (.cons rfl (.cons rfl (.cons rfl (.cons rfl (.cons rfl (.cons rfl (.cons rfl .nil)))))))))) ?_
 refine wc_seq (wc_region (wl_move rfl rfl ?_))
 refine wl_makeIface nif_25 rfl rfl ?_
 refine wl_move rfl rfl (wl_move rfl rfl ?_)
 refine wl_concat rfl rfl (by first | omega | (simp; omega)) rfl ?_
 refine wl_move rfl rfl ?_
 refine wl_concat rfl rfl (by simp; omega) rfl ?_
 rw [show p ++ [47, 47] ++ q = p ++ 47 :: 47 :: q by simp]
 have hC51 := hS10.split [0] [true, false] rfl; dsimp only [selF, pickA, nthA, List.cons_append, List.nil_append] at hC51
 refine wl_call cal_11 rfl (resolve_sp hC51 (hG.starL 0 rfl) hPg (by decide) cwd (p ++ 47 :: 47 :: q) (by omega) (by simp; omega)) rfl ?_
 rintro e w51 ⟨_, rfl, rfl, hS51⟩; refine ⟨_, rfl, ?_⟩
 replace hS51 := hS51.join rfl; dsimp only [List.dropLast, List.cons_append, List.nil_append] at hS51; clear hC51
 clear hS10
 rw [paths_two hpn hqn (by omega)]
 refine wl_move rfl rfl (wl_extract rfl rfl rfl (wl_extract rfl rfl rfl (wl_assign rfl rfl (wl_assign rfl rfl (wl_nil (qs_seq ?_))))))
 refine wc_sub (L' := [(18, _), (17, _), (14, _), (13, _), (12, _), (11, _), (10, _), (9, _), (8, _), (1, _), (2, _)]) (.cons rfl (.cons rfl (.cons rfl (.cons rfl (.cons rfl (.cons rfl (.cons rfl (.cons rfl (.cons rfl (.cons rfl (.cons rfl .nil))))))))))) ?_
 refine wc_seq (wc_seq (wc_region (wl_move rfl rfl (wl_move rfl rfl ?_))))
 refine wl_neqS rfl rfl rfl ?_
 refine wl_move rfl rfl ?_
 refine wl_splitD 121 rfl (fun h52 => ?_) (fun h52 => ?_)
 ·exact absurd rfl h52
 refine wl_guard rfl rfl (decide_eq_false h52) ?_
 refine wl_move rfl rfl ?_
 refine wl_guard rfl rfl (decide_eq_false h52) ?_
 refine wl_move rfl rfl ?_
 refine wl_guard rfl rfl (decide_eq_false h52) ?_
 refine wl_neq rfl rfl rfl ?_
 refine wl_pickF rfl (decide_eq_false h52) rfl rfl ?_
 refine wl_nil (qs_seq ?_)
 refine wc_sub (L' := [(125, _), (12, _), (11, _), (10, _), (9, _), (8, _), (1, _), (2, _)]) (.cons rfl (.cons rfl (.cons rfl (.cons rfl (.cons rfl (.cons rfl (.cons rfl (.cons rfl .nil)))))))) ?_
 refine wc_condD rfl (fun h53 => ?_) (fun h53 => ?_)
 ·exact absurd rfl h53
 refine wc_skip (qs_seq (wc_seq (wc_region (wl_move rfl rfl ?_))))
 refine wl_makeIface nif_25 rfl rfl ?_
 refine wl_move rfl rfl (wl_move rfl rfl ?_)
 have hC54 := hS51.split [0] [true, false] rfl; dsimp only [selF, pickA, nthA, List.cons_append, List.nil_append] at hC54
 refine wl_call cal_12 rfl (parent_sp hC54 (hG.starL 0 rfl) hPg (by decide) cwd p (by omega) (by omega)) rfl ?_
 rintro e w54 ⟨_, rfl, rfl, hS54⟩; refine ⟨_, rfl, ?_⟩
 replace hS54 := hS54.join rfl; dsimp only [List.dropLast, List.cons_append, List.nil_append] at hS54; clear hC54
 clear hS51
 refine wl_move rfl rfl (wl_extract rfl rfl rfl (wl_extract rfl rfl rfl (wl_extract rfl rfl rfl (wl_assign rfl rfl (wl_assign rfl rfl (wl_assign rfl rfl (wl_nil (qs_seq ?_))))))))
 refine wc_sub (L' := [(21, _), (20, _), (19, _), (12, _), (11, _), (10, _), (9, _), (8, _)]) (.cons rfl (.cons rfl (.cons rfl (.cons rfl (.cons rfl (.cons rfl (.cons rfl (.cons rfl .nil)))))))) ?_
 refine wc_seq (wc_region (wl_move rfl rfl ?_))
 refine wl_makeIface nif_25 rfl rfl ?_
 refine wl_move rfl rfl (wl_move rfl rfl ?_)
 have hC55 := hS54.split [0] [true, false] rfl; dsimp only [selF, pickA, nthA, List.cons_append, List.nil_append] at hC55
 refine wl_call cal_11 rfl (resolve_sp hC55 (hG.starL 0 rfl) hPg (by decide) (parV (groW l) cwd p).1 (parV (groW l) cwd p).2.1 hdl (by omega)) rfl ?_
 rintro e w55 ⟨_, rfl, rfl, hS55⟩; refine ⟨_, rfl, ?_⟩
 replace hS55 := hS55.join rfl; dsimp only [List.dropLast, List.cons_append, List.nil_append] at hS55; clear hC55
 clear hS54
 refine wl_move rfl rfl (wl_extract rfl rfl rfl (wl_extract rfl rfl rfl (wl_assign rfl rfl (wl_assign rfl rfl (wl_nil (qs_seq ?_))))))
 refine wc_sub (L' := [(23, _), (22, _), (21, _), (20, _), (12, _), (11, _), (9, _), (8, _)]) (.cons rfl (.cons rfl (.cons rfl (.cons rfl (.cons rfl (.cons rfl (.cons rfl (.cons rfl .nil)))))))) ?_
 refine wc_seq (wc_region (wl_move rfl rfl (wl_move rfl rfl ?_)))
 refine wl_split 144 rfl (fun h56 => ?_) (fun h56 => ?_)
 ·refine wl_guard rfl rfl h56 ?_
  refine wl_move rfl rfl ?_
  refine wl_guard rfl rfl h56 ?_
  refine wl_neq rfl rfl rfl ?_
  refine wl_guard rfl rfl h56 ?_
  refine wl_move rfl rfl ?_
  refine wl_splitD 147 rfl (fun h57 => ?_) (fun h57 => ?_)
  ·refine wl_unwanted rfl rfl (decide_eq_true h57) rfl ?_
   refine wl_unwanted rfl rfl (decide_eq_true h57) rfl ?_
   refine wl_unwanted rfl rfl (decide_eq_true h57) rfl ?_
   refine wl_unwanted rfl rfl (decide_eq_true h57) rfl ?_
   refine wl_unguarded rfl rfl rfl ?_
   refine wl_unguarded rfl rfl rfl ?_
   refine wl_unguarded rfl rfl rfl ?_
   refine wl_unwanted rfl rfl (decide_eq_true h57) rfl ?_
   refine wl_unwanted rfl rfl (decide_eq_true h57) rfl ?_
   refine wl_unguarded rfl rfl rfl ?_
   refine wl_unguarded rfl rfl rfl ?_
   refine wl_unwanted rfl rfl (decide_eq_true h57) rfl ?_
   refine wl_guard rfl rfl h56 ?_
   refine wl_pickT rfl (decide_eq_true h57) rfl rfl ?_
   refine wl_pickT rfl h56 rfl rfl ?_
   refine wl_assign rfl rfl (wl_nil (qs_seq ?_))
   refine wc_sub (L' := [(8, _)]) (.cons rfl .nil) ?_
   refine wc_ret ?_
   refine fin1 (.inr rfl) rfl rfl ?_
   exact ⟨_, rfl, by first | rfl | (rw [hpn1]) | simp [*], hS55.pick [1] rfl⟩
  have hpo : (parV (groW l) cwd p).2.2 = 0 := Decidable.not_not.1 h57
  obtain ⟨hpn1, hpn2⟩ := par_ok hpn (by omega) hpo
  refine wl_guard rfl rfl (decide_eq_false h57) ?_
  refine wl_move rfl rfl ?_
  refine wl_guard rfl rfl (decide_eq_false h57) ?_
  refine wl_move rfl rfl ?_
  refine wl_guard rfl rfl (decide_eq_false h57) ?_
  refine wl_eqlS rfl rfl rfl ?_
  refine wl_guard rfl rfl (decide_eq_false h57) ?_
  refine wl_move rfl rfl ?_
  refine wl_splitD 151 rfl (fun h58 => ?_) (fun h58 => ?_)
  ·refine wl_guard rfl rfl (decide_eq_true h58) ?_
   refine wl_move rfl rfl ?_
   refine wl_guard rfl rfl (decide_eq_true h58) ?_
   refine wl_move rfl rfl ?_
   refine wl_guard rfl rfl (decide_eq_true h58) ?_
   refine wl_eql rfl rfl rfl ?_
   refine wl_guard rfl rfl (decide_eq_false h57) ?_
   refine wl_pickT rfl (decide_eq_true h58) rfl rfl ?_
   refine wl_guard rfl rfl (decide_eq_false h57) ?_
   refine wl_move rfl rfl ?_
   refine wl_splitD 156 rfl (fun h59 => ?_) (fun h59 => ?_)
   ·refine wl_guard rfl rfl (decide_eq_true h59) ?_
    refine wl_move rfl rfl ?_
    refine wl_guard rfl rfl (decide_eq_true h59) ?_
    have hC60 := hS55.split [] [false, false] rfl; dsimp only [selF, pickA, nthA, List.cons_append, List.nil_append] at hC60
    refine wl_call cal_13 rfl (name_sp hC60 (parV (groW l) cwd p).2.1 (by omega)) rfl ?_
    rintro e w60 ⟨_, rfl, rfl, hS60⟩; refine ⟨_, rfl, ?_⟩
    replace hS60 := hS60.join rfl; dsimp only [List.dropLast, List.cons_append, List.nil_append] at hS60; clear hC60
    clear hS55
    refine wl_guard rfl rfl (decide_eq_false h57) ?_
    refine wl_pickT rfl (decide_eq_true h59) rfl rfl ?_
    refine wl_guard rfl rfl h56 ?_
    refine wl_pickF rfl (decide_eq_false h57) rfl rfl ?_
    refine wl_pickT rfl h56 rfl rfl ?_
    refine wl_assign rfl rfl (wl_nil (qs_seq ?_))
    refine wc_sub (L' := [(8, _)]) (.cons rfl .nil) ?_
    refine wc_ret ?_
    refine fin1 (.inr rfl) rfl rfl ?_
    exact ⟨_, rfl, by first | rfl | (rw [hpn1]) | simp [*], hS60.pick [1] rfl⟩
   exact absurd (by rw [hpn2]) h59
  exact absurd (by rw [hpn2]) h58
 exact absurd h56 (by simp)
end Go.Proofs.YtkaikhcpcbjkcaaGreatDoor
