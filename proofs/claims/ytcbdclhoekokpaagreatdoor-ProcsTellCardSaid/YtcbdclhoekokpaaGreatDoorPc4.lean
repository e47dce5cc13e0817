/- procs: Read -/
import Derived.Test.YtcbdclhoekokpaaGreatDoorPc3
import Derived.Test.YtcbdclhoekokpaaGreatDoorDrs
namespace Go.Proofs.YtcbdclhoekokpaaGreatDoor
open Go.RowKit M
set_option linter.unusedVariables false
/-- the cells of a record that is being read -/
def tc (j : Nat) (n : Int) : Value := if 2 ≤ j ∧ j < 34 ∧ j % 2 = 1 then .bool (decide (n = 1)) else intV n
def pF (H T : List Int) (av fv : Value) (c s : Bs) : List Value := (List.range 19).map (fun j => intV (H.getD j 0)) ++ ([av, fv, strV c] ++ ((List.range 38).map (fun j => tc j (T.getD j 0)) ++ [strV s]))
theorem procV_eq (x : ProcD) (av fv : Value) : procV x av fv = pF x.hs x.ts av fv x.cwd x.shl := by
  unfold procV pF hq tq; rfl
theorem pF_len (H T : List Int) (av fv : Value) (c s : Bs) : (pF H T av fv c s).length = 61 := by simp [pF]
theorem map_set {f : Nat → Value} {n j : Nat} {v : Value} : ((List.range n).map f).set j v = (List.range n).map fun k => if k = j then v else f k := by
  apply List.ext_getElem?
  intro i
  rw [List.getElem?_set]
  by_cases hi : i < n
  · rw [List.getElem?_map, List.getElem?_map, List.getElem?_range hi]
    by_cases e : j = i
    · subst e; simp [hi]
    · simp [e, Ne.symm e]
  · by_cases e : j = i
    · subst e; simp [hi]
    · simp [e, hi]
theorem getD_snoc {l : List Int} {v : Int} {k : Nat} : (l ++ [v]).getD k 0 = if k = l.length then v else l.getD k 0 := by
  rw [List.getD_eq_getElem?_getD, List.getD_eq_getElem?_getD]
  by_cases h : k < l.length
  · rw [List.getElem?_append_left h, if_neg (by omega)]
  · rw [List.getElem?_append_right (by omega)]
    by_cases e : k = l.length
    · subst e; simp
    · rw [if_neg e, List.getElem?_eq_none (by simp; omega), List.getElem?_eq_none (by omega)]
theorem pF_h {H T : List Int} {av fv : Value} {c s : Bs} {v : Int} (h : H.length < 19) : (pF H T av fv c s).set H.length (intV v) = pF (H ++ [v]) T av fv c s := by
  unfold pF
  rw [List.set_append_left _ _ (by simp; omega), map_set]
  congr 1
  refine List.map_congr_left fun k _ => ?_
  rw [getD_snoc]; split <;> rfl
theorem set_right {A B : List Value} {j : Nat} {v : Value} (h : A.length ≤ j) : (A ++ B).set j v = A ++ B.set (j - A.length) v := List.set_append_right _ _ h
theorem pF_av {H T : List Int} {av fv u : Value} {c s : Bs} : (pF H T av fv c s).set 19 u = pF H T u fv c s := by
  unfold pF; rw [set_right (by simp)]; simp
theorem pF_fv {H T : List Int} {av fv u : Value} {c s : Bs} : (pF H T av fv c s).set 20 u = pF H T av u c s := by
  unfold pF; rw [set_right (by simp)]; simp
theorem pF_c {H T : List Int} {av fv : Value} {c s u : Bs} : (pF H T av fv c s).set 21 (strV u) = pF H T av fv u s := by
  unfold pF; rw [set_right (by simp)]; simp
theorem pF_s {H T : List Int} {av fv : Value} {c s u : Bs} : (pF H T av fv c s).set 60 (strV u) = pF H T av fv c u := by
  unfold pF; rw [set_right (by simp), set_right (by simp), set_right (by simp)]; simp
theorem pF_t {H T : List Int} {av fv u : Value} {c s : Bs} {v : Int} {j : Nat} (h : T.length < 38) (hj : j = 22 + T.length) (hu : u = tc T.length v) : (pF H T av fv c s).set j u = pF H (T ++ [v]) av fv c s := by
  subst hj hu
  unfold pF
  rw [set_right (by simp; omega), set_right (by simp; omega), List.set_append_left _ _ (by simp; omega)]
  rw [show 22 + T.length - (List.map (fun j => intV (H.getD j 0)) (List.range 19)).length - [av, fv, strV c].length = T.length by simp; omega, map_set]
  congr 3
  refine List.map_congr_left fun k _ => ?_
  rw [getD_snoc]; split
  · rename_i e; rw [e]
  · rfl
theorem seth : ∀ {vs : List Int} {H T : List Int} {av fv : Value} {c s : Bs}, H.length + vs.length ≤ 19 → setI (pF H T av fv c s) (List.range' H.length vs.length) vs = pF (H ++ vs) T av fv c s
  | [], H, T, av, fv, c, s, _ => by simp [setI]
  | v :: vs, H, T, av, fv, c, s, h => by
    rw [List.length_cons] at h ⊢
    rw [List.range'_succ]
    show setI ((pF H T av fv c s).set H.length (intV v)) _ vs = _
    rw [pF_h (by omega)]
    have := seth (vs := vs) (H := H ++ [v]) (T := T) (av := av) (fv := fv) (c := c) (s := s) (by simp; omega)
    rw [show (H ++ [v]).length = H.length + 1 by simp] at this
    rw [this]; simp
theorem sett : ∀ {vs : List Int} {H T : List Int} {av fv : Value} {c s : Bs}, T.length + vs.length ≤ 38 → (∀ k, T.length ≤ k → k < T.length + vs.length → (k < 2 ∨ k % 2 = 0 ∨ 34 ≤ k)) → setI (pF H T av fv c s) (List.range' (22 + T.length) vs.length) vs = pF H (T ++ vs) av fv c s
  | [], H, T, av, fv, c, s, _, _ => by simp [setI]
  | v :: vs, H, T, av, fv, c, s, h, hk => by
    rw [List.length_cons] at h hk ⊢
    rw [List.range'_succ]
    show setI ((pF H T av fv c s).set (22 + T.length) (intV v)) _ vs = _
    rw [pF_t (v := v) (by omega) rfl (by unfold tc; rw [if_neg]; have := hk T.length (by omega) (by omega); omega)]
    have := sett (vs := vs) (H := H) (T := T ++ [v]) (av := av) (fv := fv) (c := c) (s := s) (by simp; omega) (fun k h1 h2 => hk k (by simp at h1; omega) (by simp at h2; omega))
    rw [show (T ++ [v]).length = T.length + 1 by simp, show 22 + (T.length + 1) = 22 + T.length + 1 by omega] at this
    rw [this]; simp
theorem intsV_one (z : St) : intsV 1 z = [iV z] := by rw [intsV_succ, intsV_zero, intsR_zero]; rfl
theorem intsR_one (z : St) : intsR 1 z = iR z := by rw [intsR_succ, intsR_zero]
/-- one group of numbers read into the head -/
theorem grpH {z : St} {a n : Nat} {os : List Nat} {T : List Int} {av fv : Value} {c s : Bs} (ho : os = List.range' a n) (h : a + n ≤ 19) : setI (pF (intsV a z) T av fv c s) os (intsV os.length (intsR a z)) = pF (intsV (a + n) z) T av fv c s ∧ intsR os.length (intsR a z) = intsR (a + n) z := by
  subst ho
  rw [List.length_range', intsV_add, intsR_add]
  have := seth (vs := intsV n (intsR a z)) (H := intsV a z) (T := T) (av := av) (fv := fv) (c := c) (s := s) (by rw [intsV_len, intsV_len]; exact h)
  rw [intsV_len, intsV_len] at this
  exact ⟨this, rfl⟩
/-- one group of numbers read into the tail -/
theorem grpT {z : St} {a n : Nat} {os : List Nat} {H : List Int} {av fv : Value} {c s : Bs} (ho : os = List.range' (22 + a) n) (h : a + n ≤ 38) (hk : ∀ k, a ≤ k → k < a + n → (k < 2 ∨ k % 2 = 0 ∨ 34 ≤ k)) : setI (pF H (intsV a z) av fv c s) os (intsV os.length (intsR a z)) = pF H (intsV (a + n) z) av fv c s ∧ intsR os.length (intsR a z) = intsR (a + n) z := by
  subst ho
  rw [List.length_range', intsV_add, intsR_add]
  have := sett (vs := intsV n (intsR a z)) (H := H) (T := intsV a z) (av := av) (fv := fv) (c := c) (s := s) (by rw [intsV_len, intsV_len]; exact h) (by rw [intsV_len, intsV_len]; exact hk)
  rw [intsV_len, intsV_len] at this
  exact ⟨this, rfl⟩
theorem flgT {z : St} {a i j : Nat} {H : List Int} {av fv : Value} {c s : Bs} (ha : a = 3 + 2 * i) (hi : i < 16) (hj : j = 22 + a) : (pF H (intsV a z) av fv c s).set j (.bool (decide (iV (intsR a z) = 1))) = pF H (intsV (a + 1) z) av fv c s := by
  rw [intsV_succ]
  refine pF_t (by rw [intsV_len]; omega) (by rw [intsV_len]; exact hj) ?_
  rw [intsV_len]
  unfold tc; rw [if_pos (by omega)]
def flI (i : Nat) (z : St) : Bool := (List.range i).all fun j => fl01 (iV (intsR (3 + 2 * j) z))
theorem flI_succ (i : Nat) (z : St) : flI (i + 1) z = (flI i z && fl01 (iV (intsR (3 + 2 * i) z))) := by simp [flI, List.range_succ]
theorem intsV_get {n j : Nat} {z : St} (h : j < n) : (intsV n z)[j]? = some (iV (intsR j z)) := by
  unfold intsV; rw [List.getElem?_map, List.getElem?_range h]; rfl
theorem flI_ok (z : St) : flagsOk (intsV 38 z) = flI 16 z := by
  unfold flagsOk flI
  rw [Bool.eq_iff_iff, List.all_eq_true, List.all_eq_true]
  constructor
  · intro h j hj
    have := h j hj
    rw [intsV_get (by have := List.mem_range.1 hj; omega)] at this
    exact this
  · intro h j hj
    rw [intsV_get (by have := List.mem_range.1 hj; omega)]
    exact h j hj
theorem arSt_succ (k : Nat) (s : St) : arSt (k + 1) s = arR (arSt k s) := by simp only [arSt]
theorem arSt_zero (s : St) : arSt 0 s = s := by simp only [arSt]
theorem arsV_zero (s : St) : arsV 0 s = [] := by simp only [arsV]; rfl
theorem arR_dec {s : St} (h : s.1 ≠ []) : (arR s).1.length + 1 ≤ s.1.length := by
  have h1 : (iR s).1.length + 1 ≤ s.1.length := by
    unfold iR numR
    cases hp : numP 59 imin s.1 with
    | none => simp; exact List.length_pos_iff.2 h
    | some x => obtain ⟨n, r⟩ := x; have := numP_len hp; simp; omega
  have h2 : (arR s).1.length ≤ (iR s).1.length := by
    unfold arR
    exact Nat.le_trans (iR_len _) (Nat.le_trans (iR_len _) (Nat.le_trans (iR_len _) (Nat.le_trans (txtR_len _) (iR_len _))))
  omega
theorem ars_few {s : St} : ∀ (k : Nat), (∀ j, j < k → (arSt j s).1 ≠ []) → k + (arSt k s).1.length ≤ s.1.length
  | 0, _ => by rw [arSt_zero]; omega
  | k + 1, h => by
    have h1 := ars_few k fun j hj => h j (by omega)
    have h2 := arR_dec (h k (by omega))
    rw [arSt_succ]; omega
def zeroP : ProcD := ⟨[], [], [], [], [], []⟩
theorem blk_cast {w : World} {As : List Th} (h : Sat w As) (i : Nat) {b : Nat} {cs cs' : List Value} (hi : As[i]? = some (blkT b cs)) (e : cs = cs') : Sat w (As.set i (blkT b cs')) := by
  subst e
  have : As.set i (blkT b cs) = As := by
    apply List.ext_getElem?
    intro j
    rw [List.getElem?_set]
    split
    · rename_i e; subst e
      split
      · exact hi.symm
      · rename_i hl; rw [List.getElem?_eq_none (by omega)] at hi; cases hi
    · rfl
  rw [this]; exact h
theorem okO_eq (s : Bs) (k m : Nat) : okO s k m = ((!(r8 s k m).2 && decide ((r8 s k m).1 = [])) && (arsF k (r2 s) && flI 16 (r6 s k m)) && decide ((k : Int) = nOf s)) := by
  unfold okO; rw [flI_ok]; simp only [Bool.and_assoc]
theorem not_t {b : Bool} (h : (!b) = true) : b = false := by cases b <;> simp_all
theorem not_f {b : Bool} (h : (!b) = false) : b = true := by cases b <;> simp_all
theorem pF_one {H T : List Int} {av fv : Value} {c s : Bs} (h1 : av.oneCell' = true) (h2 : fv.oneCell' = true) : allOne (pF H T av fv c s) = true := by
  have ht : ∀ j n, (tc j n).oneCell' = true := fun j n => by unfold tc; split <;> rfl
  simp only [pF, allOne, List.all_append, List.all_cons, List.all_nil, List.all_map, Bool.and_true, Bool.and_eq_true, List.all_eq_true]
  refine ⟨fun j _ => rfl, ⟨h1, h2, rfl⟩, fun j _ => ht _ _, rfl⟩
theorem cut_len (e : UInt8) (s : St) : (cutV e s).1.length ≤ s.1.length := by
  obtain ⟨l, b⟩ := s
  cases l with
  | nil => simp [cutV]
  | cons c l => simp only [cutV]; split <;> simp
set_option maxRecDepth 100000 in
set_option maxHeartbeats 4000000 in
theorem readP_sp {w : World} {F : Th} (hS : Sat w [F]) (hG : Ent F WireG) (s : Bs) (hs : s.length ≤ 1000000) :
    Calls Tryz.prog 21 #[strV s] w (Ret fun v w' => ∃ av fv, v = .tuple #[.agg (procV ((decP s).getD zeroP) av fv).toArray, .bool (decP s).isSome] ∧ Sat w' [rowT arC av ((decP s).getD zeroP).ar, rowT stC fv ((decP s).getD zeroP).fds, F]) := by
  refine calls_enter Tryz.func21 rfl Tryz.ntmps21 rfl ?_
  refine wc_seq ?_
  refine wc_region ?_
  refine wl_alloc hS zr_38 rfl rfl ?_
  intro br w1 hS1
  replace hS1 := blk_cast hS1 0 (cs' := pF [] [] (.slice none 0 0) (.slice none 0 0) [] []) rfl rfl
  refine wl_assign rfl rfl ?_
  refine wl_nil ?_
  refine qs_seq ?_
  refine wc_seq ?_
  refine wc_region ?_
  refine wl_move rfl rfl ?_
  have hC2 := hS1.split [] [false, false] rfl; dsimp only [selF, pickA, nthA, List.cons_append, List.nil_append] at hC2
  refine wl_call cal_52 rfl (wOpen_sp hC2 s) rfl ?_
  rintro e w2 ⟨_, rfl, rb, rfl, hS2⟩; refine ⟨_, rfl, ?_⟩
  replace hS2 := hS2.join rfl; dsimp only [List.dropLast, List.cons_append, List.nil_append] at hS2; clear hC2
  clear hS1
  refine wl_alloc hS2 zr_90 rfl rfl ?_
  intro q4 w3 hS3
  clear hS2
  first | (refine wl_store hS3 rfl rfl sz_90 (by first | rfl | assumption) (i := 0) rfl (by first | decide | exact Nat.le_of_ble_eq_true rfl | (simp; done) | omega) ?_) | (refine wl_store hS3 rfl rfl sz_90 (by first | rfl | assumption) (i := 2) rfl (by first | decide | exact Nat.le_of_ble_eq_true rfl | (simp; done) | omega) ?_)
  intro w4 hS5; dsimp only [List.set] at hS5
  clear hS3
  refine wl_nil ?_
  refine qs_seq ?_
  refine wc_seq ?_
  refine wc_region ?_
  refine wl_alloc hS5 zr_4 rfl rfl ?_
  intro q5 w6 hS6
  clear hS5
  first | (refine wl_store hS6 rfl rfl sz_4 (by first | rfl | assumption) (i := 0) rfl (by first | decide | exact Nat.le_of_ble_eq_true rfl | (simp; done) | omega) ?_) | (refine wl_store hS6 rfl rfl sz_4 (by first | rfl | assumption) (i := 1) rfl (by first | decide | exact Nat.le_of_ble_eq_true rfl | (simp; done) | omega) ?_) | (refine wl_store hS6 rfl rfl sz_4 (by first | rfl | assumption) (i := 3) rfl (by first | decide | exact Nat.le_of_ble_eq_true rfl | (simp; done) | omega) ?_)
  intro w7 hS8; dsimp only [List.set] at hS8
  clear hS6
  refine wl_nil ?_
  refine qs_seq ?_
  refine wc_seq ?_
  refine wc_region ?_
  refine wl_alloc hS8 zr_38 rfl rfl ?_
  intro bp w9 hS9
  clear hS8
  replace hS9 := blk_cast hS9 0 (cs' := pF [] [] (.slice none 0 0) (.slice none 0 0) [] []) rfl rfl
  refine wl_nil ?_
  refine qs_seq ?_
  refine wc_seq ?_
  refine wc_region ?_
  refine wl_makeFunc rfl rfl ?_
  refine wl_assign rfl rfl ?_
  refine wl_nil ?_
  refine qs_seq ?_
  refine wc_seq ?_
  refine wc_region ?_
  refine wl_makeFunc rfl rfl ?_
  refine wl_assign rfl rfl ?_
  refine wl_nil ?_
  refine qs_seq ?_
  refine wc_sub (L' := [(8, _), (7, _), (6, _), (5, _), (4, _), (3, _), (2, _)]) (.cons rfl (.cons rfl (.cons rfl (.cons rfl (.cons rfl (.cons rfl (.cons rfl .nil))))))) ?_
  refine wc_seq ?_
  have hz0 : intsR 0 (s, false) = (s, false) := intsR_zero _
  have hv0 : intsV 0 (s, false) = [] := intsV_zero _
  have hS0 : Sat _ _ := hS9
  refine wc_region ?_
  refine wl_move rfl rfl ?_
  refine wl_fieldAddr rfl fo_38_0 rfl ?_
  refine wl_fieldAddr rfl fo_38_1 rfl ?_
  refine wl_fieldAddr rfl fo_38_2 rfl ?_
  refine wl_fieldAddr rfl fo_38_3 rfl ?_
  refine wl_fieldAddr rfl fo_38_4 rfl ?_
  refine wl_fieldAddr rfl fo_38_5 rfl ?_
  refine wl_fieldAddr rfl fo_38_6 rfl ?_
  refine wl_fieldAddr rfl fo_38_7 rfl ?_
  refine wl_fieldAddr rfl fo_38_8 rfl ?_
  refine wl_fieldAddr rfl fo_38_9 rfl ?_
  refine wl_ptrsBuild bp [0, 1, 2, 3, 4, 5, 6, 7, 8, 9] hS9 rfl rfl Tryz.underlying92 ifz_93 rfl rfl rfl rfl ?_
  intro b10 w10 hS10
  clear hS9
  have hC11 := hS10.split [4, 3, 1] [false, true, false, true, true, false, false] rfl; dsimp only [selF, pickA, nthA, List.cons_append, List.nil_append] at hC11
  refine wl_callV rfl cal_53 rfl (rints_sp hC11 (hG.starL 3 rfl) (Ent.starL (ent_row (C := ptC bp) (l := [0, 1, 2, 3, 4, 5, 6, 7, 8, 9]) (by simp)) 0 rfl) (by intro o ho; rw [pF_len]; simp at ho ⊢; omega) (by simp) (by first | omega | (simp; omega))) rfl ?_
  rintro e w11 ⟨_, rfl, rfl, hS11⟩; refine ⟨_, rfl, ?_⟩
  replace hS11 := hS11.join rfl; dsimp only [List.dropLast, List.cons_append, List.nil_append] at hS11; clear hC11
  clear hS10
  have hg := grpH (z := (s, false)) (a := 0) (n := 10) (os := [0, 1, 2, 3, 4, 5, 6, 7, 8, 9]) (T := []) (av := (.slice none 0 0)) (fv := (.slice none 0 0)) (c := []) (s := []) rfl (by omega)
  rw [hz0, hv0] at hg
  rw [hg.1, hg.2] at hS11
  refine wl_nil ?_
  refine qs_seq ?_
  refine wc_sub (L' := [(8, _), (7, _), (6, _), (5, _), (4, _), (3, _), (2, _)]) (.cons rfl (.cons rfl (.cons rfl (.cons rfl (.cons rfl (.cons rfl (.cons rfl .nil))))))) ?_
  refine wc_seq ?_
  refine wc_seq ?_
  refine wc_region ?_
  refine wl_move rfl rfl ?_
  refine wl_nil ?_
  refine qs_seq ?_
  refine wc_block ?_
  refine wc_loop (fun K0 E0 W0 => ∃ (i : Nat), K0 = 8 - i ∧ E0 = [(2, ptrV br 0), (4, ptrV q4 0), (5, ptrV q5 0), (6, ptrV bp 0), (7, .func (.func 53) #[] #[ptrV q4 0]), (8, .func (.func 55) #[] #[ptrV q5 0]), (30, intV (i : Int))] ∧ Sat W0 [readT rb (intsR (10 + i) (s, false)), blkT q4 [ptrV rb 0], blkT q5 [.bool true], blkT bp (pF (intsV (10 + i) (s, false)) [] (.slice none 0 0) (.slice none 0 0) [] []), blkT br (pF [] [] (.slice none 0 0) (.slice none 0 0) [] []), F] ∧ (i ≤ 8)) (L0 := [(2, _), (4, _), (5, _), (6, _), (7, _), (8, _), (30, _)]) (8 - 0) (.cons rfl (.cons rfl (.cons rfl (.cons rfl (.cons rfl (.cons rfl (.cons rfl .nil))))))) ⟨0, rfl, rfl, hS11.pick [0, 1, 4, 2, 5, 6] rfl, by omega⟩ ?_
  rintro _ _ w12 ⟨i, rfl, rfl, hS12, hi⟩
  have hrl := intsR_len (10 + i) (s, false)
  dsimp only at hrl
  refine wc_seq ?_
  refine wc_region ?_
  refine wl_lss rfl rfl rfl ?_
  refine wl_nil ?_
  refine qs_seq ?_
  refine wc_seq ?_
  refine wc_condD rfl (fun h13 => ?_) (fun h13 => ?_)
  · skip
    refine wc_skip ?_
    refine qs_seq ?_
    refine wc_seq ?_
    refine wc_block ?_
    refine wc_seq ?_
    refine wc_region ?_
    refine wl_move rfl rfl ?_
    refine wl_assign rfl rfl ?_
    refine wl_nil ?_
    refine qs_seq ?_
    refine wc_region ?_
    refine wl_move rfl rfl ?_
    refine wl_move rfl rfl ?_
    refine wl_fieldAddr rfl fo_38_10 rfl ?_
    refine wl_fieldAddr rfl fo_29_0 rfl ?_
    refine wl_indexAddrA _ Tryz.underlying27 rfl rfl (by first | rfl | omega) (by first | omega | (simp; omega)) sz_3 rfl ?_
    refine wl_ptrsBuild bp [10 + i * 1] hS12 rfl rfl Tryz.underlying92 ifz_93 rfl rfl rfl rfl ?_
    intro b14 w14 hS14
    clear hS12
    have hC15 := hS14.split [1, 2, 4] [false, true, true, false, true, false, false] rfl; dsimp only [selF, pickA, nthA, List.cons_append, List.nil_append] at hC15
    refine wl_callV rfl cal_53 rfl (rints_sp hC15 (hG.starL 3 rfl) (Ent.starL (ent_row (C := ptC bp) (l := [10 + i * 1]) (by simp)) 0 rfl) (by intro o ho; rw [pF_len]; simp at ho ⊢; omega) (by simp) (by first | omega | (simp; omega))) rfl ?_
    rintro e w15 ⟨_, rfl, rfl, hS15⟩; refine ⟨_, rfl, ?_⟩
    replace hS15 := hS15.join rfl; dsimp only [List.dropLast, List.cons_append, List.nil_append] at hS15; clear hC15
    clear hS14
    rw [show 10 + i * 1 = 10 + i by omega] at hS15
    have hg := grpH (z := (s, false)) (a := (10 + i)) (n := 1) (os := [10 + i]) (T := []) (av := (.slice none 0 0)) (fv := (.slice none 0 0)) (c := []) (s := []) (by simp [List.range'] <;> omega) (by omega)
    rw [hg.1, hg.2] at hS15
    refine wl_nil ?_
    refine qs_block_normal ?_
    refine qs_seq ?_
    refine wc_sub (L' := [(2, _), (4, _), (5, _), (6, _), (7, _), (8, _), (30, _)]) (.cons rfl (.cons rfl (.cons rfl (.cons rfl (.cons rfl (.cons rfl (.cons rfl .nil))))))) ?_
    refine wc_region ?_
    refine wl_add rfl rfl (by first | omega | (simp; omega)) (by first | omega | (simp; omega)) rfl ?_
    refine wl_move rfl rfl ?_
    refine wl_nil ?_
    exact qs_round (L1 := [(2, _), (4, _), (5, _), (6, _), (7, _), (8, _), (30, intV ((i + 1 : Nat) : Int))]) (.cons rfl (.cons rfl (.cons rfl (.cons rfl (.cons rfl (.cons rfl (.cons rfl .nil))))))) (k1 := 8 - (i + 1)) (by omega) ⟨i + 1, rfl, rfl, hS15.pick [0, 1, 4, 2, 5, 6] rfl, by omega⟩
  refine wc_exit ?_
  refine qs_then_exit ?_
  refine qs_then_exit ?_
  refine qs_block_exit ?_
  refine qs_seq ?_
  refine wc_seq ?_
  have hi8 : 10 + i = 18 := by omega
  rw [hi8] at hS12 hrl
  refine wc_region ?_
  refine wl_move rfl rfl ?_
  refine wl_fieldAddr rfl fo_38_10 rfl ?_
  refine wl_fieldAddr rfl fo_29_1 rfl ?_
  refine wl_ptrsBuild bp [18] hS12 rfl rfl Tryz.underlying92 ifz_93 rfl rfl rfl rfl ?_
  intro b16 w16 hS16
  clear hS12
  have hC17 := hS16.split [1, 2, 4] [false, true, true, false, true, false, false] rfl; dsimp only [selF, pickA, nthA, List.cons_append, List.nil_append] at hC17
  refine wl_callV rfl cal_53 rfl (rints_sp hC17 (hG.starL 3 rfl) (Ent.starL (ent_row (C := ptC bp) (l := [18]) (by simp)) 0 rfl) (by intro o ho; rw [pF_len]; simp at ho ⊢; omega) (by simp) (by first | omega | (simp; omega))) rfl ?_
  rintro e w17 ⟨_, rfl, rfl, hS17⟩; refine ⟨_, rfl, ?_⟩
  replace hS17 := hS17.join rfl; dsimp only [List.dropLast, List.cons_append, List.nil_append] at hS17; clear hC17
  clear hS16
  have hgg := grpH (z := (s, false)) (a := 18) (n := 1) (os := [18]) (T := []) (av := (.slice none 0 0)) (fv := (.slice none 0 0)) (c := []) (s := []) rfl (by omega)
  rw [hgg.1, hgg.2, show 18 + 1 = 19 from rfl] at hS17
  have hr19 := intsR_len 19 (s, false)
  dsimp only at hr19
  have hn0 : 0 ≤ nOf s := numV_nn 59 _
  refine wl_nil ?_
  refine qs_seq ?_
  refine wc_sub (L' := [(2, _), (4, _), (5, _), (6, _), (7, _), (8, _)]) (.cons rfl (.cons rfl (.cons rfl (.cons rfl (.cons rfl (.cons rfl .nil)))))) ?_
  refine wc_seq ?_
  refine wc_region ?_
  refine wl_load rfl ag_90 (hS17.cell 1 (o := 0) rfl rfl) rfl ?_
  have hC18 := hS17.split [0] [true, false, false, false, false, false, false] rfl; dsimp only [selF, pickA, nthA, List.cons_append, List.nil_append] at hC18
  refine wl_call cal_56 rfl (rNum_sp hC18 (hG.starL 5 rfl) (by omega)) rfl ?_
  rintro e w18 ⟨_, rfl, rfl, hS18⟩; refine ⟨_, rfl, ?_⟩
  replace hS18 := hS18.join rfl; dsimp only [List.dropLast, List.cons_append, List.nil_append] at hS18; clear hC18
  clear hS17
  rw [show numV 59 0 (intsR 19 (s, false)) = nOf s from rfl]
  rw [show numR 59 0 (intsR 19 (s, false)) = r2 s from rfl] at hS18
  refine wl_assign rfl rfl ?_
  refine wl_nil ?_
  refine qs_seq ?_
  refine wc_seq ?_
  refine wc_block ?_
  refine wc_loop (fun K0 E0 W0 => ∃ (k : Nat) (av : Value), K0 = (nOf s).toNat - k ∧ E0 = [(2, ptrV br 0), (4, ptrV q4 0), (5, ptrV q5 0), (6, ptrV bp 0), (7, .func (.func 53) #[] #[ptrV q4 0]), (8, .func (.func 55) #[] #[ptrV q5 0]), (10, intV (nOf s))] ∧ Sat W0 [readT rb (arSt k (r2 s)), blkT q4 [ptrV rb 0], blkT q5 [.bool (arsF k (r2 s))], blkT bp (pF (intsV 19 (s, false)) [] av (.slice none 0 0) [] []), rowT arC av (arsV k (r2 s)), blkT br (pF [] [] (.slice none 0 0) (.slice none 0 0) [] []), F] ∧ ((k : Int) ≤ nOf s) ∧ (∀ j, j < k → (arSt j (r2 s)).1 ≠ [])) (L0 := [(2, _), (4, _), (5, _), (6, _), (7, _), (8, _), (10, _)]) ((nOf s).toNat - 0) (.cons rfl (.cons rfl (.cons rfl (.cons rfl (.cons rfl (.cons rfl (.cons rfl .nil))))))) ⟨0, _, rfl, rfl, (by rw [arSt_zero, arsV_zero, show arsF 0 (r2 s) = true from rfl]; exact (hS18.row_nil arC).pick [1, 2, 5, 3, 0, 6, 7] rfl), by omega, by omega⟩ ?_
  rintro _ _ w19 ⟨k, av, rfl, rfl, hS19, hk, hgd⟩
  have hfw := ars_few k hgd
  have hr2 : (r2 s).1.length ≤ s.length := Nat.le_trans (numR_len _ _ _) (intsR_len 19 (s, false))
  have hal := arsV_len k (r2 s)
  have h1av : av.oneCell' = true := hS19.own_one 4 rfl
  have hnv : inI (nOf s) := numV_in 59 0 (intsR 19 (s, false))
  unfold inI at hnv
  refine wc_seq ?_
  refine wc_seq ?_
  refine wc_region ?_
  refine wl_fieldAddr rfl fo_38_11 rfl ?_
  refine wl_load rfl ag_30 (hS19.cell 3 (o := 19) rfl rfl) rfl ?_
  first | refine wl_lenL Tryz.underlying30 rfl rfl ?_ | refine wl_lenO 4 hS19 Tryz.underlying30 rfl rfl rfl ?_
  refine wl_move rfl rfl ?_
  refine wl_lss rfl rfl rfl ?_
  refine wl_move rfl rfl ?_
  refine wl_splitD 53 rfl (fun h20 => ?_) (fun h20 => ?_)
  · skip
    refine wl_guard rfl rfl (decide_eq_true h20) ?_
    refine wl_load rfl ag_90 (hS19.cell 1 (o := 0) rfl rfl) rfl ?_
    refine wl_guard rfl rfl (decide_eq_true h20) ?_
    have hC21 := hS19.split [0] [true, false, false, false, false, false, false] rfl; dsimp only [selF, pickA, nthA, List.cons_append, List.nil_append] at hC21
    refine wl_call cal_57 rfl (rLeft_sp hC21) rfl ?_
    rintro e w21 ⟨_, rfl, rfl, hS21⟩; refine ⟨_, rfl, ?_⟩
    replace hS21 := hS21.join rfl; dsimp only [List.dropLast, List.cons_append, List.nil_append] at hS21; clear hC21
    clear hS19
    refine wl_guard rfl rfl (decide_eq_true h20) ?_
    refine wl_gtr rfl rfl rfl ?_
    refine wl_pickT rfl (decide_eq_true h20) rfl rfl ?_
    refine wl_nil ?_
    refine qs_seq ?_
    refine wc_sub (L' := [(57, _), (2, _), (4, _), (5, _), (6, _), (7, _), (8, _), (10, _)]) (.cons rfl (.cons rfl (.cons rfl (.cons rfl (.cons rfl (.cons rfl (.cons rfl (.cons rfl .nil)))))))) ?_
    refine wc_condD rfl (fun h22 => ?_) (fun h22 => ?_)
    · skip
      refine wc_skip ?_
      refine qs_seq ?_
      refine wc_block ?_
      refine wc_mid (fun E0 W0 => ∃ (ba : Nat), E0 = [(2, ptrV br 0), (4, ptrV q4 0), (5, ptrV q5 0), (6, ptrV bp 0), (7, .func (.func 53) #[] #[ptrV q4 0]), (8, .func (.func 55) #[] #[ptrV q5 0]), (10, intV (nOf s)), (11, ptrV ba 0)] ∧ Sat W0 [readT rb (txtR (iR (iR (arSt k (r2 s))))), blkT q4 [ptrV rb 0], blkT q5 [.bool (arsF k (r2 s))], blkT bp (pF (intsV 19 (s, false)) [] av (.slice none 0 0) [] []), rowT arC av (arsV k (r2 s)), blkT ba [intV (iV (arSt k (r2 s))), intV (iV (iR (arSt k (r2 s)))), strV (txtV (iR (iR (arSt k (r2 s))))), intV 0, .bool false, .bool false], blkT br (pF [] [] (.slice none 0 0) (.slice none 0 0) [] []), F] ∧ ((arSt k (r2 s)).1 ≠ [])) ?_ ?_
      · skip
        have hne : (arSt k (r2 s)).1 ≠ [] := by intro q; have h9 : (0 : Int) < ((arSt k (r2 s)).1.length : Int) := (by assumption); rw [q] at h9; simp at h9
        have hS24 := hS21.drew
        refine wc_draws mix ?_
        refine dr_split 1 7 rfl ?_ ?_
        · skip
          refine dr_split 3 7 rfl ?_ ?_
          · skip
            refine dr_split 5 7 rfl ?_ ?_
            · skip
              refine dr_vc (sp := [1, 3, 5, 7, 8]) [0, 2, 4, 1, 3, 5, 6, 7, 8] (by kernel_rfl) ?_
              refine vc_q rfl rfl rfl (ev_load rfl ag_90 (by first | assumption | exact hS24.cell 1 rfl rfl | exact hS24.cell 2 rfl rfl | exact hS24.cell 3 rfl rfl | exact hS24.cell 5 rfl rfl)) ?_
              refine vc_q rfl rfl rfl (ev_load rfl ag_90 (by first | assumption | exact hS24.cell 1 rfl rfl | exact hS24.cell 2 rfl rfl | exact hS24.cell 3 rfl rfl | exact hS24.cell 5 rfl rfl)) ?_
              refine vc_q rfl rfl rfl (ev_load rfl ag_90 (by first | assumption | exact hS24.cell 1 rfl rfl | exact hS24.cell 2 rfl rfl | exact hS24.cell 3 rfl rfl | exact hS24.cell 5 rfl rfl)) ?_
              refine vc_s rfl rfl rfl rfl rfl rfl ?_
              have hC25 := hS24.split [0] [true, false, false, false, false, false, false] rfl; dsimp only [selF, pickA, nthA, List.cons_append, List.nil_append] at hC25
              refine wl_call cal_54 rfl (rInt_sp hC25 (hG.starL 5 rfl) (by first | omega | (simp; omega))) rfl ?_
              rintro e w25 ⟨_, rfl, rfl, hS25⟩; refine ⟨_, rfl, ?_⟩
              replace hS25 := hS25.join rfl; dsimp only [List.dropLast, List.cons_append, List.nil_append] at hS25; clear hC25
              clear hS24
              rw [iV_eq]
              rw [iR_eq] at hS25
              have hil0 := iR_len (arSt k (r2 s))
              refine vc_e (.cons (.inl ⟨rfl, (ev_load rfl ag_90 (by first | assumption | exact hS25.cell 1 rfl rfl | exact hS25.cell 2 rfl rfl | exact hS25.cell 3 rfl rfl | exact hS25.cell 5 rfl rfl))⟩) (.cons (.inl ⟨rfl, (ev_load rfl ag_90 (by first | assumption | exact hS25.cell 1 rfl rfl | exact hS25.cell 2 rfl rfl | exact hS25.cell 3 rfl rfl | exact hS25.cell 5 rfl rfl))⟩) (.skip (by kernel_rfl) .nil))) ?_
              refine vc_s rfl rfl rfl rfl rfl rfl ?_
              have hC26 := hS25.split [0] [true, false, false, false, false, false, false] rfl; dsimp only [selF, pickA, nthA, List.cons_append, List.nil_append] at hC26
              refine wl_call cal_54 rfl (rInt_sp hC26 (hG.starL 5 rfl) (by first | omega | (simp; omega))) rfl ?_
              rintro e w26 ⟨_, rfl, rfl, hS26⟩; refine ⟨_, rfl, ?_⟩
              replace hS26 := hS26.join rfl; dsimp only [List.dropLast, List.cons_append, List.nil_append] at hS26; clear hC26
              clear hS25
              rw [iV_eq]
              rw [iR_eq] at hS26
              have hil1 := iR_len (iR (arSt k (r2 s)))
              refine vc_e (.cons (.inl ⟨rfl, (ev_load rfl ag_90 (by first | assumption | exact hS26.cell 1 rfl rfl | exact hS26.cell 2 rfl rfl | exact hS26.cell 3 rfl rfl | exact hS26.cell 5 rfl rfl))⟩) (.skip (by kernel_rfl) (.skip (by kernel_rfl) .nil))) ?_
              refine vc_s rfl rfl rfl rfl rfl rfl ?_
              have hC27 := hS26.split [0] [true, false, false, false, false, false, false] rfl; dsimp only [selF, pickA, nthA, List.cons_append, List.nil_append] at hC27
              refine wl_call cal_58 rfl (rText_sp hC27 (hG.starL 5 rfl) (by first | omega | (simp; omega))) rfl ?_
              rintro e w27 ⟨_, rfl, rfl, hS27⟩; refine ⟨_, rfl, ?_⟩
              replace hS27 := hS27.join rfl; dsimp only [List.dropLast, List.cons_append, List.nil_append] at hS27; clear hC27
              clear hS26
              have htl26 := txtR_len (iR (iR (arSt k (r2 s))))
              refine vc_e (.skip (by kernel_rfl) (.skip (by kernel_rfl) (.skip (by kernel_rfl) .nil))) ?_
              refine vc_p rfl rfl rfl (fun _ => (ev_buildS rfl pl_89_0_1_2 asz_89 zr_89 rfl)) ?_
              refine vc_s rfl rfl rfl rfl rfl rfl ?_
              refine wl_alloc hS27 zr_89 rfl rfl ?_
              intro ba w28 hS28
              clear hS27
              refine vc_e (.skip (by kernel_rfl) (.skip (by kernel_rfl) (.skip (by kernel_rfl) .nil))) ?_
              refine vc_s rfl rfl rfl rfl rfl rfl ?_
              first | (refine wl_storeA hS28 rfl rfl sz_89 rfl (by first | rfl | (simp [allOne, Value.oneCell']; done) | assumption | exact hone) (i := 0) rfl (by first | decide | exact Nat.le_of_ble_eq_true rfl | (simp; done) | omega) ?_) | (refine wl_storeA hS28 rfl rfl sz_89 rfl (by first | rfl | (simp [allOne, Value.oneCell']; done) | assumption | exact hone) (i := 2) rfl (by first | decide | exact Nat.le_of_ble_eq_true rfl | (simp; done) | omega) ?_) | (refine wl_storeA hS28 rfl rfl sz_89 rfl (by first | rfl | (simp [allOne, Value.oneCell']; done) | assumption | exact hone) (i := 3) rfl (by first | decide | exact Nat.le_of_ble_eq_true rfl | (simp; done) | omega) ?_) | (refine wl_storeA hS28 rfl rfl sz_89 rfl (by first | rfl | (simp [allOne, Value.oneCell']; done) | assumption | exact hone) (i := 4) rfl (by first | decide | exact Nat.le_of_ble_eq_true rfl | (simp; done) | omega) ?_) | (refine wl_storeA hS28 rfl rfl sz_89 rfl (by first | rfl | (simp [allOne, Value.oneCell']; done) | assumption | exact hone) (i := 6) rfl (by first | decide | exact Nat.le_of_ble_eq_true rfl | (simp; done) | omega) ?_)
              intro w29 hS30; dsimp only [List.set] at hS30
              clear hS28
              refine vc_e0 (.skip (by kernel_rfl) (.skip (by kernel_rfl) (.skip (by kernel_rfl) .nil))) ?_
              refine VC.nil ?_
              have hba : Sat w29 _ := hS30.pick [1, 2, 3, 4, 5, 0, 6, 7] rfl
              exact qs_mid (.cons rfl (.cons rfl (.cons rfl (.cons rfl (.cons rfl (.cons rfl (.cons rfl (.cons rfl .nil)))))))) ⟨_, rfl, hba, hne⟩
            refine dr_vc (sp := [1, 3, 5, 7, 8]) [0, 2, 4, 1, 3, 7, 5, 6, 8] (by kernel_rfl) ?_
            refine vc_q rfl rfl rfl (ev_load rfl ag_90 (by first | assumption | exact hS24.cell 1 rfl rfl | exact hS24.cell 2 rfl rfl | exact hS24.cell 3 rfl rfl | exact hS24.cell 5 rfl rfl)) ?_
            refine vc_q rfl rfl rfl (ev_load rfl ag_90 (by first | assumption | exact hS24.cell 1 rfl rfl | exact hS24.cell 2 rfl rfl | exact hS24.cell 3 rfl rfl | exact hS24.cell 5 rfl rfl)) ?_
            refine vc_q rfl rfl rfl (ev_load rfl ag_90 (by first | assumption | exact hS24.cell 1 rfl rfl | exact hS24.cell 2 rfl rfl | exact hS24.cell 3 rfl rfl | exact hS24.cell 5 rfl rfl)) ?_
            refine vc_s rfl rfl rfl rfl rfl rfl ?_
            have hC31 := hS24.split [0] [true, false, false, false, false, false, false] rfl; dsimp only [selF, pickA, nthA, List.cons_append, List.nil_append] at hC31
            refine wl_call cal_54 rfl (rInt_sp hC31 (hG.starL 5 rfl) (by first | omega | (simp; omega))) rfl ?_
            rintro e w31 ⟨_, rfl, rfl, hS31⟩; refine ⟨_, rfl, ?_⟩
            replace hS31 := hS31.join rfl; dsimp only [List.dropLast, List.cons_append, List.nil_append] at hS31; clear hC31
            clear hS24
            rw [iV_eq]
            rw [iR_eq] at hS31
            have hil0 := iR_len (arSt k (r2 s))
            refine vc_e (.cons (.inl ⟨rfl, (ev_load rfl ag_90 (by first | assumption | exact hS31.cell 1 rfl rfl | exact hS31.cell 2 rfl rfl | exact hS31.cell 3 rfl rfl | exact hS31.cell 5 rfl rfl))⟩) (.cons (.inl ⟨rfl, (ev_load rfl ag_90 (by first | assumption | exact hS31.cell 1 rfl rfl | exact hS31.cell 2 rfl rfl | exact hS31.cell 3 rfl rfl | exact hS31.cell 5 rfl rfl))⟩) (.skip (by kernel_rfl) .nil))) ?_
            refine vc_s rfl rfl rfl rfl rfl rfl ?_
            have hC32 := hS31.split [0] [true, false, false, false, false, false, false] rfl; dsimp only [selF, pickA, nthA, List.cons_append, List.nil_append] at hC32
            refine wl_call cal_54 rfl (rInt_sp hC32 (hG.starL 5 rfl) (by first | omega | (simp; omega))) rfl ?_
            rintro e w32 ⟨_, rfl, rfl, hS32⟩; refine ⟨_, rfl, ?_⟩
            replace hS32 := hS32.join rfl; dsimp only [List.dropLast, List.cons_append, List.nil_append] at hS32; clear hC32
            clear hS31
            rw [iV_eq]
            rw [iR_eq] at hS32
            have hil1 := iR_len (iR (arSt k (r2 s)))
            refine vc_e (.cons (.inl ⟨rfl, (ev_load rfl ag_90 (by first | assumption | exact hS32.cell 1 rfl rfl | exact hS32.cell 2 rfl rfl | exact hS32.cell 3 rfl rfl | exact hS32.cell 5 rfl rfl))⟩) (.skip (by kernel_rfl) (.skip (by kernel_rfl) .nil))) ?_
            refine vc_s rfl rfl rfl rfl rfl rfl ?_
            refine wl_alloc hS32 zr_89 rfl rfl ?_
            intro ba w33 hS33
            clear hS32
            refine vc_e (.cons (.inl ⟨rfl, (ev_load rfl ag_90 (by first | assumption | exact hS33.cell 0 rfl rfl | exact hS33.cell 2 rfl rfl | exact hS33.cell 3 rfl rfl | exact hS33.cell 4 rfl rfl | exact hS33.cell 6 rfl rfl))⟩) (.skip (by kernel_rfl) (.skip (by kernel_rfl) .nil))) ?_
            refine vc_s rfl rfl rfl rfl rfl rfl ?_
            have hC34 := hS33.split [1] [false, true, false, false, false, false, false, false] rfl; dsimp only [selF, pickA, nthA, List.cons_append, List.nil_append] at hC34
            refine wl_call cal_58 rfl (rText_sp hC34 (hG.starL 6 rfl) (by first | omega | (simp; omega))) rfl ?_
            rintro e w34 ⟨_, rfl, rfl, hS34⟩; refine ⟨_, rfl, ?_⟩
            replace hS34 := hS34.join rfl; dsimp only [List.dropLast, List.cons_append, List.nil_append] at hS34; clear hC34
            clear hS33
            have htl33 := txtR_len (iR (iR (arSt k (r2 s))))
            refine vc_e (.skip (by kernel_rfl) (.skip (by kernel_rfl) (.skip (by kernel_rfl) .nil))) ?_
            refine vc_p rfl rfl rfl (fun _ => (ev_buildS rfl pl_89_0_1_2 asz_89 zr_89 rfl)) ?_
            refine vc_s rfl rfl rfl rfl rfl rfl ?_
            first | (refine wl_storeA hS34 rfl rfl sz_89 rfl (by first | rfl | (simp [allOne, Value.oneCell']; done) | assumption | exact hone) (i := 1) rfl (by first | decide | exact Nat.le_of_ble_eq_true rfl | (simp; done) | omega) ?_) | (refine wl_storeA hS34 rfl rfl sz_89 rfl (by first | rfl | (simp [allOne, Value.oneCell']; done) | assumption | exact hone) (i := 2) rfl (by first | decide | exact Nat.le_of_ble_eq_true rfl | (simp; done) | omega) ?_) | (refine wl_storeA hS34 rfl rfl sz_89 rfl (by first | rfl | (simp [allOne, Value.oneCell']; done) | assumption | exact hone) (i := 3) rfl (by first | decide | exact Nat.le_of_ble_eq_true rfl | (simp; done) | omega) ?_) | (refine wl_storeA hS34 rfl rfl sz_89 rfl (by first | rfl | (simp [allOne, Value.oneCell']; done) | assumption | exact hone) (i := 4) rfl (by first | decide | exact Nat.le_of_ble_eq_true rfl | (simp; done) | omega) ?_) | (refine wl_storeA hS34 rfl rfl sz_89 rfl (by first | rfl | (simp [allOne, Value.oneCell']; done) | assumption | exact hone) (i := 6) rfl (by first | decide | exact Nat.le_of_ble_eq_true rfl | (simp; done) | omega) ?_)
            intro w35 hS36; dsimp only [List.set] at hS36
            clear hS34
            refine vc_e0 (.skip (by kernel_rfl) (.skip (by kernel_rfl) (.skip (by kernel_rfl) .nil))) ?_
            refine VC.nil ?_
            have hba : Sat w35 _ := hS36.pick [0, 2, 3, 4, 5, 1, 6, 7] rfl
            exact qs_mid (.cons rfl (.cons rfl (.cons rfl (.cons rfl (.cons rfl (.cons rfl (.cons rfl (.cons rfl .nil)))))))) ⟨_, rfl, hba, hne⟩
          refine dr_vc (sp := [1, 3, 5, 7, 8]) [0, 2, 4, 1, 7, 3, 5, 6, 8] (by kernel_rfl) ?_
          refine vc_q rfl rfl rfl (ev_load rfl ag_90 (by first | assumption | exact hS24.cell 1 rfl rfl | exact hS24.cell 2 rfl rfl | exact hS24.cell 3 rfl rfl | exact hS24.cell 5 rfl rfl)) ?_
          refine vc_q rfl rfl rfl (ev_load rfl ag_90 (by first | assumption | exact hS24.cell 1 rfl rfl | exact hS24.cell 2 rfl rfl | exact hS24.cell 3 rfl rfl | exact hS24.cell 5 rfl rfl)) ?_
          refine vc_q rfl rfl rfl (ev_load rfl ag_90 (by first | assumption | exact hS24.cell 1 rfl rfl | exact hS24.cell 2 rfl rfl | exact hS24.cell 3 rfl rfl | exact hS24.cell 5 rfl rfl)) ?_
          refine vc_s rfl rfl rfl rfl rfl rfl ?_
          have hC37 := hS24.split [0] [true, false, false, false, false, false, false] rfl; dsimp only [selF, pickA, nthA, List.cons_append, List.nil_append] at hC37
          refine wl_call cal_54 rfl (rInt_sp hC37 (hG.starL 5 rfl) (by first | omega | (simp; omega))) rfl ?_
          rintro e w37 ⟨_, rfl, rfl, hS37⟩; refine ⟨_, rfl, ?_⟩
          replace hS37 := hS37.join rfl; dsimp only [List.dropLast, List.cons_append, List.nil_append] at hS37; clear hC37
          clear hS24
          rw [iV_eq]
          rw [iR_eq] at hS37
          have hil0 := iR_len (arSt k (r2 s))
          refine vc_e (.cons (.inl ⟨rfl, (ev_load rfl ag_90 (by first | assumption | exact hS37.cell 1 rfl rfl | exact hS37.cell 2 rfl rfl | exact hS37.cell 3 rfl rfl | exact hS37.cell 5 rfl rfl))⟩) (.cons (.inl ⟨rfl, (ev_load rfl ag_90 (by first | assumption | exact hS37.cell 1 rfl rfl | exact hS37.cell 2 rfl rfl | exact hS37.cell 3 rfl rfl | exact hS37.cell 5 rfl rfl))⟩) (.skip (by kernel_rfl) .nil))) ?_
          refine vc_s rfl rfl rfl rfl rfl rfl ?_
          refine wl_alloc hS37 zr_89 rfl rfl ?_
          intro ba w38 hS38
          clear hS37
          refine vc_e (.cons (.inl ⟨rfl, (ev_load rfl ag_90 (by first | assumption | exact hS38.cell 0 rfl rfl | exact hS38.cell 2 rfl rfl | exact hS38.cell 3 rfl rfl | exact hS38.cell 4 rfl rfl | exact hS38.cell 6 rfl rfl))⟩) (.cons (.inl ⟨rfl, (ev_load rfl ag_90 (by first | assumption | exact hS38.cell 0 rfl rfl | exact hS38.cell 2 rfl rfl | exact hS38.cell 3 rfl rfl | exact hS38.cell 4 rfl rfl | exact hS38.cell 6 rfl rfl))⟩) (.skip (by kernel_rfl) .nil))) ?_
          refine vc_s rfl rfl rfl rfl rfl rfl ?_
          have hC39 := hS38.split [1] [false, true, false, false, false, false, false, false] rfl; dsimp only [selF, pickA, nthA, List.cons_append, List.nil_append] at hC39
          refine wl_call cal_54 rfl (rInt_sp hC39 (hG.starL 6 rfl) (by first | omega | (simp; omega))) rfl ?_
          rintro e w39 ⟨_, rfl, rfl, hS39⟩; refine ⟨_, rfl, ?_⟩
          replace hS39 := hS39.join rfl; dsimp only [List.dropLast, List.cons_append, List.nil_append] at hS39; clear hC39
          clear hS38
          rw [iV_eq]
          rw [iR_eq] at hS39
          have hil1 := iR_len (iR (arSt k (r2 s)))
          refine vc_e (.cons (.inl ⟨rfl, (ev_load rfl ag_90 (by first | assumption | exact hS39.cell 1 rfl rfl | exact hS39.cell 2 rfl rfl | exact hS39.cell 3 rfl rfl | exact hS39.cell 4 rfl rfl | exact hS39.cell 6 rfl rfl))⟩) (.skip (by kernel_rfl) (.skip (by kernel_rfl) .nil))) ?_
          refine vc_s rfl rfl rfl rfl rfl rfl ?_
          have hC40 := hS39.split [0] [true, false, false, false, false, false, false, false] rfl; dsimp only [selF, pickA, nthA, List.cons_append, List.nil_append] at hC40
          refine wl_call cal_58 rfl (rText_sp hC40 (hG.starL 6 rfl) (by first | omega | (simp; omega))) rfl ?_
          rintro e w40 ⟨_, rfl, rfl, hS40⟩; refine ⟨_, rfl, ?_⟩
          replace hS40 := hS40.join rfl; dsimp only [List.dropLast, List.cons_append, List.nil_append] at hS40; clear hC40
          clear hS39
          have htl39 := txtR_len (iR (iR (arSt k (r2 s))))
          refine vc_e (.skip (by kernel_rfl) (.skip (by kernel_rfl) (.skip (by kernel_rfl) .nil))) ?_
          refine vc_p rfl rfl rfl (fun _ => (ev_buildS rfl pl_89_0_1_2 asz_89 zr_89 rfl)) ?_
          refine vc_s rfl rfl rfl rfl rfl rfl ?_
          first | (refine wl_storeA hS40 rfl rfl sz_89 rfl (by first | rfl | (simp [allOne, Value.oneCell']; done) | assumption | exact hone) (i := 1) rfl (by first | decide | exact Nat.le_of_ble_eq_true rfl | (simp; done) | omega) ?_) | (refine wl_storeA hS40 rfl rfl sz_89 rfl (by first | rfl | (simp [allOne, Value.oneCell']; done) | assumption | exact hone) (i := 2) rfl (by first | decide | exact Nat.le_of_ble_eq_true rfl | (simp; done) | omega) ?_) | (refine wl_storeA hS40 rfl rfl sz_89 rfl (by first | rfl | (simp [allOne, Value.oneCell']; done) | assumption | exact hone) (i := 3) rfl (by first | decide | exact Nat.le_of_ble_eq_true rfl | (simp; done) | omega) ?_) | (refine wl_storeA hS40 rfl rfl sz_89 rfl (by first | rfl | (simp [allOne, Value.oneCell']; done) | assumption | exact hone) (i := 4) rfl (by first | decide | exact Nat.le_of_ble_eq_true rfl | (simp; done) | omega) ?_) | (refine wl_storeA hS40 rfl rfl sz_89 rfl (by first | rfl | (simp [allOne, Value.oneCell']; done) | assumption | exact hone) (i := 6) rfl (by first | decide | exact Nat.le_of_ble_eq_true rfl | (simp; done) | omega) ?_)
          intro w41 hS42; dsimp only [List.set] at hS42
          clear hS40
          refine vc_e0 (.skip (by kernel_rfl) (.skip (by kernel_rfl) (.skip (by kernel_rfl) .nil))) ?_
          refine VC.nil ?_
          have hba : Sat w41 _ := hS42.pick [0, 2, 3, 4, 5, 1, 6, 7] rfl
          exact qs_mid (.cons rfl (.cons rfl (.cons rfl (.cons rfl (.cons rfl (.cons rfl (.cons rfl (.cons rfl .nil)))))))) ⟨_, rfl, hba, hne⟩
        refine dr_vc (sp := [1, 3, 5, 7, 8]) [0, 2, 4, 7, 1, 3, 5, 6, 8] (by kernel_rfl) ?_
        refine vc_q rfl rfl rfl (ev_load rfl ag_90 (by first | assumption | exact hS24.cell 1 rfl rfl | exact hS24.cell 2 rfl rfl | exact hS24.cell 3 rfl rfl | exact hS24.cell 5 rfl rfl)) ?_
        refine vc_q rfl rfl rfl (ev_load rfl ag_90 (by first | assumption | exact hS24.cell 1 rfl rfl | exact hS24.cell 2 rfl rfl | exact hS24.cell 3 rfl rfl | exact hS24.cell 5 rfl rfl)) ?_
        refine vc_q rfl rfl rfl (ev_load rfl ag_90 (by first | assumption | exact hS24.cell 1 rfl rfl | exact hS24.cell 2 rfl rfl | exact hS24.cell 3 rfl rfl | exact hS24.cell 5 rfl rfl)) ?_
        refine vc_s rfl rfl rfl rfl rfl rfl ?_
        refine wl_alloc hS24 zr_89 rfl rfl ?_
        intro ba w43 hS43
        clear hS24
        refine vc_e (.cons (.inl ⟨rfl, (ev_load rfl ag_90 (by first | assumption | exact hS43.cell 0 rfl rfl | exact hS43.cell 2 rfl rfl | exact hS43.cell 3 rfl rfl | exact hS43.cell 4 rfl rfl | exact hS43.cell 6 rfl rfl))⟩) (.cons (.inl ⟨rfl, (ev_load rfl ag_90 (by first | assumption | exact hS43.cell 0 rfl rfl | exact hS43.cell 2 rfl rfl | exact hS43.cell 3 rfl rfl | exact hS43.cell 4 rfl rfl | exact hS43.cell 6 rfl rfl))⟩) (.cons (.inl ⟨rfl, (ev_load rfl ag_90 (by first | assumption | exact hS43.cell 0 rfl rfl | exact hS43.cell 2 rfl rfl | exact hS43.cell 3 rfl rfl | exact hS43.cell 4 rfl rfl | exact hS43.cell 6 rfl rfl))⟩) .nil))) ?_
        refine vc_s rfl rfl rfl rfl rfl rfl ?_
        have hC44 := hS43.split [1] [false, true, false, false, false, false, false, false] rfl; dsimp only [selF, pickA, nthA, List.cons_append, List.nil_append] at hC44
        refine wl_call cal_54 rfl (rInt_sp hC44 (hG.starL 6 rfl) (by first | omega | (simp; omega))) rfl ?_
        rintro e w44 ⟨_, rfl, rfl, hS44⟩; refine ⟨_, rfl, ?_⟩
        replace hS44 := hS44.join rfl; dsimp only [List.dropLast, List.cons_append, List.nil_append] at hS44; clear hC44
        clear hS43
        rw [iV_eq]
        rw [iR_eq] at hS44
        have hil0 := iR_len (arSt k (r2 s))
        refine vc_e (.cons (.inl ⟨rfl, (ev_load rfl ag_90 (by first | assumption | exact hS44.cell 1 rfl rfl | exact hS44.cell 2 rfl rfl | exact hS44.cell 3 rfl rfl | exact hS44.cell 4 rfl rfl | exact hS44.cell 6 rfl rfl))⟩) (.cons (.inl ⟨rfl, (ev_load rfl ag_90 (by first | assumption | exact hS44.cell 1 rfl rfl | exact hS44.cell 2 rfl rfl | exact hS44.cell 3 rfl rfl | exact hS44.cell 4 rfl rfl | exact hS44.cell 6 rfl rfl))⟩) (.skip (by kernel_rfl) .nil))) ?_
        refine vc_s rfl rfl rfl rfl rfl rfl ?_
        have hC45 := hS44.split [0] [true, false, false, false, false, false, false, false] rfl; dsimp only [selF, pickA, nthA, List.cons_append, List.nil_append] at hC45
        refine wl_call cal_54 rfl (rInt_sp hC45 (hG.starL 6 rfl) (by first | omega | (simp; omega))) rfl ?_
        rintro e w45 ⟨_, rfl, rfl, hS45⟩; refine ⟨_, rfl, ?_⟩
        replace hS45 := hS45.join rfl; dsimp only [List.dropLast, List.cons_append, List.nil_append] at hS45; clear hC45
        clear hS44
        rw [iV_eq]
        rw [iR_eq] at hS45
        have hil1 := iR_len (iR (arSt k (r2 s)))
        refine vc_e (.cons (.inl ⟨rfl, (ev_load rfl ag_90 (by first | assumption | exact hS45.cell 1 rfl rfl | exact hS45.cell 2 rfl rfl | exact hS45.cell 3 rfl rfl | exact hS45.cell 4 rfl rfl | exact hS45.cell 6 rfl rfl))⟩) (.skip (by kernel_rfl) (.skip (by kernel_rfl) .nil))) ?_
        refine vc_s rfl rfl rfl rfl rfl rfl ?_
        have hC46 := hS45.split [0] [true, false, false, false, false, false, false, false] rfl; dsimp only [selF, pickA, nthA, List.cons_append, List.nil_append] at hC46
        refine wl_call cal_58 rfl (rText_sp hC46 (hG.starL 6 rfl) (by first | omega | (simp; omega))) rfl ?_
        rintro e w46 ⟨_, rfl, rfl, hS46⟩; refine ⟨_, rfl, ?_⟩
        replace hS46 := hS46.join rfl; dsimp only [List.dropLast, List.cons_append, List.nil_append] at hS46; clear hC46
        clear hS45
        have htl45 := txtR_len (iR (iR (arSt k (r2 s))))
        refine vc_e (.skip (by kernel_rfl) (.skip (by kernel_rfl) (.skip (by kernel_rfl) .nil))) ?_
        refine vc_p rfl rfl rfl (fun _ => (ev_buildS rfl pl_89_0_1_2 asz_89 zr_89 rfl)) ?_
        refine vc_s rfl rfl rfl rfl rfl rfl ?_
        first | (refine wl_storeA hS46 rfl rfl sz_89 rfl (by first | rfl | (simp [allOne, Value.oneCell']; done) | assumption | exact hone) (i := 1) rfl (by first | decide | exact Nat.le_of_ble_eq_true rfl | (simp; done) | omega) ?_) | (refine wl_storeA hS46 rfl rfl sz_89 rfl (by first | rfl | (simp [allOne, Value.oneCell']; done) | assumption | exact hone) (i := 2) rfl (by first | decide | exact Nat.le_of_ble_eq_true rfl | (simp; done) | omega) ?_) | (refine wl_storeA hS46 rfl rfl sz_89 rfl (by first | rfl | (simp [allOne, Value.oneCell']; done) | assumption | exact hone) (i := 3) rfl (by first | decide | exact Nat.le_of_ble_eq_true rfl | (simp; done) | omega) ?_) | (refine wl_storeA hS46 rfl rfl sz_89 rfl (by first | rfl | (simp [allOne, Value.oneCell']; done) | assumption | exact hone) (i := 4) rfl (by first | decide | exact Nat.le_of_ble_eq_true rfl | (simp; done) | omega) ?_) | (refine wl_storeA hS46 rfl rfl sz_89 rfl (by first | rfl | (simp [allOne, Value.oneCell']; done) | assumption | exact hone) (i := 6) rfl (by first | decide | exact Nat.le_of_ble_eq_true rfl | (simp; done) | omega) ?_)
        intro w47 hS48; dsimp only [List.set] at hS48
        clear hS46
        refine vc_e0 (.skip (by kernel_rfl) (.skip (by kernel_rfl) (.skip (by kernel_rfl) .nil))) ?_
        refine VC.nil ?_
        have hba : Sat w47 _ := hS48.pick [0, 2, 3, 4, 5, 1, 6, 7] rfl
        exact qs_mid (.cons rfl (.cons rfl (.cons rfl (.cons rfl (.cons rfl (.cons rfl (.cons rfl (.cons rfl .nil)))))))) ⟨_, rfl, hba, hne⟩
      rintro _ w23 ⟨ba, rfl, hS23, hne⟩
      have hil7 := iR_len (txtR (iR (iR (arSt k (r2 s)))))
      have htl7 := txtR_len (iR (iR (arSt k (r2 s))))
      have hil8 := iR_len (arSt k (r2 s))
      have hil9 := iR_len (iR (arSt k (r2 s)))
      refine wc_seq ?_
      refine wc_region ?_
      refine wl_move rfl rfl ?_
      refine wl_fieldAddr rfl fo_89_3 rfl ?_
      refine wl_ptrsBuild ba [3] hS23 rfl rfl Tryz.underlying92 ifz_93 rfl rfl rfl rfl ?_
      intro b49 w49 hS49
      clear hS23
      have hC50 := hS49.split [1, 2, 6] [false, true, true, false, false, false, true, false, false] rfl; dsimp only [selF, pickA, nthA, List.cons_append, List.nil_append] at hC50
      refine wl_callV rfl cal_53 rfl (rints_sp hC50 (hG.starL 5 rfl) (Ent.starL (ent_row (C := ptC ba) (l := [3]) (by simp)) 0 rfl) (by intro o ho; simp at ho ⊢; omega) (by simp) (by first | omega | (simp; omega))) rfl ?_
      rintro e w50 ⟨_, rfl, rfl, hS50⟩; refine ⟨_, rfl, ?_⟩
      replace hS50 := hS50.join rfl; dsimp only [List.dropLast, List.cons_append, List.nil_append] at hS50; clear hC50
      clear hS49
      rw [show ([3] : List Nat).length = 1 from rfl, intsV_one, intsR_one] at hS50
      dsimp only [setI, List.set] at hS50
      have hil6 := iR_len (iR (txtR (iR (iR (arSt k (r2 s))))))
      refine wl_nil ?_
      refine qs_seq ?_
      refine wc_sub (L' := [(2, _), (4, _), (5, _), (6, _), (7, _), (8, _), (10, _), (11, _)]) (.cons rfl (.cons rfl (.cons rfl (.cons rfl (.cons rfl (.cons rfl (.cons rfl (.cons rfl .nil)))))))) ?_
      refine wc_seq ?_
      have hS51 := hS50.drew
      refine wc_draw [0, 1, 2, 4, 5, 6, 3, 7, 8, 9, 10, 11] [3, 7, 9, 11] mix (by kernel_rfl) ?_
      refine vc_p rfl rfl rfl (fun _ => (ev_move rfl)) ?_
      refine vc_q rfl rfl rfl (ev_load rfl ag_90 (by first | assumption | exact hS51.cell 1 rfl rfl | exact hS51.cell 2 rfl rfl | exact hS51.cell 4 rfl rfl | exact hS51.cell 5 rfl rfl | exact hS51.cell 7 rfl rfl)) ?_
      refine vc_p rfl rfl rfl (fun _ => (ev_makeBound rfl)) ?_
      refine vc_p rfl rfl rfl (fun _ => (ev_move rfl)) ?_
      refine vc_q rfl rfl rfl (ev_load rfl ag_90 (by first | assumption | exact hS51.cell 1 rfl rfl | exact hS51.cell 2 rfl rfl | exact hS51.cell 4 rfl rfl | exact hS51.cell 5 rfl rfl | exact hS51.cell 7 rfl rfl)) ?_
      refine vc_p rfl rfl rfl (fun _ => (ev_makeBound rfl)) ?_
      refine vc_s rfl rfl rfl rfl rfl rfl ?_
      have hC52 := hS51.split [0, 4] [true, false, false, false, true, false, false, false, false] rfl; dsimp only [selF, pickA, nthA, List.cons_append, List.nil_append] at hC52
      refine wl_callV rfl cal_55 rfl (rflag_sp hC52 (hG.starL 6 rfl) (by first | omega | (simp; omega))) rfl ?_
      rintro e w52 ⟨_, rfl, rfl, hS52⟩; refine ⟨_, rfl, ?_⟩
      replace hS52 := hS52.join rfl; dsimp only [List.dropLast, List.cons_append, List.nil_append] at hS52; clear hC52
      clear hS51
      refine vc_e (.cons (.inl ⟨rfl, (ev_load rfl ag_90 (by first | assumption | exact hS52.cell 1 rfl rfl | exact hS52.cell 2 rfl rfl | exact hS52.cell 3 rfl rfl | exact hS52.cell 5 rfl rfl | exact hS52.cell 7 rfl rfl))⟩) (.skip (by kernel_rfl) .nil)) ?_
      refine vc_s rfl rfl rfl rfl rfl rfl ?_
      have hC53 := hS52.split [0, 1] [true, true, false, false, false, false, false, false, false] rfl; dsimp only [selF, pickA, nthA, List.cons_append, List.nil_append] at hC53
      refine wl_callV rfl cal_55 rfl (rflag_sp hC53 (hG.starL 6 rfl) (by first | omega | (simp; omega))) rfl ?_
      rintro e w53 ⟨_, rfl, rfl, hS53⟩; refine ⟨_, rfl, ?_⟩
      replace hS53 := hS53.join rfl; dsimp only [List.dropLast, List.cons_append, List.nil_append] at hS53; clear hC53
      clear hS52
      refine vc_e (.skip (by kernel_rfl) (.skip (by kernel_rfl) .nil)) ?_
      refine vc_p rfl rfl rfl (fun _ => (ev_fieldAddr rfl fo_89_4)) ?_
      refine vc_s rfl rfl rfl rfl rfl rfl ?_
      first | (refine wl_store hS53 rfl rfl sz_4 (by first | rfl | assumption | exact hS53.own_one 4 rfl | exact hS53.own_one 6 rfl) (i := 1) rfl (by first | decide | exact Nat.le_of_ble_eq_true rfl | (simp; done) | omega) ?_) | (refine wl_store hS53 rfl rfl sz_4 (by first | rfl | assumption | exact hS53.own_one 4 rfl | exact hS53.own_one 6 rfl) (i := 2) rfl (by first | decide | exact Nat.le_of_ble_eq_true rfl | (simp; done) | omega) ?_) | (refine wl_store hS53 rfl rfl sz_4 (by first | rfl | assumption | exact hS53.own_one 4 rfl | exact hS53.own_one 6 rfl) (i := 3) rfl (by first | decide | exact Nat.le_of_ble_eq_true rfl | (simp; done) | omega) ?_) | (refine wl_store hS53 rfl rfl sz_4 (by first | rfl | assumption | exact hS53.own_one 4 rfl | exact hS53.own_one 6 rfl) (i := 5) rfl (by first | decide | exact Nat.le_of_ble_eq_true rfl | (simp; done) | omega) ?_) | (refine wl_store hS53 rfl rfl sz_4 (by first | rfl | assumption | exact hS53.own_one 4 rfl | exact hS53.own_one 6 rfl) (i := 7) rfl (by first | decide | exact Nat.le_of_ble_eq_true rfl | (simp; done) | omega) ?_)
      intro w54 hS55; dsimp only [List.set] at hS55
      clear hS53
      refine vc_e0 (.skip (by kernel_rfl) (.skip (by kernel_rfl) .nil)) ?_
      refine vc_p rfl rfl rfl (fun _ => (ev_fieldAddr rfl fo_89_5)) ?_
      refine vc_s rfl rfl rfl rfl rfl rfl ?_
      first | (refine wl_store hS55 rfl rfl sz_4 (by first | rfl | assumption | exact hS55.own_one 4 rfl | exact hS55.own_one 6 rfl) (i := 1) rfl (by first | decide | exact Nat.le_of_ble_eq_true rfl | (simp; done) | omega) ?_) | (refine wl_store hS55 rfl rfl sz_4 (by first | rfl | assumption | exact hS55.own_one 4 rfl | exact hS55.own_one 6 rfl) (i := 2) rfl (by first | decide | exact Nat.le_of_ble_eq_true rfl | (simp; done) | omega) ?_) | (refine wl_store hS55 rfl rfl sz_4 (by first | rfl | assumption | exact hS55.own_one 4 rfl | exact hS55.own_one 6 rfl) (i := 3) rfl (by first | decide | exact Nat.le_of_ble_eq_true rfl | (simp; done) | omega) ?_) | (refine wl_store hS55 rfl rfl sz_4 (by first | rfl | assumption | exact hS55.own_one 4 rfl | exact hS55.own_one 6 rfl) (i := 5) rfl (by first | decide | exact Nat.le_of_ble_eq_true rfl | (simp; done) | omega) ?_) | (refine wl_store hS55 rfl rfl sz_4 (by first | rfl | assumption | exact hS55.own_one 4 rfl | exact hS55.own_one 6 rfl) (i := 7) rfl (by first | decide | exact Nat.le_of_ble_eq_true rfl | (simp; done) | omega) ?_)
      intro w56 hS57; dsimp only [List.set] at hS57
      clear hS55
      refine vc_e0 (.skip (by kernel_rfl) (.skip (by kernel_rfl) .nil)) ?_
      refine VC.nil ?_
      refine qs_seq ?_
      refine wc_sub (L' := [(2, _), (4, _), (5, _), (6, _), (7, _), (8, _), (10, _), (11, _)]) (.cons rfl (.cons rfl (.cons rfl (.cons rfl (.cons rfl (.cons rfl (.cons rfl (.cons rfl .nil)))))))) ?_
      refine wc_region ?_
      refine wl_fieldAddr rfl fo_38_11 rfl ?_
      refine wl_load rfl ag_30 (hS57.cell 5 (o := 19) rfl rfl) rfl ?_
      refine wl_loadA rfl ag_89 sz_89 (by first | exact hS57.blk 1 rfl | exact hS57.blk 2 rfl | exact hS57.blk 3 rfl | exact hS57.blk 5 rfl | exact hS57.blk 7 rfl) (by first | decide | exact Nat.le_of_ble_eq_true rfl | (simp; done) | omega) rfl rfl ?_
      refine wl_rowBuild arC [arV (arSt k (r2 s))] hS57 rfl Tryz.underlying30 ifz_89 rfl rfl rfl rfl (by first | rfl | simp [RowC.cells, fillL, splice]) rfl ?_
      intro b58 w58 hS58
      clear hS57
      refine wl_rowApp arC 7 hS58 rfl rfl rfl (hS58.rd 0 rfl (by simp)) Tryz.underlying30 Tryz.underlying30 (by intro k hk; cases hk) ifo_89 rfl (by simp only [List.length_cons, List.length_nil]; omega) rfl (by simp only [List.length_cons, List.length_nil]; omega) ?_
      intro v59 w59 hS59; dsimp only [List.set] at hS59
      clear hS58
      have h1v59 : v59.oneCell' = true := hS59.own_one 7 rfl
      refine wl_fieldAddr rfl fo_38_11 rfl ?_
      refine wl_store hS59 rfl rfl sz_30 (by first | rfl | assumption | exact hS59.own_one 0 rfl | exact hS59.own_one 5 rfl | exact hS59.own_one 7 rfl) (i := 6) rfl (by rw [pF_len]; omega) ?_
      intro w60 hS60; dsimp only [List.set] at hS60
      clear hS59
      rw [pF_av] at hS60
      refine wl_nil ?_
      refine qs_block_normal ?_
      have hFF : arsF (k + 1) (r2 s) = (arsF k (r2 s) && fl01 (iV (iR (txtR (iR (iR (arSt k (r2 s))))))) && fl01 (iV (iR (iR (txtR (iR (iR (arSt k (r2 s))))))))) := by rw [arsF_succ, Bool.and_assoc]; rfl
      exact qs_round (L1 := [(2, _), (4, _), (5, _), (6, _), (7, _), (8, _), (10, _)]) (.cons rfl (.cons rfl (.cons rfl (.cons rfl (.cons rfl (.cons rfl (.cons rfl .nil))))))) (k1 := (nOf s).toNat - (k + 1)) (by omega) ⟨k + 1, _, rfl, rfl, (by rw [arsV_succ, arSt_succ, hFF]; exact hS60.pick [1, 3, 2, 6, 7, 8, 9] rfl), by omega, fun j hj => by by_cases e : j = k; (subst e; exact hne); exact hgd j (by omega)⟩
    refine wc_exit ?_
    refine qs_then_exit ?_
    refine qs_then_exit ?_
    refine qs_block_exit ?_
    refine qs_seq ?_
    refine wc_seq ?_
    have hAE : ArEnd (nOf s) (r2 s) k := ⟨hk, hgd, by by_cases q : (k : Int) = nOf s; exact .inl q; exact .inr (by have h7 : ¬ (k : Int) < nOf s ∨ ¬ (0 : Int) < ((arSt k (r2 s)).1.length : Int) := (by first | (left; omega) | (right; assumption)); rcases h7 with h7 | h7; omega; exact List.length_eq_zero_iff.1 (by omega))⟩
    rw [show (arSt k (r2 s)) = r3 s k from rfl] at hS21
    have hl3 : (r3 s k).1.length ≤ s.length := Nat.le_trans (arSt_len k (r2 s)) hr2
    have hS61 := hS21.drew
    refine wc_draw [0, 2, 1, 3, 4, 5, 6, 7] [1, 3, 5, 7] mix (by kernel_rfl) ?_
    refine vc_q rfl rfl rfl (ev_load rfl ag_90 (by first | assumption | exact hS61.cell 1 rfl rfl | exact hS61.cell 2 rfl rfl | exact hS61.cell 3 rfl rfl | exact hS61.cell 5 rfl rfl)) ?_
    refine vc_q rfl rfl rfl (ev_load rfl ag_90 (by first | assumption | exact hS61.cell 1 rfl rfl | exact hS61.cell 2 rfl rfl | exact hS61.cell 3 rfl rfl | exact hS61.cell 5 rfl rfl)) ?_
    refine vc_s rfl rfl rfl rfl rfl rfl ?_
    have hC62 := hS61.split [0] [true, false, false, false, false, false, false] rfl; dsimp only [selF, pickA, nthA, List.cons_append, List.nil_append] at hC62
    refine wl_call cal_59 rfl (rTexts_sp hC62 (hG.starL 5 rfl) (by omega)) rfl ?_
    rintro e w62 ⟨_, rfl, m, hm, hS62⟩; refine ⟨_, rfl, ?_⟩
    replace hS62 := hS62.join rfl; dsimp only [List.dropLast, List.cons_append, List.nil_append] at hS62; clear hC62
    clear hS61
    have hE : Ends s k m := ⟨hAE, hm⟩
    rw [show cutV 93 (txSt m (numR 91 0 (r3 s k))) = r5 s k m from rfl] at hS62
    have hl4 : (r5 s k m).1.length ≤ s.length := by have h1 := txSt_len m (r4 s k); have h2 : (r4 s k).1.length ≤ (r3 s k).1.length := numR_len _ _ _; have h3 : (r5 s k m).1.length ≤ (txSt m (r4 s k)).1.length := cut_len _ _; omega
    refine vc_e (.cons (.inl ⟨rfl, (ev_load rfl ag_90 (by first | assumption | exact hS62.cell 2 rfl rfl | exact hS62.cell 3 rfl rfl | exact hS62.cell 4 rfl rfl | exact hS62.cell 6 rfl rfl))⟩) (.skip (by kernel_rfl) .nil)) ?_
    refine vc_s rfl rfl rfl rfl rfl rfl ?_
    have hC63 := hS62.split [1] [false, true, false, false, false, false, false, false] rfl; dsimp only [selF, pickA, nthA, List.cons_append, List.nil_append] at hC63
    refine wl_call cal_58 rfl (rText_sp hC63 (hG.starL 6 rfl) (by omega)) rfl ?_
    rintro e w63 ⟨_, rfl, rfl, hS63⟩; refine ⟨_, rfl, ?_⟩
    replace hS63 := hS63.join rfl; dsimp only [List.dropLast, List.cons_append, List.nil_append] at hS63; clear hC63
    clear hS62
    rw [show txtR (r5 s k m) = (r6 s k m) from rfl] at hS63
    have hl6 : (r6 s k m).1.length ≤ s.length := Nat.le_trans (txtR_len _) hl4
    have hz6 : intsR 0 (r6 s k m) = (r6 s k m) := intsR_zero _
    have hv6 : intsV 0 (r6 s k m) = [] := intsV_zero _
    refine vc_e (.skip (by kernel_rfl) (.skip (by kernel_rfl) .nil)) ?_
    refine vc_p rfl rfl rfl (fun _ => (ev_fieldAddr rfl fo_38_12)) ?_
    refine vc_s rfl rfl rfl rfl rfl rfl ?_
    refine wl_store hS63 rfl rfl sz_31 (by first | rfl | assumption | exact hS63.own_one 1 rfl | exact hS63.own_one 5 rfl) (i := 4) rfl (by rw [pF_len]; omega) ?_
    intro w64 hS64; dsimp only [List.set] at hS64
    clear hS63
    rw [pF_fv] at hS64
    refine vc_e0 (.skip (by kernel_rfl) (.skip (by kernel_rfl) .nil)) ?_
    refine vc_p rfl rfl rfl (fun _ => (ev_fieldAddr rfl fo_38_13)) ?_
    refine vc_s rfl rfl rfl rfl rfl rfl ?_
    refine wl_store hS64 rfl rfl sz_9 (by first | rfl | assumption | exact hS64.own_one 1 rfl | exact hS64.own_one 5 rfl) (i := 4) rfl (by rw [pF_len]; omega) ?_
    intro w65 hS65; dsimp only [List.set] at hS65
    clear hS64
    rw [pF_c] at hS65
    refine vc_e0 (.skip (by kernel_rfl) (.skip (by kernel_rfl) .nil)) ?_
    refine VC.nil ?_
    refine qs_seq ?_
    refine wc_sub (L' := [(2, _), (4, _), (5, _), (6, _), (7, _), (8, _), (10, _)]) (.cons rfl (.cons rfl (.cons rfl (.cons rfl (.cons rfl (.cons rfl (.cons rfl .nil))))))) ?_
    refine wc_seq ?_
    refine wc_region ?_
    refine wl_move rfl rfl ?_
    refine wl_fieldAddr rfl fo_38_14 rfl ?_
    refine wl_fieldAddr rfl fo_38_15 rfl ?_
    refine wl_ptrsBuild bp [22, 23] hS65 rfl rfl Tryz.underlying92 ifz_93 rfl rfl rfl rfl ?_
    intro b66 w66 hS66
    clear hS65
    have hC67 := hS66.split [1, 3, 5] [false, true, false, true, false, true, false, false, false] rfl; dsimp only [selF, pickA, nthA, List.cons_append, List.nil_append] at hC67
    refine wl_callV rfl cal_53 rfl (rints_sp hC67 (hG.starL 5 rfl) (Ent.starL (ent_row (C := ptC bp) (l := [22, 23]) (by simp)) 0 rfl) (by intro o ho; rw [pF_len]; simp at ho ⊢; omega) (by simp) (by first | omega | (simp; omega))) rfl ?_
    rintro e w67 ⟨_, rfl, rfl, hS67⟩; refine ⟨_, rfl, ?_⟩
    replace hS67 := hS67.join rfl; dsimp only [List.dropLast, List.cons_append, List.nil_append] at hS67; clear hC67
    clear hS66
    have hg := fun (fv : Value) => grpT (z := (r6 s k m)) (a := 0) (n := 2) (os := [22, 23]) (H := (intsV 19 (s, false))) (av := av) (fv := fv) (c := txtV (r5 s k m)) (s := []) rfl (by omega) (by intro k h1 h2; omega)
    simp only [hz6, hv6] at hg
    rw [(hg _).1, (hg .nilFunc).2] at hS67
    refine wl_nil ?_
    refine qs_seq ?_
    refine wc_sub (L' := [(2, _), (4, _), (5, _), (6, _), (7, _), (8, _), (10, _)]) (.cons rfl (.cons rfl (.cons rfl (.cons rfl (.cons rfl (.cons rfl (.cons rfl .nil))))))) ?_
    refine wc_seq ?_
    refine wc_seq ?_
    refine wc_region ?_
    refine wl_move rfl rfl ?_
    refine wl_nil ?_
    refine qs_seq ?_
    refine wc_block ?_
    refine wc_loop (fun K0 E0 W0 => ∃ (i : Nat) (fv : Value), K0 = 16 - i ∧ E0 = [(2, ptrV br 0), (4, ptrV q4 0), (5, ptrV q5 0), (6, ptrV bp 0), (7, .func (.func 53) #[] #[ptrV q4 0]), (8, .func (.func 55) #[] #[ptrV q5 0]), (10, intV (nOf s)), (96, intV (i : Int))] ∧ Sat W0 [readT rb (intsR (2 + 2 * i) (r6 s k m)), blkT q4 [ptrV rb 0], blkT q5 [.bool (arsF k (r2 s) && flI i (r6 s k m))], blkT bp (pF (intsV 19 (s, false)) (intsV (2 + 2 * i) (r6 s k m)) av fv (txtV (r5 s k m)) []), rowT arC av (arsV k (r2 s)), rowT stC fv (txOut m (r3 s k)), blkT br (pF [] [] (.slice none 0 0) (.slice none 0 0) [] []), F] ∧ (i ≤ 16)) (L0 := [(2, _), (4, _), (5, _), (6, _), (7, _), (8, _), (10, _), (96, _)]) (16 - 0) (.cons rfl (.cons rfl (.cons rfl (.cons rfl (.cons rfl (.cons rfl (.cons rfl (.cons rfl .nil)))))))) ⟨0, _, rfl, rfl, (by rw [show flI 0 (r6 s k m) = true from rfl, Bool.and_true]; exact hS67.pick [0, 1, 5, 2, 6, 4, 7, 8] rfl), by omega⟩ ?_
    rintro _ _ w68 ⟨i, fv, rfl, rfl, hS68, hi⟩
    have hrl2 := intsR_len (2 + 2 * i) (r6 s k m)
    have hrl3 := intsR_len (3 + 2 * i) (r6 s k m)
    refine wc_seq ?_
    refine wc_region ?_
    refine wl_lss rfl rfl rfl ?_
    refine wl_nil ?_
    refine qs_seq ?_
    refine wc_seq ?_
    refine wc_condD rfl (fun h69 => ?_) (fun h69 => ?_)
    · skip
      refine wc_skip ?_
      refine qs_seq ?_
      refine wc_seq ?_
      refine wc_block ?_
      refine wc_seq ?_
      refine wc_region ?_
      refine wl_move rfl rfl ?_
      refine wl_assign rfl rfl ?_
      refine wl_nil ?_
      refine qs_seq ?_
      refine wc_seq ?_
      refine wc_region ?_
      refine wl_move rfl rfl ?_
      refine wl_move rfl rfl ?_
      refine wl_fieldAddr rfl fo_38_16 rfl ?_
      refine wl_indexAddrA _ Tryz.underlying34 rfl rfl (by first | rfl | omega) (by first | omega | (simp; omega)) sz_33 rfl ?_
      refine wl_fieldAddr rfl fo_33_0 rfl ?_
      refine wl_ptrsBuild bp [24 + i * 2] hS68 rfl rfl Tryz.underlying92 ifz_93 rfl rfl rfl rfl ?_
      intro b70 w70 hS70
      clear hS68
      have hC71 := hS70.split [1, 2, 4] [false, true, true, false, true, false, false, false, false] rfl; dsimp only [selF, pickA, nthA, List.cons_append, List.nil_append] at hC71
      refine wl_callV rfl cal_53 rfl (rints_sp hC71 (hG.starL 5 rfl) (Ent.starL (ent_row (C := ptC bp) (l := [24 + i * 2]) (by simp)) 0 rfl) (by intro o ho; rw [pF_len]; simp at ho ⊢; omega) (by simp) (by first | omega | (simp; omega))) rfl ?_
      rintro e w71 ⟨_, rfl, rfl, hS71⟩; refine ⟨_, rfl, ?_⟩
      replace hS71 := hS71.join rfl; dsimp only [List.dropLast, List.cons_append, List.nil_append] at hS71; clear hC71
      clear hS70
      rw [show 24 + i * 2 = 22 + (2 + 2 * i) by omega] at hS71
      have hg := grpT (z := (r6 s k m)) (a := (2 + 2 * i)) (n := 1) (os := [22 + (2 + 2 * i)]) (H := (intsV 19 (s, false))) (av := av) (fv := fv) (c := txtV (r5 s k m)) (s := []) (by rfl) (by omega) (by intro k h1 h2; omega)
      rw [hg.1, hg.2] at hS71
      rw [show 2 + 2 * i + 1 = 3 + 2 * i by omega] at hS71
      refine wl_nil ?_
      refine qs_seq ?_
      refine wc_sub (L' := [(12, _), (2, _), (4, _), (5, _), (6, _), (7, _), (8, _), (10, _), (96, _)]) (.cons rfl (.cons rfl (.cons rfl (.cons rfl (.cons rfl (.cons rfl (.cons rfl (.cons rfl (.cons rfl .nil))))))))) ?_
      refine wc_region ?_
      refine wl_move rfl rfl ?_
      refine wl_move rfl rfl ?_
      refine wl_load rfl ag_90 (hS71.cell 1 (o := 0) rfl rfl) rfl ?_
      refine wl_makeBound rfl rfl ?_
      have hC72 := hS71.split [0, 4] [true, false, false, false, true, false, false, false, false] rfl; dsimp only [selF, pickA, nthA, List.cons_append, List.nil_append] at hC72
      refine wl_callV rfl cal_55 rfl (rflag_sp hC72 (hG.starL 6 rfl) (by first | omega | (simp; omega))) rfl ?_
      rintro e w72 ⟨_, rfl, rfl, hS72⟩; refine ⟨_, rfl, ?_⟩
      replace hS72 := hS72.join rfl; dsimp only [List.dropLast, List.cons_append, List.nil_append] at hS72; clear hC72
      clear hS71
      refine wl_fieldAddr rfl fo_38_16 rfl ?_
      refine wl_indexAddrA _ Tryz.underlying34 rfl rfl (by first | rfl | omega) (by first | omega | (simp; omega)) sz_33 rfl ?_
      refine wl_fieldAddr rfl fo_33_1 rfl ?_
      refine wl_store hS72 rfl rfl sz_4 (by first | rfl | assumption | exact hS72.own_one 4 rfl | exact hS72.own_one 5 rfl | exact hS72.own_one 6 rfl) (i := 3) rfl (by rw [pF_len]; omega) ?_
      intro w73 hS73; dsimp only [List.set] at hS73
      clear hS72
      rw [flgT (i := i) (a := 3 + 2 * i) rfl (by omega) (by omega)] at hS73
      refine wl_nil ?_
      refine qs_block_normal ?_
      refine qs_seq ?_
      refine wc_sub (L' := [(2, _), (4, _), (5, _), (6, _), (7, _), (8, _), (10, _), (96, _)]) (.cons rfl (.cons rfl (.cons rfl (.cons rfl (.cons rfl (.cons rfl (.cons rfl (.cons rfl .nil)))))))) ?_
      refine wc_region ?_
      refine wl_add rfl rfl (by first | omega | (simp; omega)) (by first | omega | (simp; omega)) rfl ?_
      refine wl_move rfl rfl ?_
      refine wl_nil ?_
      exact qs_round (L1 := [(2, _), (4, _), (5, _), (6, _), (7, _), (8, _), (10, _), (96, intV ((i + 1 : Nat) : Int))]) (.cons rfl (.cons rfl (.cons rfl (.cons rfl (.cons rfl (.cons rfl (.cons rfl (.cons rfl .nil)))))))) (k1 := 16 - (i + 1)) (by omega) ⟨i + 1, _, rfl, rfl, (by rw [flI_succ, ← Bool.and_assoc, show 2 + 2 * (i + 1) = 3 + 2 * i + 1 by omega, intsR_succ]; exact hS73.pick [0, 2, 1, 3, 5, 6, 7, 8] rfl), by omega⟩
    refine wc_exit ?_
    refine qs_then_exit ?_
    refine qs_then_exit ?_
    refine qs_block_exit ?_
    refine qs_seq ?_
    refine wc_seq ?_
    rw [show i = 16 by omega, show 2 + 2 * 16 = 34 from rfl] at hS68
    have hrl4 := intsR_len 34 (r6 s k m)
    refine wc_region ?_
    refine wl_move rfl rfl ?_
    refine wl_fieldAddr rfl fo_38_17 rfl ?_
    refine wl_fieldAddr rfl fo_36_0 rfl ?_
    refine wl_fieldAddr rfl fo_38_17 rfl ?_
    refine wl_fieldAddr rfl fo_36_1 rfl ?_
    refine wl_fieldAddr rfl fo_38_17 rfl ?_
    refine wl_fieldAddr rfl fo_36_2 rfl ?_
    refine wl_fieldAddr rfl fo_38_18 rfl ?_
    refine wl_ptrsBuild bp [56, 57, 58, 59] hS68 rfl rfl Tryz.underlying92 ifz_93 rfl rfl rfl rfl ?_
    intro b74 w74 hS74
    clear hS68
    have hC75 := hS74.split [1, 2, 4] [false, true, true, false, true, false, false, false, false] rfl; dsimp only [selF, pickA, nthA, List.cons_append, List.nil_append] at hC75
    refine wl_callV rfl cal_53 rfl (rints_sp hC75 (hG.starL 5 rfl) (Ent.starL (ent_row (C := ptC bp) (l := [56, 57, 58, 59]) (by simp)) 0 rfl) (by intro o ho; rw [pF_len]; simp at ho ⊢; omega) (by simp) (by first | omega | (simp; omega))) rfl ?_
    rintro e w75 ⟨_, rfl, rfl, hS75⟩; refine ⟨_, rfl, ?_⟩
    replace hS75 := hS75.join rfl; dsimp only [List.dropLast, List.cons_append, List.nil_append] at hS75; clear hC75
    clear hS74
    have hgg := grpT (z := (r6 s k m)) (a := 34) (n := 4) (os := [56, 57, 58, 59]) (H := (intsV 19 (s, false))) (av := av) (fv := fv) (c := txtV (r5 s k m)) (s := []) rfl (by omega) (by intro k h1 h2; omega)
    rw [hgg.1, hgg.2] at hS75
    rw [show intsR (34 + 4) (r6 s k m) = r7 s k m from rfl] at hS75
    have hl7 : (r7 s k m).1.length ≤ s.length := Nat.le_trans (intsR_len 38 _) hl6
    refine wl_nil ?_
    refine qs_seq ?_
    refine wc_sub (L' := [(2, _), (4, _), (5, _), (6, _), (10, _)]) (.cons rfl (.cons rfl (.cons rfl (.cons rfl (.cons rfl .nil))))) ?_
    refine wc_seq ?_
    refine wc_region ?_
    refine wl_load rfl ag_90 (hS75.cell 1 (o := 0) rfl rfl) rfl ?_
    have hC76 := hS75.split [0] [true, false, false, false, false, false, false, false, false] rfl; dsimp only [selF, pickA, nthA, List.cons_append, List.nil_append] at hC76
    refine wl_call cal_58 rfl (rText_sp hC76 (hG.starL 7 rfl) (by omega)) rfl ?_
    rintro e w76 ⟨_, rfl, rfl, hS76⟩; refine ⟨_, rfl, ?_⟩
    replace hS76 := hS76.join rfl; dsimp only [List.dropLast, List.cons_append, List.nil_append] at hS76; clear hC76
    clear hS75
    rw [show txtR (r7 s k m) = r8 s k m from rfl] at hS76
    refine wl_fieldAddr rfl fo_38_19 rfl ?_
    refine wl_store hS76 rfl rfl sz_9 (by first | rfl | assumption | exact hS76.own_one 3 rfl | exact hS76.own_one 5 rfl | exact hS76.own_one 6 rfl) (i := 2) rfl (by rw [pF_len]; omega) ?_
    intro w77 hS77; dsimp only [List.set] at hS77
    clear hS76
    rw [pF_s] at hS77
    refine wl_nil ?_
    refine qs_seq ?_
    refine wc_seq ?_
    refine wc_seq ?_
    refine wc_region ?_
    refine wl_load rfl ag_90 (hS77.cell 1 (o := 0) rfl rfl) rfl ?_
    have hC78 := hS77.split [0] [true, false, false, false, false, false, false, false, false] rfl; dsimp only [selF, pickA, nthA, List.cons_append, List.nil_append] at hC78
    refine wl_call cal_60 rfl (rDone_sp hC78) rfl ?_
    rintro e w78 ⟨_, rfl, rfl, hS78⟩; refine ⟨_, rfl, ?_⟩
    replace hS78 := hS78.join rfl; dsimp only [List.dropLast, List.cons_append, List.nil_append] at hS78; clear hC78
    clear hS77
    refine wl_not rfl rfl ?_
    refine wl_move rfl rfl ?_
    refine wl_split 131 rfl (fun h79 => ?_) (fun h79 => ?_)
    · skip
      refine wl_unwanted rfl rfl h79 rfl ?_
      refine wl_unwanted rfl rfl h79 rfl ?_
      refine wl_pickT rfl h79 rfl rfl ?_
      refine wl_move rfl rfl ?_
      refine wl_unwanted rfl rfl rfl rfl ?_
      refine wl_unwanted rfl rfl rfl rfl ?_
      refine wl_unwanted rfl rfl rfl rfl ?_
      refine wl_unwanted rfl rfl rfl rfl ?_
      refine wl_unwanted rfl rfl rfl rfl ?_
      refine wl_pickT rfl rfl rfl rfl ?_
      refine wl_nil ?_
      refine qs_seq ?_
      refine wc_sub (L' := [(141, _), (2, _), (6, _)]) (.cons rfl (.cons rfl (.cons rfl .nil))) ?_
      refine wc_condT rfl ?_
      refine wc_seq ?_
      refine wc_region ?_
      refine wl_buildS rfl pl_38_ asz_38 zr_38 rfl rfl ?_
      first | (refine wl_storeA hS78 rfl rfl sz_38 rfl (by first | rfl | (simp [allOne, Value.oneCell']; done) | assumption | exact hone) (i := 1) rfl (by first | decide | exact Nat.le_of_ble_eq_true rfl | (simp; done) | omega) ?_) | (refine wl_storeA hS78 rfl rfl sz_38 rfl (by first | rfl | (simp [allOne, Value.oneCell']; done) | assumption | exact hone) (i := 2) rfl (by first | decide | exact Nat.le_of_ble_eq_true rfl | (simp; done) | omega) ?_) | (refine wl_storeA hS78 rfl rfl sz_38 rfl (by first | rfl | (simp [allOne, Value.oneCell']; done) | assumption | exact hone) (i := 4) rfl (by first | decide | exact Nat.le_of_ble_eq_true rfl | (simp; done) | omega) ?_) | (refine wl_storeA hS78 rfl rfl sz_38 rfl (by first | rfl | (simp [allOne, Value.oneCell']; done) | assumption | exact hone) (i := 7) rfl (by first | decide | exact Nat.le_of_ble_eq_true rfl | (simp; done) | omega) ?_)
      intro w80 hS81; dsimp only [List.set] at hS81
      clear hS78
      refine wl_assign rfl rfl ?_
      refine wl_nil ?_
      refine qs_seq ?_
      refine wc_ret ?_
      refine qs_then_ret ?_
      refine finR2 (.inr rfl) rfl (resCA rfl ag_38 sz_38 (by first | exact hS81.blk 1 rfl | exact hS81.blk 2 rfl | exact hS81.blk 4 rfl | exact hS81.blk 7 rfl) (by first | decide | exact Nat.le_of_ble_eq_true rfl | (simp; done) | omega) rfl) (resT rfl) ?_
      have hok : okO s k m = false := by rw [okO_eq, show (!(r8 s k m).2 && decide ((r8 s k m).1 = [])) = false from not_t (by assumption)]; rfl
      have hd := (dec_out hE hs).1
      rw [hok] at hd
      have hd2 : decP s = none := by cases hq : decP s with | none => rfl | some x => rw [hq] at hd; cases hd
      refine ⟨_, rfl, (.slice none 0 0), (.slice none 0 0), ?_, ?_⟩
      · rw [hd2]; simp only [Option.getD_none, Option.isSome_none, procV_eq]; rfl
      · rw [hd2]; simp only [Option.getD_none]; exact (((hS81.pick [8] rfl).row_nil stC).row_nil arC)
    refine wl_guard rfl rfl h79 ?_
    refine wl_load rfl ag_4 (hS78.cell 4 (o := 0) rfl rfl) rfl ?_
    refine wl_guard rfl rfl h79 ?_
    refine wl_not rfl rfl ?_
    refine wl_pickF rfl h79 rfl rfl ?_
    refine wl_move rfl rfl ?_
    refine wl_split 135 rfl (fun h82 => ?_) (fun h82 => ?_)
    · skip
      refine wl_unwanted rfl rfl h82 rfl ?_
      refine wl_unwanted rfl rfl h82 rfl ?_
      refine wl_unwanted rfl rfl h82 rfl ?_
      refine wl_unwanted rfl rfl h82 rfl ?_
      refine wl_unwanted rfl rfl h82 rfl ?_
      refine wl_pickT rfl h82 rfl rfl ?_
      refine wl_nil ?_
      refine qs_seq ?_
      refine wc_sub (L' := [(141, _), (2, _), (6, _)]) (.cons rfl (.cons rfl (.cons rfl .nil))) ?_
      refine wc_condT rfl ?_
      refine wc_seq ?_
      refine wc_region ?_
      refine wl_buildS rfl pl_38_ asz_38 zr_38 rfl rfl ?_
      first | (refine wl_storeA hS78 rfl rfl sz_38 rfl (by first | rfl | (simp [allOne, Value.oneCell']; done) | assumption | exact hone) (i := 1) rfl (by first | decide | exact Nat.le_of_ble_eq_true rfl | (simp; done) | omega) ?_) | (refine wl_storeA hS78 rfl rfl sz_38 rfl (by first | rfl | (simp [allOne, Value.oneCell']; done) | assumption | exact hone) (i := 2) rfl (by first | decide | exact Nat.le_of_ble_eq_true rfl | (simp; done) | omega) ?_) | (refine wl_storeA hS78 rfl rfl sz_38 rfl (by first | rfl | (simp [allOne, Value.oneCell']; done) | assumption | exact hone) (i := 4) rfl (by first | decide | exact Nat.le_of_ble_eq_true rfl | (simp; done) | omega) ?_) | (refine wl_storeA hS78 rfl rfl sz_38 rfl (by first | rfl | (simp [allOne, Value.oneCell']; done) | assumption | exact hone) (i := 7) rfl (by first | decide | exact Nat.le_of_ble_eq_true rfl | (simp; done) | omega) ?_)
      intro w83 hS84; dsimp only [List.set] at hS84
      clear hS78
      refine wl_assign rfl rfl ?_
      refine wl_nil ?_
      refine qs_seq ?_
      refine wc_ret ?_
      refine qs_then_ret ?_
      refine finR2 (.inr rfl) rfl (resCA rfl ag_38 sz_38 (by first | exact hS84.blk 1 rfl | exact hS84.blk 2 rfl | exact hS84.blk 4 rfl | exact hS84.blk 7 rfl) (by first | decide | exact Nat.le_of_ble_eq_true rfl | (simp; done) | omega) rfl) (resT rfl) ?_
      have hok : okO s k m = false := by rw [okO_eq, show (arsF k (r2 s) && flI 16 (r6 s k m)) = false from not_t (by assumption), Bool.and_false]; rfl
      have hd := (dec_out hE hs).1
      rw [hok] at hd
      have hd2 : decP s = none := by cases hq : decP s with | none => rfl | some x => rw [hq] at hd; cases hd
      refine ⟨_, rfl, (.slice none 0 0), (.slice none 0 0), ?_, ?_⟩
      · rw [hd2]; simp only [Option.getD_none, Option.isSome_none, procV_eq]; rfl
      · rw [hd2]; simp only [Option.getD_none]; exact (((hS84.pick [8] rfl).row_nil stC).row_nil arC)
    refine wl_guard rfl rfl h82 ?_
    refine wl_fieldAddr rfl fo_38_11 rfl ?_
    refine wl_guard rfl rfl h82 ?_
    refine wl_load rfl ag_30 (hS78.cell 2 (o := 19) rfl rfl) rfl ?_
    refine wl_guard rfl rfl h82 ?_
    first | refine wl_lenL Tryz.underlying30 rfl rfl ?_ | refine wl_lenO 3 hS78 Tryz.underlying30 rfl rfl rfl ?_ | refine wl_lenO 5 hS78 Tryz.underlying30 rfl rfl rfl ?_ | refine wl_lenO 6 hS78 Tryz.underlying30 rfl rfl rfl ?_
    refine wl_guard rfl rfl h82 ?_
    refine wl_move rfl rfl ?_
    refine wl_guard rfl rfl h82 ?_
    refine wl_neq rfl rfl rfl ?_
    refine wl_pickF rfl h82 rfl rfl ?_
    refine wl_nil ?_
    refine qs_seq ?_
    refine wc_sub (L' := [(141, _), (2, _), (6, _)]) (.cons rfl (.cons rfl (.cons rfl .nil))) ?_
    refine wc_condD rfl (fun h85 => ?_) (fun h85 => ?_)
    · skip
      refine wc_seq ?_
      refine wc_region ?_
      refine wl_buildS rfl pl_38_ asz_38 zr_38 rfl rfl ?_
      first | (refine wl_storeA hS78 rfl rfl sz_38 rfl (by first | rfl | (simp [allOne, Value.oneCell']; done) | assumption | exact hone) (i := 1) rfl (by first | decide | exact Nat.le_of_ble_eq_true rfl | (simp; done) | omega) ?_) | (refine wl_storeA hS78 rfl rfl sz_38 rfl (by first | rfl | (simp [allOne, Value.oneCell']; done) | assumption | exact hone) (i := 2) rfl (by first | decide | exact Nat.le_of_ble_eq_true rfl | (simp; done) | omega) ?_) | (refine wl_storeA hS78 rfl rfl sz_38 rfl (by first | rfl | (simp [allOne, Value.oneCell']; done) | assumption | exact hone) (i := 4) rfl (by first | decide | exact Nat.le_of_ble_eq_true rfl | (simp; done) | omega) ?_) | (refine wl_storeA hS78 rfl rfl sz_38 rfl (by first | rfl | (simp [allOne, Value.oneCell']; done) | assumption | exact hone) (i := 7) rfl (by first | decide | exact Nat.le_of_ble_eq_true rfl | (simp; done) | omega) ?_)
      intro w86 hS87; dsimp only [List.set] at hS87
      clear hS78
      refine wl_assign rfl rfl ?_
      refine wl_nil ?_
      refine qs_seq ?_
      refine wc_ret ?_
      refine qs_then_ret ?_
      refine finR2 (.inr rfl) rfl (resCA rfl ag_38 sz_38 (by first | exact hS87.blk 1 rfl | exact hS87.blk 2 rfl | exact hS87.blk 4 rfl | exact hS87.blk 7 rfl) (by first | decide | exact Nat.le_of_ble_eq_true rfl | (simp; done) | omega) rfl) (resT rfl) ?_
      have hN : ¬ ((k : Int) = nOf s) := by rw [← arsV_len k (r2 s)]; exact (by assumption : ((arsV k (r2 s)).length : Int) ≠ nOf s)
      have hok : okO s k m = false := by rw [okO_eq, decide_eq_false hN, Bool.and_false]
      have hd := (dec_out hE hs).1
      rw [hok] at hd
      have hd2 : decP s = none := by cases hq : decP s with | none => rfl | some x => rw [hq] at hd; cases hd
      refine ⟨_, rfl, (.slice none 0 0), (.slice none 0 0), ?_, ?_⟩
      · rw [hd2]; simp only [Option.getD_none, Option.isSome_none, procV_eq]; rfl
      · rw [hd2]; simp only [Option.getD_none]; exact (((hS87.pick [8] rfl).row_nil stC).row_nil arC)
    refine wc_skip ?_
    refine qs_seq ?_
    refine wc_seq ?_
    have hone := pF_one (H := (intsV 19 (s, false))) (T := intsV 38 (r6 s k m)) (c := txtV (r5 s k m)) (s := txtV (r7 s k m)) (hS78.own_one 5 rfl) (hS78.own_one 6 rfl)
    refine wc_region ?_
    refine wl_loadA rfl ag_38 sz_38 (by first | exact hS78.blk 1 rfl | exact hS78.blk 2 rfl | exact hS78.blk 4 rfl | exact hS78.blk 7 rfl) (by first | decide | exact Nat.le_of_ble_eq_true rfl | (simp; done) | omega) rfl rfl ?_
    first | (refine wl_storeA hS78 rfl rfl sz_38 rfl (by first | rfl | (simp [allOne, Value.oneCell']; done) | assumption | exact hone) (i := 1) rfl (by first | decide | exact Nat.le_of_ble_eq_true rfl | (simp; done) | omega) ?_) | (refine wl_storeA hS78 rfl rfl sz_38 rfl (by first | rfl | (simp [allOne, Value.oneCell']; done) | assumption | exact hone) (i := 2) rfl (by first | decide | exact Nat.le_of_ble_eq_true rfl | (simp; done) | omega) ?_) | (refine wl_storeA hS78 rfl rfl sz_38 rfl (by first | rfl | (simp [allOne, Value.oneCell']; done) | assumption | exact hone) (i := 4) rfl (by first | decide | exact Nat.le_of_ble_eq_true rfl | (simp; done) | omega) ?_) | (refine wl_storeA hS78 rfl rfl sz_38 rfl (by first | rfl | (simp [allOne, Value.oneCell']; done) | assumption | exact hone) (i := 7) rfl (by first | decide | exact Nat.le_of_ble_eq_true rfl | (simp; done) | omega) ?_)
    intro w88 hS89; dsimp only [List.set] at hS89
    clear hS78
    refine wl_assign rfl rfl ?_
    refine wl_nil ?_
    refine qs_seq ?_
    refine wc_ret ?_
    refine finR2 (.inr rfl) rfl (resCA rfl ag_38 sz_38 (by first | exact hS89.blk 1 rfl | exact hS89.blk 2 rfl | exact hS89.blk 4 rfl | exact hS89.blk 7 rfl) (by first | decide | exact Nat.le_of_ble_eq_true rfl | (simp; done) | omega) rfl) (resT rfl) ?_
    have hD : (!(r8 s k m).2 && decide ((r8 s k m).1 = [])) = true := not_f (by assumption)
    have hR : (arsF k (r2 s) && flI 16 (r6 s k m)) = true := not_f (by assumption)
    have hN : (k : Int) = nOf s := by rw [← arsV_len k (r2 s)]; exact Decidable.not_not.1 (by assumption : ¬ ((arsV k (r2 s)).length : Int) ≠ nOf s)
    have hok : okO s k m = true := by rw [okO_eq, hD, hR, decide_eq_true hN]; rfl
    have hd := (dec_out hE hs).2 hok
    refine ⟨_, rfl, av, fv, ?_, ?_⟩
    · rw [hd]; simp only [Option.getD_some, Option.isSome_some, procV_eq]; rfl
    · rw [hd]; simp only [Option.getD_some]; exact hS89.pick [5, 6, 8] rfl
  refine wl_unwanted rfl rfl (decide_eq_false h20) rfl ?_
  refine wl_unwanted rfl rfl (decide_eq_false h20) rfl ?_
  refine wl_unwanted rfl rfl (decide_eq_false h20) rfl ?_
  refine wl_pickF rfl (decide_eq_false h20) rfl rfl ?_
  refine wl_nil ?_
  refine qs_seq ?_
  refine wc_sub (L' := [(57, _), (2, _), (4, _), (5, _), (6, _), (7, _), (8, _), (10, _)]) (.cons rfl (.cons rfl (.cons rfl (.cons rfl (.cons rfl (.cons rfl (.cons rfl (.cons rfl .nil)))))))) ?_
  refine wc_condF rfl ?_
  refine wc_exit ?_
  refine qs_then_exit ?_
  refine qs_then_exit ?_
  refine qs_block_exit ?_
  refine qs_seq ?_
  refine wc_seq ?_
  have hAE : ArEnd (nOf s) (r2 s) k := ⟨hk, hgd, by by_cases q : (k : Int) = nOf s; exact .inl q; exact .inr (by have h7 : ¬ (k : Int) < nOf s ∨ ¬ (0 : Int) < ((arSt k (r2 s)).1.length : Int) := (by first | (left; omega) | (right; assumption)); rcases h7 with h7 | h7; omega; exact List.length_eq_zero_iff.1 (by omega))⟩
  rw [show (arSt k (r2 s)) = r3 s k from rfl] at hS19
  have hl3 : (r3 s k).1.length ≤ s.length := Nat.le_trans (arSt_len k (r2 s)) hr2
  have hS90 := hS19.drew
  refine wc_draw [0, 2, 1, 3, 4, 5, 6, 7] [1, 3, 5, 7] mix (by kernel_rfl) ?_
  refine vc_q rfl rfl rfl (ev_load rfl ag_90 (by first | assumption | exact hS90.cell 1 rfl rfl | exact hS90.cell 2 rfl rfl | exact hS90.cell 3 rfl rfl | exact hS90.cell 5 rfl rfl)) ?_
  refine vc_q rfl rfl rfl (ev_load rfl ag_90 (by first | assumption | exact hS90.cell 1 rfl rfl | exact hS90.cell 2 rfl rfl | exact hS90.cell 3 rfl rfl | exact hS90.cell 5 rfl rfl)) ?_
  refine vc_s rfl rfl rfl rfl rfl rfl ?_
  have hC91 := hS90.split [0] [true, false, false, false, false, false, false] rfl; dsimp only [selF, pickA, nthA, List.cons_append, List.nil_append] at hC91
  refine wl_call cal_59 rfl (rTexts_sp hC91 (hG.starL 5 rfl) (by omega)) rfl ?_
  rintro e w91 ⟨_, rfl, m, hm, hS91⟩; refine ⟨_, rfl, ?_⟩
  replace hS91 := hS91.join rfl; dsimp only [List.dropLast, List.cons_append, List.nil_append] at hS91; clear hC91
  clear hS90
  have hE : Ends s k m := ⟨hAE, hm⟩
  rw [show cutV 93 (txSt m (numR 91 0 (r3 s k))) = r5 s k m from rfl] at hS91
  have hl4 : (r5 s k m).1.length ≤ s.length := by have h1 := txSt_len m (r4 s k); have h2 : (r4 s k).1.length ≤ (r3 s k).1.length := numR_len _ _ _; have h3 : (r5 s k m).1.length ≤ (txSt m (r4 s k)).1.length := cut_len _ _; omega
  refine vc_e (.cons (.inl ⟨rfl, (ev_load rfl ag_90 (by first | assumption | exact hS91.cell 2 rfl rfl | exact hS91.cell 3 rfl rfl | exact hS91.cell 4 rfl rfl | exact hS91.cell 6 rfl rfl))⟩) (.skip (by kernel_rfl) .nil)) ?_
  refine vc_s rfl rfl rfl rfl rfl rfl ?_
  have hC92 := hS91.split [1] [false, true, false, false, false, false, false, false] rfl; dsimp only [selF, pickA, nthA, List.cons_append, List.nil_append] at hC92
  refine wl_call cal_58 rfl (rText_sp hC92 (hG.starL 6 rfl) (by omega)) rfl ?_
  rintro e w92 ⟨_, rfl, rfl, hS92⟩; refine ⟨_, rfl, ?_⟩
  replace hS92 := hS92.join rfl; dsimp only [List.dropLast, List.cons_append, List.nil_append] at hS92; clear hC92
  clear hS91
  rw [show txtR (r5 s k m) = (r6 s k m) from rfl] at hS92
  have hl6 : (r6 s k m).1.length ≤ s.length := Nat.le_trans (txtR_len _) hl4
  have hz6 : intsR 0 (r6 s k m) = (r6 s k m) := intsR_zero _
  have hv6 : intsV 0 (r6 s k m) = [] := intsV_zero _
  refine vc_e (.skip (by kernel_rfl) (.skip (by kernel_rfl) .nil)) ?_
  refine vc_p rfl rfl rfl (fun _ => (ev_fieldAddr rfl fo_38_12)) ?_
  refine vc_s rfl rfl rfl rfl rfl rfl ?_
  refine wl_store hS92 rfl rfl sz_31 (by first | rfl | assumption | exact hS92.own_one 1 rfl | exact hS92.own_one 5 rfl) (i := 4) rfl (by rw [pF_len]; omega) ?_
  intro w93 hS93; dsimp only [List.set] at hS93
  clear hS92
  rw [pF_fv] at hS93
  refine vc_e0 (.skip (by kernel_rfl) (.skip (by kernel_rfl) .nil)) ?_
  refine vc_p rfl rfl rfl (fun _ => (ev_fieldAddr rfl fo_38_13)) ?_
  refine vc_s rfl rfl rfl rfl rfl rfl ?_
  refine wl_store hS93 rfl rfl sz_9 (by first | rfl | assumption | exact hS93.own_one 1 rfl | exact hS93.own_one 5 rfl) (i := 4) rfl (by rw [pF_len]; omega) ?_
  intro w94 hS94; dsimp only [List.set] at hS94
  clear hS93
  rw [pF_c] at hS94
  refine vc_e0 (.skip (by kernel_rfl) (.skip (by kernel_rfl) .nil)) ?_
  refine VC.nil ?_
  refine qs_seq ?_
  refine wc_sub (L' := [(2, _), (4, _), (5, _), (6, _), (7, _), (8, _), (10, _)]) (.cons rfl (.cons rfl (.cons rfl (.cons rfl (.cons rfl (.cons rfl (.cons rfl .nil))))))) ?_
  refine wc_seq ?_
  refine wc_region ?_
  refine wl_move rfl rfl ?_
  refine wl_fieldAddr rfl fo_38_14 rfl ?_
  refine wl_fieldAddr rfl fo_38_15 rfl ?_
  refine wl_ptrsBuild bp [22, 23] hS94 rfl rfl Tryz.underlying92 ifz_93 rfl rfl rfl rfl ?_
  intro b95 w95 hS95
  clear hS94
  have hC96 := hS95.split [1, 3, 5] [false, true, false, true, false, true, false, false, false] rfl; dsimp only [selF, pickA, nthA, List.cons_append, List.nil_append] at hC96
  refine wl_callV rfl cal_53 rfl (rints_sp hC96 (hG.starL 5 rfl) (Ent.starL (ent_row (C := ptC bp) (l := [22, 23]) (by simp)) 0 rfl) (by intro o ho; rw [pF_len]; simp at ho ⊢; omega) (by simp) (by first | omega | (simp; omega))) rfl ?_
  rintro e w96 ⟨_, rfl, rfl, hS96⟩; refine ⟨_, rfl, ?_⟩
  replace hS96 := hS96.join rfl; dsimp only [List.dropLast, List.cons_append, List.nil_append] at hS96; clear hC96
  clear hS95
  have hg := fun (fv : Value) => grpT (z := (r6 s k m)) (a := 0) (n := 2) (os := [22, 23]) (H := (intsV 19 (s, false))) (av := av) (fv := fv) (c := txtV (r5 s k m)) (s := []) rfl (by omega) (by intro k h1 h2; omega)
  simp only [hz6, hv6] at hg
  rw [(hg _).1, (hg .nilFunc).2] at hS96
  refine wl_nil ?_
  refine qs_seq ?_
  refine wc_sub (L' := [(2, _), (4, _), (5, _), (6, _), (7, _), (8, _), (10, _)]) (.cons rfl (.cons rfl (.cons rfl (.cons rfl (.cons rfl (.cons rfl (.cons rfl .nil))))))) ?_
  refine wc_seq ?_
  refine wc_seq ?_
  refine wc_region ?_
  refine wl_move rfl rfl ?_
  refine wl_nil ?_
  refine qs_seq ?_
  refine wc_block ?_
  refine wc_loop (fun K0 E0 W0 => ∃ (i : Nat) (fv : Value), K0 = 16 - i ∧ E0 = [(2, ptrV br 0), (4, ptrV q4 0), (5, ptrV q5 0), (6, ptrV bp 0), (7, .func (.func 53) #[] #[ptrV q4 0]), (8, .func (.func 55) #[] #[ptrV q5 0]), (10, intV (nOf s)), (96, intV (i : Int))] ∧ Sat W0 [readT rb (intsR (2 + 2 * i) (r6 s k m)), blkT q4 [ptrV rb 0], blkT q5 [.bool (arsF k (r2 s) && flI i (r6 s k m))], blkT bp (pF (intsV 19 (s, false)) (intsV (2 + 2 * i) (r6 s k m)) av fv (txtV (r5 s k m)) []), rowT arC av (arsV k (r2 s)), rowT stC fv (txOut m (r3 s k)), blkT br (pF [] [] (.slice none 0 0) (.slice none 0 0) [] []), F] ∧ (i ≤ 16)) (L0 := [(2, _), (4, _), (5, _), (6, _), (7, _), (8, _), (10, _), (96, _)]) (16 - 0) (.cons rfl (.cons rfl (.cons rfl (.cons rfl (.cons rfl (.cons rfl (.cons rfl (.cons rfl .nil)))))))) ⟨0, _, rfl, rfl, (by rw [show flI 0 (r6 s k m) = true from rfl, Bool.and_true]; exact hS96.pick [0, 1, 5, 2, 6, 4, 7, 8] rfl), by omega⟩ ?_
  rintro _ _ w97 ⟨i, fv, rfl, rfl, hS97, hi⟩
  have hrl2 := intsR_len (2 + 2 * i) (r6 s k m)
  have hrl3 := intsR_len (3 + 2 * i) (r6 s k m)
  refine wc_seq ?_
  refine wc_region ?_
  refine wl_lss rfl rfl rfl ?_
  refine wl_nil ?_
  refine qs_seq ?_
  refine wc_seq ?_
  refine wc_condD rfl (fun h98 => ?_) (fun h98 => ?_)
  · skip
    refine wc_skip ?_
    refine qs_seq ?_
    refine wc_seq ?_
    refine wc_block ?_
    refine wc_seq ?_
    refine wc_region ?_
    refine wl_move rfl rfl ?_
    refine wl_assign rfl rfl ?_
    refine wl_nil ?_
    refine qs_seq ?_
    refine wc_seq ?_
    refine wc_region ?_
    refine wl_move rfl rfl ?_
    refine wl_move rfl rfl ?_
    refine wl_fieldAddr rfl fo_38_16 rfl ?_
    refine wl_indexAddrA _ Tryz.underlying34 rfl rfl (by first | rfl | omega) (by first | omega | (simp; omega)) sz_33 rfl ?_
    refine wl_fieldAddr rfl fo_33_0 rfl ?_
    refine wl_ptrsBuild bp [24 + i * 2] hS97 rfl rfl Tryz.underlying92 ifz_93 rfl rfl rfl rfl ?_
    intro b99 w99 hS99
    clear hS97
    have hC100 := hS99.split [1, 2, 4] [false, true, true, false, true, false, false, false, false] rfl; dsimp only [selF, pickA, nthA, List.cons_append, List.nil_append] at hC100
    refine wl_callV rfl cal_53 rfl (rints_sp hC100 (hG.starL 5 rfl) (Ent.starL (ent_row (C := ptC bp) (l := [24 + i * 2]) (by simp)) 0 rfl) (by intro o ho; rw [pF_len]; simp at ho ⊢; omega) (by simp) (by first | omega | (simp; omega))) rfl ?_
    rintro e w100 ⟨_, rfl, rfl, hS100⟩; refine ⟨_, rfl, ?_⟩
    replace hS100 := hS100.join rfl; dsimp only [List.dropLast, List.cons_append, List.nil_append] at hS100; clear hC100
    clear hS99
    rw [show 24 + i * 2 = 22 + (2 + 2 * i) by omega] at hS100
    have hg := grpT (z := (r6 s k m)) (a := (2 + 2 * i)) (n := 1) (os := [22 + (2 + 2 * i)]) (H := (intsV 19 (s, false))) (av := av) (fv := fv) (c := txtV (r5 s k m)) (s := []) (by rfl) (by omega) (by intro k h1 h2; omega)
    rw [hg.1, hg.2] at hS100
    rw [show 2 + 2 * i + 1 = 3 + 2 * i by omega] at hS100
    refine wl_nil ?_
    refine qs_seq ?_
    refine wc_sub (L' := [(12, _), (2, _), (4, _), (5, _), (6, _), (7, _), (8, _), (10, _), (96, _)]) (.cons rfl (.cons rfl (.cons rfl (.cons rfl (.cons rfl (.cons rfl (.cons rfl (.cons rfl (.cons rfl .nil))))))))) ?_
    refine wc_region ?_
    refine wl_move rfl rfl ?_
    refine wl_move rfl rfl ?_
    refine wl_load rfl ag_90 (hS100.cell 1 (o := 0) rfl rfl) rfl ?_
    refine wl_makeBound rfl rfl ?_
    have hC101 := hS100.split [0, 4] [true, false, false, false, true, false, false, false, false] rfl; dsimp only [selF, pickA, nthA, List.cons_append, List.nil_append] at hC101
    refine wl_callV rfl cal_55 rfl (rflag_sp hC101 (hG.starL 6 rfl) (by first | omega | (simp; omega))) rfl ?_
    rintro e w101 ⟨_, rfl, rfl, hS101⟩; refine ⟨_, rfl, ?_⟩
    replace hS101 := hS101.join rfl; dsimp only [List.dropLast, List.cons_append, List.nil_append] at hS101; clear hC101
    clear hS100
    refine wl_fieldAddr rfl fo_38_16 rfl ?_
    refine wl_indexAddrA _ Tryz.underlying34 rfl rfl (by first | rfl | omega) (by first | omega | (simp; omega)) sz_33 rfl ?_
    refine wl_fieldAddr rfl fo_33_1 rfl ?_
    refine wl_store hS101 rfl rfl sz_4 (by first | rfl | assumption | exact hS101.own_one 4 rfl | exact hS101.own_one 5 rfl | exact hS101.own_one 6 rfl) (i := 3) rfl (by rw [pF_len]; omega) ?_
    intro w102 hS102; dsimp only [List.set] at hS102
    clear hS101
    rw [flgT (i := i) (a := 3 + 2 * i) rfl (by omega) (by omega)] at hS102
    refine wl_nil ?_
    refine qs_block_normal ?_
    refine qs_seq ?_
    refine wc_sub (L' := [(2, _), (4, _), (5, _), (6, _), (7, _), (8, _), (10, _), (96, _)]) (.cons rfl (.cons rfl (.cons rfl (.cons rfl (.cons rfl (.cons rfl (.cons rfl (.cons rfl .nil)))))))) ?_
    refine wc_region ?_
    refine wl_add rfl rfl (by first | omega | (simp; omega)) (by first | omega | (simp; omega)) rfl ?_
    refine wl_move rfl rfl ?_
    refine wl_nil ?_
    exact qs_round (L1 := [(2, _), (4, _), (5, _), (6, _), (7, _), (8, _), (10, _), (96, intV ((i + 1 : Nat) : Int))]) (.cons rfl (.cons rfl (.cons rfl (.cons rfl (.cons rfl (.cons rfl (.cons rfl (.cons rfl .nil)))))))) (k1 := 16 - (i + 1)) (by omega) ⟨i + 1, _, rfl, rfl, (by rw [flI_succ, ← Bool.and_assoc, show 2 + 2 * (i + 1) = 3 + 2 * i + 1 by omega, intsR_succ]; exact hS102.pick [0, 2, 1, 3, 5, 6, 7, 8] rfl), by omega⟩
  refine wc_exit ?_
  refine qs_then_exit ?_
  refine qs_then_exit ?_
  refine qs_block_exit ?_
  refine qs_seq ?_
  refine wc_seq ?_
  rw [show i = 16 by omega, show 2 + 2 * 16 = 34 from rfl] at hS97
  have hrl4 := intsR_len 34 (r6 s k m)
  refine wc_region ?_
  refine wl_move rfl rfl ?_
  refine wl_fieldAddr rfl fo_38_17 rfl ?_
  refine wl_fieldAddr rfl fo_36_0 rfl ?_
  refine wl_fieldAddr rfl fo_38_17 rfl ?_
  refine wl_fieldAddr rfl fo_36_1 rfl ?_
  refine wl_fieldAddr rfl fo_38_17 rfl ?_
  refine wl_fieldAddr rfl fo_36_2 rfl ?_
  refine wl_fieldAddr rfl fo_38_18 rfl ?_
  refine wl_ptrsBuild bp [56, 57, 58, 59] hS97 rfl rfl Tryz.underlying92 ifz_93 rfl rfl rfl rfl ?_
  intro b103 w103 hS103
  clear hS97
  have hC104 := hS103.split [1, 2, 4] [false, true, true, false, true, false, false, false, false] rfl; dsimp only [selF, pickA, nthA, List.cons_append, List.nil_append] at hC104
  refine wl_callV rfl cal_53 rfl (rints_sp hC104 (hG.starL 5 rfl) (Ent.starL (ent_row (C := ptC bp) (l := [56, 57, 58, 59]) (by simp)) 0 rfl) (by intro o ho; rw [pF_len]; simp at ho ⊢; omega) (by simp) (by first | omega | (simp; omega))) rfl ?_
  rintro e w104 ⟨_, rfl, rfl, hS104⟩; refine ⟨_, rfl, ?_⟩
  replace hS104 := hS104.join rfl; dsimp only [List.dropLast, List.cons_append, List.nil_append] at hS104; clear hC104
  clear hS103
  have hgg := grpT (z := (r6 s k m)) (a := 34) (n := 4) (os := [56, 57, 58, 59]) (H := (intsV 19 (s, false))) (av := av) (fv := fv) (c := txtV (r5 s k m)) (s := []) rfl (by omega) (by intro k h1 h2; omega)
  rw [hgg.1, hgg.2] at hS104
  rw [show intsR (34 + 4) (r6 s k m) = r7 s k m from rfl] at hS104
  have hl7 : (r7 s k m).1.length ≤ s.length := Nat.le_trans (intsR_len 38 _) hl6
  refine wl_nil ?_
  refine qs_seq ?_
  refine wc_sub (L' := [(2, _), (4, _), (5, _), (6, _), (10, _)]) (.cons rfl (.cons rfl (.cons rfl (.cons rfl (.cons rfl .nil))))) ?_
  refine wc_seq ?_
  refine wc_region ?_
  refine wl_load rfl ag_90 (hS104.cell 1 (o := 0) rfl rfl) rfl ?_
  have hC105 := hS104.split [0] [true, false, false, false, false, false, false, false, false] rfl; dsimp only [selF, pickA, nthA, List.cons_append, List.nil_append] at hC105
  refine wl_call cal_58 rfl (rText_sp hC105 (hG.starL 7 rfl) (by omega)) rfl ?_
  rintro e w105 ⟨_, rfl, rfl, hS105⟩; refine ⟨_, rfl, ?_⟩
  replace hS105 := hS105.join rfl; dsimp only [List.dropLast, List.cons_append, List.nil_append] at hS105; clear hC105
  clear hS104
  rw [show txtR (r7 s k m) = r8 s k m from rfl] at hS105
  refine wl_fieldAddr rfl fo_38_19 rfl ?_
  refine wl_store hS105 rfl rfl sz_9 (by first | rfl | assumption | exact hS105.own_one 3 rfl | exact hS105.own_one 5 rfl | exact hS105.own_one 6 rfl) (i := 2) rfl (by rw [pF_len]; omega) ?_
  intro w106 hS106; dsimp only [List.set] at hS106
  clear hS105
  rw [pF_s] at hS106
  refine wl_nil ?_
  refine qs_seq ?_
  refine wc_seq ?_
  refine wc_seq ?_
  refine wc_region ?_
  refine wl_load rfl ag_90 (hS106.cell 1 (o := 0) rfl rfl) rfl ?_
  have hC107 := hS106.split [0] [true, false, false, false, false, false, false, false, false] rfl; dsimp only [selF, pickA, nthA, List.cons_append, List.nil_append] at hC107
  refine wl_call cal_60 rfl (rDone_sp hC107) rfl ?_
  rintro e w107 ⟨_, rfl, rfl, hS107⟩; refine ⟨_, rfl, ?_⟩
  replace hS107 := hS107.join rfl; dsimp only [List.dropLast, List.cons_append, List.nil_append] at hS107; clear hC107
  clear hS106
  refine wl_not rfl rfl ?_
  refine wl_move rfl rfl ?_
  refine wl_split 131 rfl (fun h108 => ?_) (fun h108 => ?_)
  · skip
    refine wl_unwanted rfl rfl h108 rfl ?_
    refine wl_unwanted rfl rfl h108 rfl ?_
    refine wl_pickT rfl h108 rfl rfl ?_
    refine wl_move rfl rfl ?_
    refine wl_unwanted rfl rfl rfl rfl ?_
    refine wl_unwanted rfl rfl rfl rfl ?_
    refine wl_unwanted rfl rfl rfl rfl ?_
    refine wl_unwanted rfl rfl rfl rfl ?_
    refine wl_unwanted rfl rfl rfl rfl ?_
    refine wl_pickT rfl rfl rfl rfl ?_
    refine wl_nil ?_
    refine qs_seq ?_
    refine wc_sub (L' := [(141, _), (2, _), (6, _)]) (.cons rfl (.cons rfl (.cons rfl .nil))) ?_
    refine wc_condT rfl ?_
    refine wc_seq ?_
    refine wc_region ?_
    refine wl_buildS rfl pl_38_ asz_38 zr_38 rfl rfl ?_
    first | (refine wl_storeA hS107 rfl rfl sz_38 rfl (by first | rfl | (simp [allOne, Value.oneCell']; done) | assumption | exact hone) (i := 1) rfl (by first | decide | exact Nat.le_of_ble_eq_true rfl | (simp; done) | omega) ?_) | (refine wl_storeA hS107 rfl rfl sz_38 rfl (by first | rfl | (simp [allOne, Value.oneCell']; done) | assumption | exact hone) (i := 2) rfl (by first | decide | exact Nat.le_of_ble_eq_true rfl | (simp; done) | omega) ?_) | (refine wl_storeA hS107 rfl rfl sz_38 rfl (by first | rfl | (simp [allOne, Value.oneCell']; done) | assumption | exact hone) (i := 4) rfl (by first | decide | exact Nat.le_of_ble_eq_true rfl | (simp; done) | omega) ?_) | (refine wl_storeA hS107 rfl rfl sz_38 rfl (by first | rfl | (simp [allOne, Value.oneCell']; done) | assumption | exact hone) (i := 7) rfl (by first | decide | exact Nat.le_of_ble_eq_true rfl | (simp; done) | omega) ?_)
    intro w109 hS110; dsimp only [List.set] at hS110
    clear hS107
    refine wl_assign rfl rfl ?_
    refine wl_nil ?_
    refine qs_seq ?_
    refine wc_ret ?_
    refine qs_then_ret ?_
    refine finR2 (.inr rfl) rfl (resCA rfl ag_38 sz_38 (by first | exact hS110.blk 1 rfl | exact hS110.blk 2 rfl | exact hS110.blk 4 rfl | exact hS110.blk 7 rfl) (by first | decide | exact Nat.le_of_ble_eq_true rfl | (simp; done) | omega) rfl) (resT rfl) ?_
    have hok : okO s k m = false := by rw [okO_eq, show (!(r8 s k m).2 && decide ((r8 s k m).1 = [])) = false from not_t (by assumption)]; rfl
    have hd := (dec_out hE hs).1
    rw [hok] at hd
    have hd2 : decP s = none := by cases hq : decP s with | none => rfl | some x => rw [hq] at hd; cases hd
    refine ⟨_, rfl, (.slice none 0 0), (.slice none 0 0), ?_, ?_⟩
    · rw [hd2]; simp only [Option.getD_none, Option.isSome_none, procV_eq]; rfl
    · rw [hd2]; simp only [Option.getD_none]; exact (((hS110.pick [8] rfl).row_nil stC).row_nil arC)
  refine wl_guard rfl rfl h108 ?_
  refine wl_load rfl ag_4 (hS107.cell 4 (o := 0) rfl rfl) rfl ?_
  refine wl_guard rfl rfl h108 ?_
  refine wl_not rfl rfl ?_
  refine wl_pickF rfl h108 rfl rfl ?_
  refine wl_move rfl rfl ?_
  refine wl_split 135 rfl (fun h111 => ?_) (fun h111 => ?_)
  · skip
    refine wl_unwanted rfl rfl h111 rfl ?_
    refine wl_unwanted rfl rfl h111 rfl ?_
    refine wl_unwanted rfl rfl h111 rfl ?_
    refine wl_unwanted rfl rfl h111 rfl ?_
    refine wl_unwanted rfl rfl h111 rfl ?_
    refine wl_pickT rfl h111 rfl rfl ?_
    refine wl_nil ?_
    refine qs_seq ?_
    refine wc_sub (L' := [(141, _), (2, _), (6, _)]) (.cons rfl (.cons rfl (.cons rfl .nil))) ?_
    refine wc_condT rfl ?_
    refine wc_seq ?_
    refine wc_region ?_
    refine wl_buildS rfl pl_38_ asz_38 zr_38 rfl rfl ?_
    first | (refine wl_storeA hS107 rfl rfl sz_38 rfl (by first | rfl | (simp [allOne, Value.oneCell']; done) | assumption | exact hone) (i := 1) rfl (by first | decide | exact Nat.le_of_ble_eq_true rfl | (simp; done) | omega) ?_) | (refine wl_storeA hS107 rfl rfl sz_38 rfl (by first | rfl | (simp [allOne, Value.oneCell']; done) | assumption | exact hone) (i := 2) rfl (by first | decide | exact Nat.le_of_ble_eq_true rfl | (simp; done) | omega) ?_) | (refine wl_storeA hS107 rfl rfl sz_38 rfl (by first | rfl | (simp [allOne, Value.oneCell']; done) | assumption | exact hone) (i := 4) rfl (by first | decide | exact Nat.le_of_ble_eq_true rfl | (simp; done) | omega) ?_) | (refine wl_storeA hS107 rfl rfl sz_38 rfl (by first | rfl | (simp [allOne, Value.oneCell']; done) | assumption | exact hone) (i := 7) rfl (by first | decide | exact Nat.le_of_ble_eq_true rfl | (simp; done) | omega) ?_)
    intro w112 hS113; dsimp only [List.set] at hS113
    clear hS107
    refine wl_assign rfl rfl ?_
    refine wl_nil ?_
    refine qs_seq ?_
    refine wc_ret ?_
    refine qs_then_ret ?_
    refine finR2 (.inr rfl) rfl (resCA rfl ag_38 sz_38 (by first | exact hS113.blk 1 rfl | exact hS113.blk 2 rfl | exact hS113.blk 4 rfl | exact hS113.blk 7 rfl) (by first | decide | exact Nat.le_of_ble_eq_true rfl | (simp; done) | omega) rfl) (resT rfl) ?_
    have hok : okO s k m = false := by rw [okO_eq, show (arsF k (r2 s) && flI 16 (r6 s k m)) = false from not_t (by assumption), Bool.and_false]; rfl
    have hd := (dec_out hE hs).1
    rw [hok] at hd
    have hd2 : decP s = none := by cases hq : decP s with | none => rfl | some x => rw [hq] at hd; cases hd
    refine ⟨_, rfl, (.slice none 0 0), (.slice none 0 0), ?_, ?_⟩
    · rw [hd2]; simp only [Option.getD_none, Option.isSome_none, procV_eq]; rfl
    · rw [hd2]; simp only [Option.getD_none]; exact (((hS113.pick [8] rfl).row_nil stC).row_nil arC)
  refine wl_guard rfl rfl h111 ?_
  refine wl_fieldAddr rfl fo_38_11 rfl ?_
  refine wl_guard rfl rfl h111 ?_
  refine wl_load rfl ag_30 (hS107.cell 2 (o := 19) rfl rfl) rfl ?_
  refine wl_guard rfl rfl h111 ?_
  first | refine wl_lenL Tryz.underlying30 rfl rfl ?_ | refine wl_lenO 3 hS107 Tryz.underlying30 rfl rfl rfl ?_ | refine wl_lenO 5 hS107 Tryz.underlying30 rfl rfl rfl ?_ | refine wl_lenO 6 hS107 Tryz.underlying30 rfl rfl rfl ?_
  refine wl_guard rfl rfl h111 ?_
  refine wl_move rfl rfl ?_
  refine wl_guard rfl rfl h111 ?_
  refine wl_neq rfl rfl rfl ?_
  refine wl_pickF rfl h111 rfl rfl ?_
  refine wl_nil ?_
  refine qs_seq ?_
  refine wc_sub (L' := [(141, _), (2, _), (6, _)]) (.cons rfl (.cons rfl (.cons rfl .nil))) ?_
  refine wc_condD rfl (fun h114 => ?_) (fun h114 => ?_)
  · skip
    refine wc_seq ?_
    refine wc_region ?_
    refine wl_buildS rfl pl_38_ asz_38 zr_38 rfl rfl ?_
    first | (refine wl_storeA hS107 rfl rfl sz_38 rfl (by first | rfl | (simp [allOne, Value.oneCell']; done) | assumption | exact hone) (i := 1) rfl (by first | decide | exact Nat.le_of_ble_eq_true rfl | (simp; done) | omega) ?_) | (refine wl_storeA hS107 rfl rfl sz_38 rfl (by first | rfl | (simp [allOne, Value.oneCell']; done) | assumption | exact hone) (i := 2) rfl (by first | decide | exact Nat.le_of_ble_eq_true rfl | (simp; done) | omega) ?_) | (refine wl_storeA hS107 rfl rfl sz_38 rfl (by first | rfl | (simp [allOne, Value.oneCell']; done) | assumption | exact hone) (i := 4) rfl (by first | decide | exact Nat.le_of_ble_eq_true rfl | (simp; done) | omega) ?_) | (refine wl_storeA hS107 rfl rfl sz_38 rfl (by first | rfl | (simp [allOne, Value.oneCell']; done) | assumption | exact hone) (i := 7) rfl (by first | decide | exact Nat.le_of_ble_eq_true rfl | (simp; done) | omega) ?_)
    intro w115 hS116; dsimp only [List.set] at hS116
    clear hS107
    refine wl_assign rfl rfl ?_
    refine wl_nil ?_
    refine qs_seq ?_
    refine wc_ret ?_
    refine qs_then_ret ?_
    refine finR2 (.inr rfl) rfl (resCA rfl ag_38 sz_38 (by first | exact hS116.blk 1 rfl | exact hS116.blk 2 rfl | exact hS116.blk 4 rfl | exact hS116.blk 7 rfl) (by first | decide | exact Nat.le_of_ble_eq_true rfl | (simp; done) | omega) rfl) (resT rfl) ?_
    have hN : ¬ ((k : Int) = nOf s) := by rw [← arsV_len k (r2 s)]; exact (by assumption : ((arsV k (r2 s)).length : Int) ≠ nOf s)
    have hok : okO s k m = false := by rw [okO_eq, decide_eq_false hN, Bool.and_false]
    have hd := (dec_out hE hs).1
    rw [hok] at hd
    have hd2 : decP s = none := by cases hq : decP s with | none => rfl | some x => rw [hq] at hd; cases hd
    refine ⟨_, rfl, (.slice none 0 0), (.slice none 0 0), ?_, ?_⟩
    · rw [hd2]; simp only [Option.getD_none, Option.isSome_none, procV_eq]; rfl
    · rw [hd2]; simp only [Option.getD_none]; exact (((hS116.pick [8] rfl).row_nil stC).row_nil arC)
  refine wc_skip ?_
  refine qs_seq ?_
  refine wc_seq ?_
  have hone := pF_one (H := (intsV 19 (s, false))) (T := intsV 38 (r6 s k m)) (c := txtV (r5 s k m)) (s := txtV (r7 s k m)) (hS107.own_one 5 rfl) (hS107.own_one 6 rfl)
  refine wc_region ?_
  refine wl_loadA rfl ag_38 sz_38 (by first | exact hS107.blk 1 rfl | exact hS107.blk 2 rfl | exact hS107.blk 4 rfl | exact hS107.blk 7 rfl) (by first | decide | exact Nat.le_of_ble_eq_true rfl | (simp; done) | omega) rfl rfl ?_
  first | (refine wl_storeA hS107 rfl rfl sz_38 rfl (by first | rfl | (simp [allOne, Value.oneCell']; done) | assumption | exact hone) (i := 1) rfl (by first | decide | exact Nat.le_of_ble_eq_true rfl | (simp; done) | omega) ?_) | (refine wl_storeA hS107 rfl rfl sz_38 rfl (by first | rfl | (simp [allOne, Value.oneCell']; done) | assumption | exact hone) (i := 2) rfl (by first | decide | exact Nat.le_of_ble_eq_true rfl | (simp; done) | omega) ?_) | (refine wl_storeA hS107 rfl rfl sz_38 rfl (by first | rfl | (simp [allOne, Value.oneCell']; done) | assumption | exact hone) (i := 4) rfl (by first | decide | exact Nat.le_of_ble_eq_true rfl | (simp; done) | omega) ?_) | (refine wl_storeA hS107 rfl rfl sz_38 rfl (by first | rfl | (simp [allOne, Value.oneCell']; done) | assumption | exact hone) (i := 7) rfl (by first | decide | exact Nat.le_of_ble_eq_true rfl | (simp; done) | omega) ?_)
  intro w117 hS118; dsimp only [List.set] at hS118
  clear hS107
  refine wl_assign rfl rfl ?_
  refine wl_nil ?_
  refine qs_seq ?_
  refine wc_ret ?_
  refine finR2 (.inr rfl) rfl (resCA rfl ag_38 sz_38 (by first | exact hS118.blk 1 rfl | exact hS118.blk 2 rfl | exact hS118.blk 4 rfl | exact hS118.blk 7 rfl) (by first | decide | exact Nat.le_of_ble_eq_true rfl | (simp; done) | omega) rfl) (resT rfl) ?_
  have hD : (!(r8 s k m).2 && decide ((r8 s k m).1 = [])) = true := not_f (by assumption)
  have hR : (arsF k (r2 s) && flI 16 (r6 s k m)) = true := not_f (by assumption)
  have hN : (k : Int) = nOf s := by rw [← arsV_len k (r2 s)]; exact Decidable.not_not.1 (by assumption : ¬ ((arsV k (r2 s)).length : Int) ≠ nOf s)
  have hok : okO s k m = true := by rw [okO_eq, hD, hR, decide_eq_true hN]; rfl
  have hd := (dec_out hE hs).2 hok
  refine ⟨_, rfl, av, fv, ?_, ?_⟩
  · rw [hd]; simp only [Option.getD_some, Option.isSome_some, procV_eq]; rfl
  · rw [hd]; simp only [Option.getD_some]; exact hS118.pick [5, 6, 8] rfl
end Go.Proofs.YtcbdclhoekokpaaGreatDoor
