/- names: strings.SplitSeq -/
import Derived.Test.YtkaikhcpcbjkcaaGreatDoorNm3
import Derived.Test.YtkaikhcpcbjkcaaGreatDoorRng
namespace Go.Proofs.YtkaikhcpcbjkcaaGreatDoor
open Go.RowKit M
set_option linter.unusedVariables false
/-- the pieces between slashes -/
def splitB : Bs → List Bs
  | [] => [[]]
  | c :: r => if c = 47 then [] :: splitB r else match splitB r with | [] => [[c]] | x :: t => (c :: x) :: t
theorem splitB_cons (c : UInt8) (r : Bs) : splitB (c :: r) = if c = 47 then [] :: splitB r else match splitB r with | [] => [[c]] | x :: t => (c :: x) :: t := rfl
theorem splitB_one : ∀ {s : Bs}, (47 : UInt8) ∉ s → splitB s = [s]
  | [], _ => rfl
  | c :: r, h => by
    have h1 : c ≠ 47 := fun q => h (by simp [q])
    unfold splitB
    rw [if_neg h1, splitB_one (s := r) fun q => h (List.mem_cons_of_mem _ q)]
theorem splitB_cut : ∀ {s : Bs} {o : Nat}, s[o]? = some 47 → (∀ k, k < o → s[k]? ≠ some 47) → splitB s = s.take o :: splitB (s.drop (o + 1))
  | [], o, h, _ => by simp at h
  | c :: r, 0, h, _ => by
    simp at h; subst h
    rw [splitB_cons, if_pos rfl]; rfl
  | c :: r, o + 1, h, hn => by
    have h1 : c ≠ 47 := fun q => hn 0 (by omega) (by simp [q])
    have h2 := splitB_cut (s := r) (o := o) (by simpa using h) (fun k hk => by have := hn (k + 1) (by omega); simpa using this)
    rw [splitB_cons, if_neg h1, h2]
    rfl
theorem splitB_len {s : Bs} {x : Bs} : x ∈ splitB s → x.length ≤ s.length := by
  induction s generalizing x with
  | nil => intro h; simp [splitB] at h; subst h; simp
  | cons c r ih =>
    intro h
    unfold splitB at h
    split at h
    · rcases List.mem_cons.1 h with rfl | h
      · simp
      · have := ih h; simp; omega
    · split at h
      · simp at h; subst h; simp
      · rename_i y t hy
        rcases List.mem_cons.1 h with rfl | h
        · have := ih (x := y) (by rw [hy]; simp); simp; omega
        · have := ih (x := x) (by rw [hy]; exact List.mem_cons_of_mem _ h); simp; omega
/-- the parts of a path -/
def partsL (path : Bs) : List Bs := (splitB path).filter fun x => !decide (x = [])
def walkV (W : WS) : Bs → List Bs → Bs × Int
  | id, [] => (id, 0)
  | id, p :: ps => if (stepV W id p).2 ≠ 0 then ([], (stepV W id p).2) else walkV W (stepV W id p).1 ps
def resV (W : WS) (cwd path : Bs) : Bs × Int := if begE path ≠ 0 then ([], begE path) else walkV W (begS cwd path) (partsL path)
theorem walkV_app (W : WS) : ∀ (ps qs : List Bs) (id : Bs), walkV W id (ps ++ qs) = if (walkV W id ps).2 ≠ 0 then ([], (walkV W id ps).2) else walkV W (walkV W id ps).1 qs
  | [], qs, id => by simp [walkV]
  | p :: ps, qs, id => by
    rw [List.cons_append, walkV, walkV]
    by_cases h : (stepV W id p).2 ≠ 0
    · rw [if_pos h, if_pos h]; simp [h]
    · rw [if_neg h, if_neg h]; exact walkV_app W ps qs _
/-- how many of the first pieces are parts -/
def cntE (xs : List Bs) (i : Nat) : Nat := ((xs.take i).filter fun x => !decide (x = [])).length
theorem cntE_skip {xs : List Bs} {i : Nat} (h : xs[i]? = some []) : cntE xs (i + 1) = cntE xs i := by
  unfold cntE; rw [List.take_add_one, h]; simp
theorem cntE_add {xs : List Bs} {i : Nat} {x : Bs} (h : xs[i]? = some x) (hx : x ≠ []) : cntE xs (i + 1) = cntE xs i + 1 ∧ (xs.filter fun x => !decide (x = []))[cntE xs i]? = some x := by
  constructor
  · unfold cntE; rw [List.take_add_one, h]; simp [hx]
  · have hi := (List.getElem?_eq_some_iff.1 h).1
    have e : xs = xs.take i ++ x :: xs.drop (i + 1) := by
      rw [List.getElem?_eq_getElem hi] at h
      cases h
      rw [← List.drop_eq_getElem_cons hi, List.take_append_drop]
    conv => lhs; arg 1; rw [e]
    rw [List.filter_append, List.filter_cons, if_pos (by simp [hx])]
    unfold cntE
    rw [List.getElem?_append_right (Nat.le_refl _)]
    simp
theorem cntE_all (xs : List Bs) : cntE xs xs.length = (xs.filter fun x => !decide (x = [])).length := by unfold cntE; rw [List.take_length]
theorem idx_one {s : Bs} {e : UInt8} (h : [e] = s) : (0 : Int) = Lib.indexByte s e := by subst h; simp [Lib.indexByte]
set_option maxRecDepth 100000 in
theorem idxx_sp {w : World} {F : Th} (hS : Sat w [F]) (s : Bs) (e : UInt8) :
    Calls Tryz.prog 106 #[strV s, strV [e]] w (Ret fun v w' => v = intV (Lib.indexByte s e) ∧ Sat w' [F]) := by
 refine calls_enter Tryz.func106 rfl Tryz.ntmps106 rfl ?_
 refine wc_seq (wc_region (wl_assign rfl rfl (wl_nil (qs_seq (wc_seq (wc_region (wl_move rfl rfl ?_)))))))
 refine wl_lenS Tryz.underlying9 rfl rfl ?_
 refine wl_assign rfl rfl (wl_nil (qs_seq (wc_seq (wc_block (wc_seq (wc_region (wl_move rfl rfl ?_)))))))
 refine wl_eql rfl rfl rfl ?_
 refine wl_move rfl rfl ?_
 refine wl_splitD 19 rfl (fun h1 => ?_) (fun h1 => ?_)
 ·simp at h1
 refine wl_guard rfl rfl (decide_eq_false h1) ?_
 refine wl_move rfl rfl ?_
 refine wl_guard rfl rfl (decide_eq_false h1) ?_
 refine wl_move rfl rfl ?_
 refine wl_guard rfl rfl (decide_eq_false h1) ?_
 refine wl_eqlS rfl rfl rfl ?_
 refine wl_pickF rfl (decide_eq_false h1) rfl rfl ?_
 refine wl_assign rfl rfl (wl_nil (qs_seq ?_))
 refine wc_sub (L' := [(16, _), (5, _), (4, _), (0, _), (1, _)]) (.cons rfl (.cons rfl (.cons rfl (.cons rfl (.cons rfl .nil))))) ?_
 refine wc_condD rfl (fun h2 => ?_) (fun h2 => ?_)
 ·refine wc_seq (wc_region (wl_assign rfl rfl (wl_nil (qs_seq (wc_ret (qs_block_ret (qs_then_ret ?_)))))))
  refine fin1 (.inr rfl) rfl rfl ?_
  exact ⟨_, rfl, congrArg intV (idx_one (by assumption)), hS⟩
 refine wc_seq (wc_region (wl_move rfl rfl ?_))
 refine wl_eql rfl rfl rfl ?_
 refine wl_assign rfl rfl (wl_nil (qs_seq ?_))
 refine wc_condD rfl (fun h3 => ?_) (fun h3 => ?_)
 ·refine wc_seq (wc_region (wl_move rfl rfl (wl_move rfl rfl ?_)))
  refine wl_indexS 0 Tryz.underlying9 rfl rfl (by first | rfl | omega) (show ([e] : Bs)[0]? = some e from rfl) rfl ?_
  have hC4 := hS.split [] [false] rfl; dsimp only [selF, pickA, nthA, List.cons_append, List.nil_append] at hC4
  refine wl_call cal_127 rfl (ixb1 hC4 s e) rfl ?_
  rintro e w4 ⟨_, rfl, rfl, hS4⟩; refine ⟨_, rfl, ?_⟩
  replace hS4 := hS4.join rfl; dsimp only [List.dropLast, List.cons_append, List.nil_append] at hS4; clear hC4
  refine wl_assign rfl rfl (wl_nil (qs_seq ?_))
  refine wc_sub (L' := [(4, _), (5, _), (0, _), (1, _)]) (.cons rfl (.cons rfl (.cons rfl (.cons rfl .nil)))) ?_
  refine wc_ret (qs_block_ret (qs_then_ret ?_))
  refine fin1 (.inr rfl) rfl rfl ?_
  exact ⟨_, rfl, rfl, hS4⟩
 exact absurd rfl h3
theorem idxxS_sp {w : World} {F : Th} (hS : Sat w [F]) (s : Bs) (e : UInt8) :
    Calls Tryz.prog 91 #[strV s, strV [e]] w (Ret fun v w' => v = intV (Lib.indexByte s e) ∧ Sat w' [F]) := by
 refine calls_enter Tryz.func91 rfl Tryz.ntmps91 rfl ?_
 refine wc_seq (wc_region (wl_assign rfl rfl (wl_nil (qs_seq (wc_seq (wc_region (wl_move rfl rfl (wl_move rfl rfl ?_))))))))
 have hC1 := hS.split [] [false] rfl; dsimp only [selF, pickA, nthA, List.cons_append, List.nil_append] at hC1
 refine wl_call cal_106 rfl (idxx_sp hC1 s e) rfl ?_
 rintro e w1 ⟨_, rfl, rfl, hS1⟩; refine ⟨_, rfl, ?_⟩
 replace hS1 := hS1.join rfl; dsimp only [List.dropLast, List.cons_append, List.nil_append] at hS1; clear hC1
 refine wl_assign rfl rfl (wl_nil (qs_seq (wc_ret ?_)))
 refine fin1 (.inr rfl) rfl rfl ?_
 exact ⟨_, rfl, rfl, hS1⟩
set_option maxRecDepth 100000 in
set_option maxHeartbeats 1600000 in
theorem split_it {w : World} {l b1 b2 b3 : Nat} {s : Bs} {J : Nat → Th} {Z F : Th} (hS : Sat w [J 0, blkT b1 [strV [47]], blkT b2 [strV s], blkT b3 [intV 0], F]) (hs : s.length ≤ 3000000) (hY : YieldsB Tryz.prog l (splitB s) J Z) :
    Calls Tryz.prog 125 #[.func (.yield l) #[] #[], ptrV b1 0, ptrV b2 0, ptrV b3 0] w (Ret fun v w' => (∃ s', Sat w' [J (splitB s).length, blkT b1 [strV [47]], blkT b2 [strV s'], blkT b3 [intV 0], F]) ∨ (∃ s', Sat w' [Z, blkT b1 [strV [47]], blkT b2 [strV s'], blkT b3 [intV 0], F])) := by
 refine calls_enter Tryz.func125 rfl Tryz.ntmps125 rfl ?_
 refine wc_seq (wc_seq (wc_region ?_))
 refine wl_load rfl ag_9 (by first | assumption | exact hS.cell 1 rfl rfl | exact hS.cell 2 rfl rfl | exact hS.cell 3 rfl rfl) rfl ?_
 refine wl_lenS Tryz.underlying9 rfl rfl ?_
 refine wl_eql rfl rfl rfl ?_
 refine wl_nil (qs_seq ?_)
 refine wc_condD rfl (fun h1 => ?_) (fun h1 => ?_)
 ·exact absurd h1 (by simp)
 refine wc_skip (qs_seq (wc_seq (wc_block ?_)))
 refine wc_loop (fun K0 E0 W0 => ∃ (k : Nat) (r : Bs), K0 = r.length ∧ E0 = [(0, .func (.yield l) #[] #[]), (1, ptrV b1 0), (2, ptrV b2 0), (3, ptrV b3 0)] ∧ Sat W0 [J k, blkT b1 [strV [47]], blkT b2 [strV r], blkT b3 [intV 0], F] ∧ ((splitB s).drop k = splitB r) ∧ (r.length ≤ 3000000)) (L0 := [(0, _), (1, _), (2, _), (3, _)]) (s.length) (.cons rfl (.cons rfl (.cons rfl (.cons rfl .nil)))) ⟨0, s, rfl, rfl, hS, rfl, hs⟩ ?_
 rintro _ _ w2 ⟨k, r, rfl, rfl, hS2, hxs, hrl⟩
 refine wc_block (wc_seq (wc_region ?_))
 refine wl_load rfl ag_9 (by first | assumption | exact hS2.cell 1 rfl rfl | exact hS2.cell 2 rfl rfl | exact hS2.cell 3 rfl rfl) rfl ?_
 refine wl_load rfl ag_9 (by first | assumption | exact hS2.cell 1 rfl rfl | exact hS2.cell 2 rfl rfl | exact hS2.cell 3 rfl rfl) rfl ?_
 have hC3 := hS2.split [] [false, false, false, false, false] rfl; dsimp only [selF, pickA, nthA, List.cons_append, List.nil_append] at hC3
 refine wl_call cal_91 rfl (idxxS_sp hC3 r 47) rfl ?_
 rintro e w3 ⟨_, rfl, rfl, hS3⟩; refine ⟨_, rfl, ?_⟩
 replace hS3 := hS3.join rfl; dsimp only [List.dropLast, List.cons_append, List.nil_append] at hS3; clear hC3
 clear hS2
 refine wl_assign rfl rfl (wl_nil (qs_seq (wc_seq (wc_seq (wc_region (wl_move rfl rfl ?_))))))
 refine wl_lss rfl rfl rfl ?_
 refine wl_nil (qs_seq ?_)
 refine wc_condD rfl (fun h4 => ?_) (fun h4 => ?_)
 ·have hnm : (47 : UInt8) ∉ r := fun q => by have := (ixb_mem r 47).2 q; omega
  have hone := splitB_one hnm
  have hxk : (splitB s)[k]? = some r := by rw [← List.head?_drop, hxs, hone]; rfl
  have hkl : (splitB s).length = k + 1 := by have := congrArg List.length hxs; rw [hone, List.length_drop] at this; simp at this; omega
  refine wc_exit (qs_then_exit ?_)
  refine qs_block_pass rfl ?_
  refine qs_then_exit (qs_block_exit (qs_seq ?_))
  refine wc_regionI ?_
  refine wlI_val rfl (ev_move rfl) ?_
  refine wlI_val rfl (ev_load rfl ag_9 (hS3.cell 2 rfl rfl)) ?_
  have hSy := (hS3.split [0] [true, false, false, false, false] rfl); dsimp only [selF, pickA, nthA, List.cons_append, List.nil_append] at hSy
  refine wlI_yieldB rfl rfl rfl (hY k _ _ _ hxk hSy) ?_
  intro bb w5 hbb
  refine wlI_nil ?_
  refine fin0 (.inl rfl) rfl ?_
  refine ⟨_, rfl, ?_⟩
  rcases hbb with ⟨_, hS5⟩ | ⟨_, hS5⟩
  ·replace hS5 := hS5.join rfl; dsimp only [List.dropLast, List.cons_append, List.nil_append] at hS5; rw [hkl]; exact .inl ⟨_, hS5.pick [0, 1, 2, 3, 4] rfl⟩
  ·replace hS5 := hS5.join rfl; dsimp only [List.dropLast, List.cons_append, List.nil_append] at hS5; exact .inr ⟨_, hS5.pick [0, 1, 2, 3, 4] rfl⟩
 obtain ⟨o, ho⟩ : ∃ o : Nat, Lib.indexByte r 47 = (o : Int) := ⟨(Lib.indexByte r 47).toNat, by omega⟩
 have hos := Lib.indexByte_some ho
 have hol := (List.getElem?_eq_some_iff.1 hos.1).1
 have hcut := splitB_cut hos.1 hos.2
 have hxk : (splitB s)[k]? = some (r.take o) := by rw [← List.head?_drop, hxs, hcut]; rfl
 have hxs2 : (splitB s).drop (k + 1) = splitB (r.drop (o + 1)) := by rw [← List.drop_drop, hxs, hcut]; rfl
 rw [ho]
 refine wc_skip (qs_seq (wc_seq (wc_region ?_)))
 refine wl_load rfl ag_9 (by first | assumption | exact hS3.cell 1 rfl rfl | exact hS3.cell 2 rfl rfl | exact hS3.cell 3 rfl rfl) rfl ?_
 refine wl_move rfl rfl ?_
 refine wl_load rfl ag_3 (by first | assumption | exact hS3.cell 1 rfl rfl | exact hS3.cell 2 rfl rfl | exact hS3.cell 3 rfl rfl) rfl ?_
 refine wl_add rfl rfl (by first | omega | (simp; omega)) (by first | omega | (simp; omega)) rfl ?_
 refine wl_sliceS _ o Tryz.underlying9 rfl (bndN _) (bndS o _ rfl (by first | rfl | omega)) (by first | omega | (simp; omega)) (by first | omega | (simp; omega)) rfl ?_
 refine wl_assign rfl rfl (wl_nil (qs_seq ?_))
 refine wc_sub (L' := [(8, _), (7, _), (0, _), (1, _), (2, _), (3, _)]) (.cons rfl (.cons rfl (.cons rfl (.cons rfl (.cons rfl (.cons rfl .nil)))))) ?_
 refine wc_seq (wc_seq ?_)
 refine wc_regionI ?_
 refine wlI_val rfl (ev_move rfl) ?_
 refine wlI_val rfl (ev_move rfl) ?_
 have hSy := (hS3.split [0] [true, false, false, false, false] rfl); dsimp only [selF, pickA, nthA, List.cons_append, List.nil_append] at hSy
 refine wlI_yieldB rfl rfl rfl (hY k _ _ _ hxk hSy) ?_
 intro bb w5 hbb
 refine wlI_val rfl (ev_not rfl) ?_
 refine wlI_nil ?_
 refine qs_seq ?_
 refine wc_cond rfl (fun h5 => ?_) (fun h5 => ?_)
 ·have hb0 : bb = false := by simpa using h5
  obtain ⟨_, hS5⟩ := hbb.resolve_left (fun q => by rw [hb0] at q; cases q.1)
  replace hS5 := hS5.join rfl; dsimp only [List.dropLast, List.cons_append, List.nil_append] at hS5
  refine wc_ret (qs_then_ret (qs_block_ret (qs_then_ret (qs_block_ret (qs_then_ret ?_)))))
  refine fin0 (.inr rfl) rfl ?_
  exact ⟨_, rfl, .inr ⟨_, hS5.pick [0, 1, 2, 3, 4] rfl⟩⟩
 have hb0 : bb = true := by simpa using h5
 obtain ⟨_, hS5⟩ := hbb.resolve_right (fun q => by rw [hb0] at q; cases q.1)
 replace hS5 := hS5.join rfl; dsimp only [List.dropLast, List.cons_append, List.nil_append] at hS5
 refine wc_skip (qs_seq (wc_region ?_))
 refine wl_load rfl ag_9 (by first | assumption | exact hS5.cell 1 rfl rfl | exact hS5.cell 2 rfl rfl | exact hS5.cell 3 rfl rfl) rfl ?_
 refine wl_move rfl rfl ?_
 refine wl_load rfl ag_9 (by first | assumption | exact hS5.cell 1 rfl rfl | exact hS5.cell 2 rfl rfl | exact hS5.cell 3 rfl rfl) rfl ?_
 refine wl_lenS Tryz.underlying9 rfl rfl ?_
 refine wl_add rfl rfl (by first | omega | (simp; omega)) (by first | omega | (simp; omega)) rfl ?_
 refine wl_sliceS (o + 1) _ Tryz.underlying9 rfl (bndS (o + 1) _ rfl (by first | rfl | omega | (simp; done))) (bndN _) (by first | omega | (simp; omega)) (by first | omega | (simp; omega)) rfl ?_
 first | (refine wl_store hS5 rfl rfl sz_9 (by first | rfl | assumption) (i := 1) rfl (by first | decide | exact Nat.le_of_ble_eq_true rfl | (simp; done) | omega) ?_) | (refine wl_store hS5 rfl rfl sz_9 (by first | rfl | assumption) (i := 2) rfl (by first | decide | exact Nat.le_of_ble_eq_true rfl | (simp; done) | omega) ?_) | (refine wl_store hS5 rfl rfl sz_9 (by first | rfl | assumption) (i := 3) rfl (by first | decide | exact Nat.le_of_ble_eq_true rfl | (simp; done) | omega) ?_)
 intro w6 hS7; dsimp only [List.set] at hS7
 clear hS5
 refine wl_nil (qs_block_normal ?_)
 have hSz := hS7.pick [0, 1, 2, 3, 4] rfl; rw [List.take_length] at hSz
 exact qs_round (L1 := [(0, _), (1, _), (2, _), (3, _)]) (.cons rfl (.cons rfl (.cons rfl (.cons rfl .nil)))) (k1 := (r.drop (o + 1)).length) (by rw [List.length_drop]; have := (List.getElem?_eq_some_iff.1 hos.1).1; omega) ⟨k + 1, r.drop (o + 1), rfl, rfl, hSz, hxs2, by rw [List.length_drop]; omega⟩
theorem splitS0_sp {w : World} {F : Th} (hS : Sat w [F]) (s : Bs) :
    Calls Tryz.prog 105 #[strV s, strV [47], intV 0] w (Ret fun v w' => ∃ b1 b2 b3, v = .func (.func 125) #[] #[ptrV b1 0, ptrV b2 0, ptrV b3 0] ∧ Sat w' [blkT b1 [strV [47]], blkT b2 [strV s], blkT b3 [intV 0], F]) := by
 refine calls_enter Tryz.func105 rfl Tryz.ntmps105 rfl ?_
 refine wc_seq (wc_region ?_)
 refine wl_box hS rfl rfl rfl ?_
 intro b1 w1 hS1
 refine wl_box hS1 rfl rfl rfl ?_
 intro b2 w2 hS2
 clear hS1
 refine wl_box hS2 rfl rfl rfl ?_
 intro b3 w3 hS3
 clear hS2
 refine wl_assign rfl rfl (wl_nil (qs_seq (wc_seq (wc_region ?_))))
 refine wl_makeFunc rfl rfl ?_
 refine wl_assign rfl rfl (wl_nil (qs_seq (wc_ret ?_)))
 refine fin1 (.inr rfl) rfl rfl ?_
 exact ⟨_, rfl, _, _, _, rfl, hS3.pick [1, 2, 0, 3] rfl⟩
theorem splitS_sp {w : World} {F : Th} (hS : Sat w [F]) (s : Bs) :
    Calls Tryz.prog 90 #[strV s, strV [47]] w (Ret fun v w' => ∃ b1 b2 b3, v = .func (.func 125) #[] #[ptrV b1 0, ptrV b2 0, ptrV b3 0] ∧ Sat w' [blkT b1 [strV [47]], blkT b2 [strV s], blkT b3 [intV 0], F]) := by
 refine calls_enter Tryz.func90 rfl Tryz.ntmps90 rfl ?_
 refine wc_seq (wc_region (wl_assign rfl rfl (wl_nil (qs_seq (wc_seq (wc_region (wl_move rfl rfl (wl_move rfl rfl ?_))))))))
 have hC1 := hS.split [] [false] rfl; dsimp only [selF, pickA, nthA, List.cons_append, List.nil_append] at hC1
 refine wl_call cal_105 rfl (splitS0_sp hC1 s) rfl ?_
 rintro e w1 ⟨_, rfl, b1, b2, b3, rfl, hS1⟩; refine ⟨_, rfl, ?_⟩
 replace hS1 := hS1.join rfl; dsimp only [List.dropLast, List.cons_append, List.nil_append] at hS1; clear hC1
 refine wl_assign rfl rfl (wl_nil (qs_seq (wc_ret ?_)))
 refine fin1 (.inr rfl) rfl rfl ?_
 exact ⟨_, rfl, _, _, _, rfl, hS1⟩
end Go.Proofs.YtkaikhcpcbjkcaaGreatDoor
/- names: parts -/
namespace Go.Proofs.YtkaikhcpcbjkcaaGreatDoor
open Go.RowKit M
set_option linter.unusedVariables false
theorem res0 {P : Program} {n : Nat} {L : Env} {w : World} {fn : Func} (hf : fn.results = #[]) (a : Act) (_ha : Fr n L a) : (results fn a.tmps).run P w = .ok (.tuple #[]) w := by simp [results, hf]
set_option maxRecDepth 100000 in
set_option maxHeartbeats 1600000 in
theorem parts_it {w : World} {l c : Nat} {path : Bs} {J : Nat → Th} {Z F : Th} (hS : Sat w [J 0, blkT c [strV path], F]) (hp : path.length ≤ 3000000) (hY : YieldsB Tryz.prog l (partsL path) J Z) :
    Calls Tryz.prog 89 #[.func (.yield l) #[] #[], ptrV c 0] w (Ret fun v w' => (Sat w' [J (partsL path).length, blkT c [strV path], F]) ∨ (Sat w' [Z, blkT c [strV path], F])) := by
 refine calls_enterM Tryz.func89 rfl Tryz.ntmps89 rfl ?_
 refine wc_seq (wc_region ?_)
 refine wl_box hS rfl rfl rfl ?_
 intro y wy hSy0
 refine wl_nil (qs_seq (wc_seq (wc_region ?_)))
 refine wl_load rfl ag_9 (by first | assumption | exact hSy0.cell 0 rfl rfl | exact hSy0.cell 2 rfl rfl) rfl ?_
 have hC1 := hSy0.split [] [false, false, false, false] rfl; dsimp only [selF, pickA, nthA, List.cons_append, List.nil_append] at hC1
 refine wl_call cal_90 rfl (splitS_sp hC1 path) rfl ?_
 rintro e w1 ⟨_, rfl, b1, b2, b3, rfl, hS1⟩; refine ⟨_, rfl, ?_⟩
 replace hS1 := hS1.join rfl; dsimp only [List.dropLast, List.cons_append, List.nil_append] at hS1; clear hC1
 clear hSy0
 refine wl_nil (qs_seq (wc_block ?_))
 refine wc_rangeFuncB (caps := [ptrV b1 0, ptrV b2 0, ptrV b3 0]) rfl cal_125 ?_
 intro rec hr1 hr2 hr3 hr4 hr5 htn htf
 have hE := hS1.enter_loop rec
 have hE2 := hE.split [0, 1, 5, 6, 2, 3, 4] [true, true, true, true, true, true, true, false, false] rfl; dsimp only [selF, pickA, nthA, List.cons_append, List.nil_append] at hE2
 have hE3 := Sat.fold (As := [loopT (w1.heap.size + 1) rec, deferT w1.heap.size, blkT y [.func (.yield l) #[] #[]], J (cntE (splitB path) 0)]) hE2
 refine (split_it (J := fun i : Nat => starL [loopT (w1.heap.size + 1) rec, deferT w1.heap.size, blkT y [.func (.yield l) #[] #[]], J (cntE (splitB path) i)]) (Z := starL [loopT (w1.heap.size + 1) { rec with state := .done, pending := some .ret }, deferT w1.heap.size, blkT y [.func (.yield l) #[] #[]], Z]) hE3 (by omega) ?_).mono ?_
 rotate_left
 ·rintro e w3 ⟨v0, rfl, hq3⟩
  rcases hq3 with ⟨s', hw3⟩ | ⟨s', hw3⟩
  ·have hw4 := (hw3.join rfl); dsimp only [List.dropLast, List.cons_append, List.nil_append] at hw4
   have hw4 := hw4.flat; dsimp only [List.cons_append, List.nil_append] at hw4
   refine ⟨⟨v0, rfl⟩, rec, hw4.loop 0 rfl, by rw [hr1]; simp, .inl ⟨hr2, ?_⟩⟩
   have hw5 := hw4.loop_put 0 rfl (rec' := { (rec : Go.Loop) with state := .exhausted }); dsimp only [List.set] at hw5
   refine qsD_block_normal ?_
   obtain ⟨hD, hZ⟩ := hw5.defer_put (o := .deferred none) 1 rfl
   dsimp only [List.eraseIdx] at hZ
   refine finM (.inl rfl) hD (res0 rfl) ?_
   have hQ := hZ.pick [2, 6, 7] rfl
   rw [cntE_all] at hQ
   exact ⟨_, rfl, .inl hQ⟩
  have hw4 := (hw3.join rfl); dsimp only [List.dropLast, List.cons_append, List.nil_append] at hw4
  have hw4 := hw4.flat; dsimp only [List.cons_append, List.nil_append] at hw4
  refine ⟨⟨v0, rfl⟩, { rec with state := .done, pending := some .ret }, hw4.loop 0 rfl, by simp, .inr ⟨rfl, ?_⟩⟩
  have hw5 := hw4.loop_put 0 rfl (rec' := { ({ rec with state := .done, pending := some .ret } : Go.Loop) with state := .exhausted }); dsimp only [List.set] at hw5
  refine qsD_block_ret ?_
  obtain ⟨hD, hZ⟩ := hw5.defer_put (o := .deferred none) 1 rfl
  dsimp only [List.eraseIdx] at hZ
  refine finM (.inr rfl) hD (res0 rfl) ?_
  exact ⟨_, rfl, .inr (hZ.pick [2, 6, 7] rfl)⟩
 intro i x R w2 hx hw2
 have hw4 := hw2.flat; dsimp only [List.cons_append, List.nil_append] at hw4
 by_cases hxe : x = []
 ·have hce := cntE_skip (hxe ▸ hx)
  refine yield1G (hw4.loop 0 rfl) hr3 hr4 hr5 htn htf rfl ?_
  refine wcI_region (by rintro ⟨_, _, q⟩; exact q) rfl ?_
  refine wl_assign rfl rfl (wl_nil ?_)
  refine qsI_beginB (hw4.loop 0 rfl) hr1 ?_
  have hw7 := hw4.loop_put 0 rfl (rec' := { rec with state := .busy }); dsimp only [List.set] at hw7
  refine wcI_block ?_
  refine wcI_seq ?_
  refine wcYreg ?_
  refine wlR_val rfl (ev_move rfl) (fun c e => by cases e) ?_
  refine wlR_val rfl (ev_neqS rfl rfl) (fun c e => by cases e) ?_
  refine wlR_val rfl (ev_move rfl) (fun c e => by cases e) ?_
  refine wlR_unwanted rfl rfl (by simp [hxe]) rfl ?_
  refine wlR_unwanted rfl rfl (by simp [hxe]) rfl ?_
  refine wlR_unwanted rfl rfl (by simp [hxe]) rfl ?_
  refine wlR_unwanted rfl rfl (by simp [hxe]) rfl ?_
  refine wlR_val rfl (ev_pickF rfl (by simp [hxe]) rfl) (fun c e => by cases e) ?_
  refine wlR_nil ?_
  refine qsI_seq ?_
  refine wcI_sub (L' := [(14, _)]) (.cons rfl .nil) ?_
  refine wcI_condF rfl ?_
  refine wcI_skip ?_
  refine qsI_block_normal ?_
  refine qsI_endB (hw7.loop 0 rfl) hr1 hr2 ?_
  have hw9 := hw7.loop_put 0 rfl (rec' := rec); dsimp only [List.set] at hw9
  refine .inl ⟨rfl, Sat.fold (As := [loopT _ rec, deferT _, blkT y [.func (.yield l) #[] #[]], J (cntE (splitB path) (i + 1))]) ?_⟩
  rw [hce]; exact hw9.pick [0, 1, 2, 3, 4] rfl
 have hce := cntE_add hx hxe
 refine yield1G (hw4.loop 0 rfl) hr3 hr4 hr5 htn htf rfl ?_
 refine wcI_region (by rintro ⟨_, _, q⟩; exact q) rfl ?_
 refine wl_assign rfl rfl (wl_nil ?_)
 refine qsI_beginB (hw4.loop 0 rfl) hr1 ?_
 have hw7 := hw4.loop_put 0 rfl (rec' := { rec with state := .busy }); dsimp only [List.set] at hw7
 refine wcI_block ?_
 refine wcI_seq ?_
 refine wcYreg ?_
 refine wlR_val rfl (ev_move rfl) (fun c e => by cases e) ?_
 refine wlR_val rfl (ev_neqS rfl rfl) (fun c e => by cases e) ?_
 refine wlR_val rfl (ev_move rfl) (fun c e => by cases e) ?_
 refine wlR_guard rfl rfl (by simp [hxe]) (wlR_val rfl (ev_load rfl ag_32 (hw7.cell 2 rfl rfl)) (fun c e => by cases e) ?_)
 refine wlR_guard rfl rfl (by simp [hxe]) (wlR_val rfl (ev_move rfl) (fun c e => by cases e) ?_)
 have hSy := (hw7.split [3] [false, false, false, true, false] rfl); dsimp only [selF, pickA, nthA, List.cons_append, List.nil_append] at hSy
 refine wlR_guard rfl rfl (by simp [hxe]) (wlR_yieldB rfl rfl rfl (hY _ _ _ _ hce.2 hSy) ?_)
 intro bb w5 hbb
 refine wlR_guard rfl rfl (by simp [hxe]) (wlR_val rfl (ev_not rfl) (fun c e => by cases e) ?_)
 refine wlR_val rfl (ev_pickT rfl (by simp [hxe]) rfl) (fun c e => by cases e) ?_
 refine wlR_nil ?_
 refine qsI_seq ?_
 refine wcI_sub (L' := [(14, _)]) (.cons rfl .nil) ?_
 refine wcI_cond rfl (fun h2 => ?_) (fun h2 => ?_)
 ·have hb0 : bb = false := by simpa using h2
  obtain ⟨_, hS5⟩ := hbb.resolve_left (fun q => by rw [hb0] at q; cases q.1)
  replace hS5 := hS5.join rfl; dsimp only [List.dropLast, List.cons_append, List.nil_append] at hS5
  refine wcI_ret ?_
  refine qsI_block_ret ?_
  refine qsI_retB (rec := rec) (hS5.loop 1 rfl) ?_
  have hw9 := hS5.loop_put 1 rfl (rec' := { rec with state := .done, pending := some .ret }); dsimp only [List.set] at hw9
  exact .inr ⟨rfl, Sat.fold (As := [loopT _ _, deferT _, blkT y [.func (.yield l) #[] #[]], Z]) (hw9.pick [1, 2, 3, 0, 4] rfl)⟩
 have hb0 : bb = true := by simpa using h2
 obtain ⟨_, hS5⟩ := hbb.resolve_right (fun q => by rw [hb0] at q; cases q.1)
 replace hS5 := hS5.join rfl; dsimp only [List.dropLast, List.cons_append, List.nil_append] at hS5
 refine wcI_skip ?_
 refine qsI_block_normal ?_
 refine qsI_endB (hS5.loop 1 rfl) hr1 hr2 ?_
 have hw9 := hS5.loop_put 1 rfl (rec' := rec); dsimp only [List.set] at hw9
 refine .inl ⟨rfl, Sat.fold (As := [loopT _ rec, deferT _, blkT y [.func (.yield l) #[] #[]], J (cntE (splitB path) (i + 1))]) ?_⟩
 rw [hce.1]; exact hw9.pick [1, 2, 3, 0, 4] rfl
theorem parts_sp {w : World} {F : Th} (hS : Sat w [F]) (path : Bs) :
    Calls Tryz.prog 49 #[strV path] w (Ret fun v w' => ∃ c, v = .func (.func 89) #[] #[ptrV c 0] ∧ Sat w' [blkT c [strV path], F]) := by
 refine calls_enter Tryz.func49 rfl Tryz.ntmps49 rfl ?_
 refine wc_seq (wc_region ?_)
 refine wl_box hS rfl rfl rfl ?_
 intro b1 w1 hS1
 refine wl_assign rfl rfl (wl_nil (qs_seq (wc_seq (wc_region ?_))))
 refine wl_makeFunc rfl rfl ?_
 refine wl_assign rfl rfl (wl_nil (qs_seq (wc_ret ?_)))
 refine fin1 (.inr rfl) rfl rfl ?_
 exact ⟨_, rfl, _, rfl, hS1⟩
end Go.Proofs.YtkaikhcpcbjkcaaGreatDoor
/- names: Resolve -/
namespace Go.Proofs.YtkaikhcpcbjkcaaGreatDoor
open Go.RowKit M
set_option linter.unusedVariables false
theorem finMR2 {P : Program} {n : Nat} {L : Env} {w : World} {fn : Func} {R : Ending → World → Prop} {r r2 : ResultVar} {v v2 : Value} {e : Exit} {B : Nat} (he : e = .normal ∨ e = .ret) (hB : w.heap[B]? = some (.deferred (some []))) (hf : fn.results = #[r, r2]) (hv : resOk P n L (w.putObj B (.deferred none)) r v) (hv2 : resOk P n L (w.putObj B (.deferred none)) r2 v2) (h : R (.returned (.tuple #[v, v2])) (w.putObj B (.deferred none))) :
    qsD [{ target := .collected B, args := #[] }] n (bodyPostM Fence.wide 0 P fn R) e L w :=
  finM he hB (fun a ha => by rw [results_eq, hf]; simp [hv a ha, hv2 a ha]) h
theorem finM0R2 {P : Program} {n : Nat} {L : Env} {w : World} {fn : Func} {R : Ending → World → Prop} {r r2 : ResultVar} {v v2 : Value} {e : Exit} (he : e = .normal ∨ e = .ret) (hf : fn.results = #[r, r2]) (hv : resOk P n L w r v) (hv2 : resOk P n L w r2 v2) (h : R (.returned (.tuple #[v, v2])) w) : qs n (bodyPostM Fence.wide 0 P fn R) e L w :=
  finM0 he (fun a ha => by rw [results_eq, hf]; simp [hv a ha, hv2 a ha]) h
theorem walkV_take {W : WS} {id : Bs} {xs : List Bs} {i : Nat} {x : Bs} (hx : xs[i]? = some x) (h0 : (walkV W id (xs.take i)).2 = 0) (hs : (stepV W (walkV W id (xs.take i)).1 x).2 = 0) : walkV W id (xs.take (i + 1)) = ((stepV W (walkV W id (xs.take i)).1 x).1, 0) := by
  rw [List.take_add_one, hx, Option.toList_some, walkV_app, if_neg (by simp [h0]), walkV, if_neg (by simp [hs]), walkV]
theorem walkV_err {W : WS} {id : Bs} {xs : List Bs} {i : Nat} {x : Bs} (hx : xs[i]? = some x) (h0 : (walkV W id (xs.take i)).2 = 0) (hs : (stepV W (walkV W id (xs.take i)).1 x).2 ≠ 0) : walkV W id xs = ([], (stepV W (walkV W id (xs.take i)).1 x).2) := by
  have hi := (List.getElem?_eq_some_iff.1 hx).1
  have e : xs = xs.take i ++ x :: xs.drop (i + 1) := by
    rw [List.getElem?_eq_getElem hi] at hx
    cases hx
    rw [← List.drop_eq_getElem_cons hi, List.take_append_drop]
  conv => lhs; rw [e]
  rw [walkV_app, if_neg (by simp [h0]), walkV, if_pos hs]
theorem stepV_len {W : WS} {m : Nat} (h : PI W m) {id p : Bs} (hid : id.length ≤ 900) : (stepV W id p).1.length ≤ 900 := by
  unfold stepV
  split
  · simp
  · split
    · exact hid
    · split
      · have := h.val (kU id); dsimp only; omega
      · split
        · simp
        · split
          · have := h.val (kE id p); dsimp only; omega
          · simp
theorem walkV_len {W : WS} {m : Nat} (h : PI W m) : ∀ {ps : List Bs} {id : Bs}, id.length ≤ 900 → (walkV W id ps).1.length ≤ 900
  | [], id, hid => hid
  | p :: ps, id, hid => by
    unfold walkV
    split
    · simp
    · exact walkV_len h (stepV_len h hid)
theorem begS_len {cwd path : Bs} (h : cwd.length ≤ 900) : (begS cwd path).length ≤ 900 := by
  unfold begS
  split
  · simp
  · split
    · simp
    · split
      · simp
      · exact h
theorem partsL_len {path x : Bs} {i : Nat} (h : (partsL path)[i]? = some x) : x.length ≤ path.length := splitB_len (List.mem_filter.1 (List.mem_of_getElem? h)).1
set_option maxRecDepth 100000 in
set_option maxHeartbeats 1600000 in
theorem resolve_sp {w : World} {p : Nat} {W : WS} {m : Nat} {F : Th} (hS : Sat w [worldT p W, F]) (hG : Ent F WireG) (hP : PI W m) (hm : m ≤ 900) (cwd path : Bs) (hc : cwd.length ≤ 900) (hp : path.length ≤ 3000000) :
    Calls Tryz.prog 11 #[.iface 25 (ptrV p 0), strV cwd, strV path] w (Ret fun v w' => v = .tuple #[strV (resV W cwd path).1, intV (resV W cwd path).2] ∧ Sat w' [worldT p W, F]) := by
 refine calls_enterM Tryz.func11 rfl Tryz.ntmps11 rfl ?_
 refine wc_seq (wc_region ?_)
 refine wl_box hS rfl rfl rfl ?_
 intro bw wbw hSbw
 refine wl_alloc hSbw zr_9 rfl rfl ?_
 intro br w1 hS1
 clear hSbw
 refine wl_alloc hS1 zr_27 rfl rfl ?_
 intro bs w2 hS2
 clear hS1
 refine wl_nil (qs_seq (wc_seq (wc_region (wl_move rfl rfl (wl_move rfl rfl ?_)))))
 have hC3 := hS2.split [] [false, false, false, false, false] rfl; dsimp only [selF, pickA, nthA, List.cons_append, List.nil_append] at hC3
 refine wl_call cal_48 rfl (begin_sp hC3 cwd path (by omega)) rfl ?_
 rintro e w3 ⟨_, rfl, rfl, hS3⟩; refine ⟨_, rfl, ?_⟩
 replace hS3 := hS3.join rfl; dsimp only [List.dropLast, List.cons_append, List.nil_append] at hS3; clear hC3
 clear hS2
 refine wl_move rfl rfl (wl_extract rfl rfl rfl (wl_extract rfl rfl rfl ?_))
 refine wl_alloc hS3 zr_9 rfl rfl ?_
 intro bi w4 hS4
 clear hS3
 refine wl_alloc hS4 zr_27 rfl rfl ?_
 intro be w5 hS5
 clear hS4
 first | (refine wl_store hS5 rfl rfl sz_9 (by first | rfl | assumption) (i := 0) rfl (by first | decide | exact Nat.le_of_ble_eq_true rfl | (simp; done) | omega) ?_) | (refine wl_store hS5 rfl rfl sz_9 (by first | rfl | assumption) (i := 1) rfl (by first | decide | exact Nat.le_of_ble_eq_true rfl | (simp; done) | omega) ?_) | (refine wl_store hS5 rfl rfl sz_9 (by first | rfl | assumption) (i := 2) rfl (by first | decide | exact Nat.le_of_ble_eq_true rfl | (simp; done) | omega) ?_) | (refine wl_store hS5 rfl rfl sz_9 (by first | rfl | assumption) (i := 3) rfl (by first | decide | exact Nat.le_of_ble_eq_true rfl | (simp; done) | omega) ?_) | (refine wl_store hS5 rfl rfl sz_9 (by first | rfl | assumption) (i := 4) rfl (by first | decide | exact Nat.le_of_ble_eq_true rfl | (simp; done) | omega) ?_)
 intro w6 hS7; dsimp only [List.set] at hS7
 clear hS5
 first | (refine wl_store hS7 rfl rfl sz_27 (by first | rfl | assumption) (i := 0) rfl (by first | decide | exact Nat.le_of_ble_eq_true rfl | (simp; done) | omega) ?_) | (refine wl_store hS7 rfl rfl sz_27 (by first | rfl | assumption) (i := 1) rfl (by first | decide | exact Nat.le_of_ble_eq_true rfl | (simp; done) | omega) ?_) | (refine wl_store hS7 rfl rfl sz_27 (by first | rfl | assumption) (i := 2) rfl (by first | decide | exact Nat.le_of_ble_eq_true rfl | (simp; done) | omega) ?_) | (refine wl_store hS7 rfl rfl sz_27 (by first | rfl | assumption) (i := 3) rfl (by first | decide | exact Nat.le_of_ble_eq_true rfl | (simp; done) | omega) ?_) | (refine wl_store hS7 rfl rfl sz_27 (by first | rfl | assumption) (i := 4) rfl (by first | decide | exact Nat.le_of_ble_eq_true rfl | (simp; done) | omega) ?_)
 intro w8 hS9; dsimp only [List.set] at hS9
 clear hS7
 refine wl_nil (qs_seq ?_)
 refine wc_sub (L' := [(9, _), (8, _), (7, _), (6, _), (3, _), (2, _)]) (.cons rfl (.cons rfl (.cons rfl (.cons rfl (.cons rfl (.cons rfl .nil)))))) ?_
 refine wc_seq (wc_seq (wc_region ?_))
 refine wl_load rfl ag_27 (by first | assumption | exact hS9.cell 0 rfl rfl | exact hS9.cell 1 rfl rfl | exact hS9.cell 2 rfl rfl | exact hS9.cell 3 rfl rfl | exact hS9.cell 4 rfl rfl) rfl ?_
 refine wl_neq rfl rfl rfl ?_
 refine wl_nil (qs_seq ?_)
 refine wc_condD rfl (fun h10 => ?_) (fun h10 => ?_)
 ·refine wc_seq ?_
  have hS11 := hS9.drew
  refine wc_draw [0, 1, 2] [1, 2] mix (by kernel_rfl) ?_
  refine vc_q rfl rfl rfl (ev_load rfl ag_27 (by first | assumption | exact hS11.cell 0 rfl rfl | exact hS11.cell 1 rfl rfl | exact hS11.cell 2 rfl rfl | exact hS11.cell 3 rfl rfl | exact hS11.cell 4 rfl rfl)) ?_
  refine vc_s rfl rfl rfl rfl rfl rfl ?_
  first | (refine wl_store hS11 rfl rfl sz_9 (by first | rfl | assumption) (i := 0) rfl (by first | decide | exact Nat.le_of_ble_eq_true rfl | (simp; done) | omega) ?_) | (refine wl_store hS11 rfl rfl sz_9 (by first | rfl | assumption) (i := 1) rfl (by first | decide | exact Nat.le_of_ble_eq_true rfl | (simp; done) | omega) ?_) | (refine wl_store hS11 rfl rfl sz_9 (by first | rfl | assumption) (i := 2) rfl (by first | decide | exact Nat.le_of_ble_eq_true rfl | (simp; done) | omega) ?_) | (refine wl_store hS11 rfl rfl sz_9 (by first | rfl | assumption) (i := 3) rfl (by first | decide | exact Nat.le_of_ble_eq_true rfl | (simp; done) | omega) ?_) | (refine wl_store hS11 rfl rfl sz_9 (by first | rfl | assumption) (i := 4) rfl (by first | decide | exact Nat.le_of_ble_eq_true rfl | (simp; done) | omega) ?_)
  intro w12 hS13; dsimp only [List.set] at hS13
  clear hS11
  refine vc_e0 (.cons (.inl ⟨rfl, (ev_load rfl ag_27 (by first | assumption | exact hS13.cell 0 rfl rfl | exact hS13.cell 1 rfl rfl | exact hS13.cell 2 rfl rfl | exact hS13.cell 3 rfl rfl | exact hS13.cell 4 rfl rfl))⟩) .nil) ?_
  refine vc_s rfl rfl rfl rfl rfl rfl ?_
  first | (refine wl_store hS13 rfl rfl sz_27 (by first | rfl | assumption) (i := 0) rfl (by first | decide | exact Nat.le_of_ble_eq_true rfl | (simp; done) | omega) ?_) | (refine wl_store hS13 rfl rfl sz_27 (by first | rfl | assumption) (i := 1) rfl (by first | decide | exact Nat.le_of_ble_eq_true rfl | (simp; done) | omega) ?_) | (refine wl_store hS13 rfl rfl sz_27 (by first | rfl | assumption) (i := 2) rfl (by first | decide | exact Nat.le_of_ble_eq_true rfl | (simp; done) | omega) ?_) | (refine wl_store hS13 rfl rfl sz_27 (by first | rfl | assumption) (i := 3) rfl (by first | decide | exact Nat.le_of_ble_eq_true rfl | (simp; done) | omega) ?_) | (refine wl_store hS13 rfl rfl sz_27 (by first | rfl | assumption) (i := 4) rfl (by first | decide | exact Nat.le_of_ble_eq_true rfl | (simp; done) | omega) ?_)
  intro w14 hS15; dsimp only [List.set] at hS15
  clear hS13
  refine vc_e0 (.skip (by kernel_rfl) .nil) ?_
  refine VC.nil (qs_seq (wc_ret (qs_then_ret ?_)))
  refine finM0R2 (.inr rfl) rfl (resC rfl ag_9 (hS15.cell 3 rfl rfl)) (resC rfl ag_27 (hS15.cell 2 rfl rfl)) ?_
  exact ⟨_, rfl, by unfold resV; rw [if_pos (by assumption)], hS15.pick [5, 6] rfl⟩
 have hb0 : begE path = 0 := Decidable.not_not.1 h10
 refine wc_skip (qs_seq (wc_seq (wc_seq (wc_region (wl_move rfl rfl ?_)))))
 have hC16 := hS9.split [] [false, false, false, false, false, false, false] rfl; dsimp only [selF, pickA, nthA, List.cons_append, List.nil_append] at hC16
 refine wl_call cal_49 rfl (parts_sp hC16 path) rfl ?_
 rintro e w16 ⟨_, rfl, c, rfl, hS16⟩; refine ⟨_, rfl, ?_⟩
 replace hS16 := hS16.join rfl; dsimp only [List.dropLast, List.cons_append, List.nil_append] at hS16; clear hC16
 clear hS9
 refine wl_nil (qs_seq (wc_block ?_))
 refine wc_rangeFuncB (caps := [ptrV c 0]) rfl cal_89 ?_
 intro rec hr1 hr2 hr3 hr4 hr5 htn htf
 have hE := hS16.enter_loop rec
 have hE2 := hE.split [0, 1, 4, 3, 6, 5, 7, 8, 9, 2] [true, true, true, true, true, true, true, true, true, true] rfl; dsimp only [selF, pickA, nthA, List.cons_append, List.nil_append] at hE2
 rw [hb0] at hE2
 have hE2 := (Sat.pure_intro (φ := (walkV W (begS cwd path) ((partsL path).take 0)).2 = 0) (by rfl) hE2).reorder [1, 2, 0, 3, 4, 5, 6, 7, 8, 9, 10, 11] rfl; dsimp only [pickA, nthA] at hE2
 have hE3 := Sat.fold (As := [loopT (w16.heap.size + 1) rec, deferT w16.heap.size, pureT ((walkV W (begS cwd path) ((partsL path).take 0)).2 = 0), blkT bi [strV (walkV W (begS cwd path) ((partsL path).take 0)).1], blkT be [intV 0], blkT br [strV []], blkT bs [intV 0], blkT bw [.iface 25 (ptrV p 0)], worldT p W, F]) hE2
 refine (parts_it (J := fun i : Nat => starL [loopT (w16.heap.size + 1) rec, deferT w16.heap.size, pureT ((walkV W (begS cwd path) ((partsL path).take i)).2 = 0), blkT bi [strV (walkV W (begS cwd path) ((partsL path).take i)).1], blkT be [intV 0], blkT br [strV []], blkT bs [intV 0], blkT bw [.iface 25 (ptrV p 0)], worldT p W, F]) (Z := starL [loopT (w16.heap.size + 1) { rec with state := .done, pending := some .ret }, deferT w16.heap.size, pureT ((walkV W (begS cwd path) (partsL path)).1 = []), blkT br [strV []], blkT bs [intV (walkV W (begS cwd path) (partsL path)).2], worldT p W, F]) hE3 (by omega) ?_).mono ?_
 rotate_left
 ·rintro e w3 ⟨v0, rfl, hq3⟩
  rcases hq3 with ⟨hw3⟩ | ⟨hw3⟩
  ·have hw4 := (hw3.join rfl); dsimp only [List.dropLast, List.cons_append, List.nil_append] at hw4
   have hw4 := hw4.flat; dsimp only [List.cons_append, List.nil_append] at hw4
   refine ⟨⟨v0, rfl⟩, rec, hw4.loop 0 rfl, by rw [hr1]; simp, .inl ⟨hr2, ?_⟩⟩
   have hw5 := hw4.loop_put 0 rfl (rec' := { (rec : Go.Loop) with state := .exhausted }); dsimp only [List.set] at hw5
   refine qsD_block_normal ?_
   refine qsD_seq ?_
   refine wcD_seq ?_
   refine wcD_region ?_
   refine wl_load rfl ag_9 (by first | assumption | exact hw5.cell 3 rfl rfl | exact hw5.cell 4 rfl rfl | exact hw5.cell 5 rfl rfl | exact hw5.cell 6 rfl rfl | exact hw5.cell 7 rfl rfl | exact hw5.cell 10 rfl rfl) rfl ?_
   first | (refine wl_store hw5 rfl rfl sz_9 (by first | rfl | assumption) (i := 3) rfl (by first | decide | exact Nat.le_of_ble_eq_true rfl | (simp; done) | omega) ?_) | (refine wl_store hw5 rfl rfl sz_9 (by first | rfl | assumption) (i := 4) rfl (by first | decide | exact Nat.le_of_ble_eq_true rfl | (simp; done) | omega) ?_) | (refine wl_store hw5 rfl rfl sz_9 (by first | rfl | assumption) (i := 5) rfl (by first | decide | exact Nat.le_of_ble_eq_true rfl | (simp; done) | omega) ?_) | (refine wl_store hw5 rfl rfl sz_9 (by first | rfl | assumption) (i := 6) rfl (by first | decide | exact Nat.le_of_ble_eq_true rfl | (simp; done) | omega) ?_) | (refine wl_store hw5 rfl rfl sz_9 (by first | rfl | assumption) (i := 7) rfl (by first | decide | exact Nat.le_of_ble_eq_true rfl | (simp; done) | omega) ?_) | (refine wl_store hw5 rfl rfl sz_9 (by first | rfl | assumption) (i := 10) rfl (by first | decide | exact Nat.le_of_ble_eq_true rfl | (simp; done) | omega) ?_)
   intro w17 hS18; dsimp only [List.set] at hS18
   clear hw5
   first | (refine wl_store hS18 rfl rfl sz_27 (by first | rfl | assumption) (i := 3) rfl (by first | decide | exact Nat.le_of_ble_eq_true rfl | (simp; done) | omega) ?_) | (refine wl_store hS18 rfl rfl sz_27 (by first | rfl | assumption) (i := 4) rfl (by first | decide | exact Nat.le_of_ble_eq_true rfl | (simp; done) | omega) ?_) | (refine wl_store hS18 rfl rfl sz_27 (by first | rfl | assumption) (i := 5) rfl (by first | decide | exact Nat.le_of_ble_eq_true rfl | (simp; done) | omega) ?_) | (refine wl_store hS18 rfl rfl sz_27 (by first | rfl | assumption) (i := 6) rfl (by first | decide | exact Nat.le_of_ble_eq_true rfl | (simp; done) | omega) ?_) | (refine wl_store hS18 rfl rfl sz_27 (by first | rfl | assumption) (i := 7) rfl (by first | decide | exact Nat.le_of_ble_eq_true rfl | (simp; done) | omega) ?_) | (refine wl_store hS18 rfl rfl sz_27 (by first | rfl | assumption) (i := 10) rfl (by first | decide | exact Nat.le_of_ble_eq_true rfl | (simp; done) | omega) ?_)
   intro w19 hS20; dsimp only [List.set] at hS20
   clear hS18
   refine wl_nil ?_
   refine qsD_of ?_
   refine qsD_seq ?_
   refine wcD_sub (L' := [(7, _), (6, _)]) (.cons rfl (.cons rfl .nil)) ?_
   refine wcD_ret ?_
   have hpu := (hS20.pull 2 rfl).pure_elim.1
   obtain ⟨hD, hZ⟩ := hS20.defer_put (o := .deferred none) 1 rfl
   dsimp only [List.eraseIdx] at hZ
   refine finMR2 (.inr rfl) hD rfl (resC rfl ag_9 (hZ.cell 4 rfl rfl)) (resC rfl ag_27 (hZ.cell 5 rfl rfl)) ?_
   rw [List.take_length] at hpu ⊢
   exact ⟨_, rfl, by unfold resV; rw [if_neg (by simp [hb0]), hpu], hZ.pick [7, 8] rfl⟩
  have hw4 := (hw3.join rfl); dsimp only [List.dropLast, List.cons_append, List.nil_append] at hw4
  have hw4 := hw4.flat; dsimp only [List.cons_append, List.nil_append] at hw4
  refine ⟨⟨v0, rfl⟩, { rec with state := .done, pending := some .ret }, hw4.loop 0 rfl, by simp, .inr ⟨rfl, ?_⟩⟩
  have hw5 := hw4.loop_put 0 rfl (rec' := { ({ rec with state := .done, pending := some .ret } : Go.Loop) with state := .exhausted }); dsimp only [List.set] at hw5
  refine qsD_block_ret ?_
  refine qsD_then_ret ?_
  have hpu := (hw5.pull 2 rfl).pure_elim.1
  obtain ⟨hD, hZ⟩ := hw5.defer_put (o := .deferred none) 1 rfl
  dsimp only [List.eraseIdx] at hZ
  refine finMR2 (.inr rfl) hD rfl (resC rfl ag_9 (hZ.cell 2 rfl rfl)) (resC rfl ag_27 (hZ.cell 3 rfl rfl)) ?_
  exact ⟨_, rfl, by unfold resV; rw [if_neg (by simp [hb0]), hpu], hZ.pick [4, 5] rfl⟩
 intro i x R w2 hx hw2
 have hw4 := hw2.flat; dsimp only [List.cons_append, List.nil_append] at hw4
 have hpu := (hw4.pull 2 rfl).pure_elim.1
 refine yield1G (hw4.loop 0 rfl) hr3 hr4 hr5 htn htf rfl ?_
 refine wcI_region (by rintro ⟨_, _, q⟩; exact q) rfl ?_
 refine wl_assign rfl rfl (wl_nil ?_)
 refine qsI_beginB (hw4.loop 0 rfl) hr1 ?_
 have hw7 := hw4.loop_put 0 rfl (rec' := { rec with state := .busy }); dsimp only [List.set] at hw7
 refine wcI_block ?_
 refine wcI_seq ?_
 refine wcI_region (by rintro ⟨_, _, q⟩; exact q) rfl ?_
 refine wl_load rfl ag_82 (by first | assumption | exact hw7.cell 3 rfl rfl | exact hw7.cell 4 rfl rfl | exact hw7.cell 5 rfl rfl | exact hw7.cell 6 rfl rfl | exact hw7.cell 7 rfl rfl) rfl ?_
 refine wl_load rfl ag_9 (by first | assumption | exact hw7.cell 3 rfl rfl | exact hw7.cell 4 rfl rfl | exact hw7.cell 5 rfl rfl | exact hw7.cell 6 rfl rfl | exact hw7.cell 7 rfl rfl) rfl ?_
 refine wl_move rfl rfl ?_
 have hC21 := hw7.split [8] [false, false, false, false, false, false, false, false, true, false, false] rfl; dsimp only [selF, pickA, nthA, List.cons_append, List.nil_append] at hC21
 refine wl_call cal_50 rfl (step_sp hC21 (hG.starL 8 rfl) hP.tb (walkV W (begS cwd path) ((partsL path).take i)).1 x (by have := walkV_len hP (ps := (partsL path).take i) (begS_len (path := path) hc); omega) (by have := partsL_len hx; omega)) rfl ?_
 rintro e w21 ⟨_, rfl, rfl, hS21⟩; refine ⟨_, rfl, ?_⟩
 replace hS21 := hS21.join rfl; dsimp only [List.dropLast, List.cons_append, List.nil_append] at hS21; clear hC21
 clear hw7
 refine wl_move rfl rfl (wl_extract rfl rfl rfl (wl_extract rfl rfl rfl ?_))
 first | (refine wl_store hS21 rfl rfl sz_9 (by first | rfl | assumption) (i := 4) rfl (by first | decide | exact Nat.le_of_ble_eq_true rfl | (simp; done) | omega) ?_) | (refine wl_store hS21 rfl rfl sz_9 (by first | rfl | assumption) (i := 5) rfl (by first | decide | exact Nat.le_of_ble_eq_true rfl | (simp; done) | omega) ?_) | (refine wl_store hS21 rfl rfl sz_9 (by first | rfl | assumption) (i := 6) rfl (by first | decide | exact Nat.le_of_ble_eq_true rfl | (simp; done) | omega) ?_) | (refine wl_store hS21 rfl rfl sz_9 (by first | rfl | assumption) (i := 7) rfl (by first | decide | exact Nat.le_of_ble_eq_true rfl | (simp; done) | omega) ?_) | (refine wl_store hS21 rfl rfl sz_9 (by first | rfl | assumption) (i := 8) rfl (by first | decide | exact Nat.le_of_ble_eq_true rfl | (simp; done) | omega) ?_)
 intro w22 hS23; dsimp only [List.set] at hS23
 clear hS21
 first | (refine wl_store hS23 rfl rfl sz_27 (by first | rfl | assumption) (i := 4) rfl (by first | decide | exact Nat.le_of_ble_eq_true rfl | (simp; done) | omega) ?_) | (refine wl_store hS23 rfl rfl sz_27 (by first | rfl | assumption) (i := 5) rfl (by first | decide | exact Nat.le_of_ble_eq_true rfl | (simp; done) | omega) ?_) | (refine wl_store hS23 rfl rfl sz_27 (by first | rfl | assumption) (i := 6) rfl (by first | decide | exact Nat.le_of_ble_eq_true rfl | (simp; done) | omega) ?_) | (refine wl_store hS23 rfl rfl sz_27 (by first | rfl | assumption) (i := 7) rfl (by first | decide | exact Nat.le_of_ble_eq_true rfl | (simp; done) | omega) ?_) | (refine wl_store hS23 rfl rfl sz_27 (by first | rfl | assumption) (i := 8) rfl (by first | decide | exact Nat.le_of_ble_eq_true rfl | (simp; done) | omega) ?_)
 intro w24 hS25; dsimp only [List.set] at hS25
 clear hS23
 refine wl_nil ?_
 refine qsI_seq ?_
 refine wcI_sub (L' := [(9, _), (7, _), (6, _)]) (.cons rfl (.cons rfl (.cons rfl .nil))) ?_
 refine wcI_seq ?_
 refine wcI_region (by rintro ⟨_, _, q⟩; exact q) rfl ?_
 refine wl_load rfl ag_27 (by first | assumption | exact hS25.cell 4 rfl rfl | exact hS25.cell 5 rfl rfl | exact hS25.cell 6 rfl rfl | exact hS25.cell 7 rfl rfl | exact hS25.cell 8 rfl rfl) rfl ?_
 refine wl_neq rfl rfl rfl ?_
 refine wl_nil ?_
 refine qsI_seq ?_
 refine wcI_condD rfl (fun h26 => ?_) (fun h26 => ?_)
 ·refine wcI_seq ?_
  have hS27 := hS25.drew
  refine wcI_draws (by rintro ⟨_, _, q⟩; exact q) rfl mix ?_
  refine dr_vc (sp := [1, 2]) [0, 1, 2] (by kernel_rfl) ?_
  refine vc_q rfl rfl rfl (ev_load rfl ag_27 (by first | assumption | exact hS27.cell 4 rfl rfl | exact hS27.cell 5 rfl rfl | exact hS27.cell 6 rfl rfl | exact hS27.cell 7 rfl rfl | exact hS27.cell 8 rfl rfl)) ?_
  refine vc_s rfl rfl rfl rfl rfl rfl ?_
  first | (refine wl_store hS27 rfl rfl sz_9 (by first | rfl | assumption) (i := 4) rfl (by first | decide | exact Nat.le_of_ble_eq_true rfl | (simp; done) | omega) ?_) | (refine wl_store hS27 rfl rfl sz_9 (by first | rfl | assumption) (i := 5) rfl (by first | decide | exact Nat.le_of_ble_eq_true rfl | (simp; done) | omega) ?_) | (refine wl_store hS27 rfl rfl sz_9 (by first | rfl | assumption) (i := 6) rfl (by first | decide | exact Nat.le_of_ble_eq_true rfl | (simp; done) | omega) ?_) | (refine wl_store hS27 rfl rfl sz_9 (by first | rfl | assumption) (i := 7) rfl (by first | decide | exact Nat.le_of_ble_eq_true rfl | (simp; done) | omega) ?_) | (refine wl_store hS27 rfl rfl sz_9 (by first | rfl | assumption) (i := 8) rfl (by first | decide | exact Nat.le_of_ble_eq_true rfl | (simp; done) | omega) ?_)
  intro w28 hS29; dsimp only [List.set] at hS29
  clear hS27
  refine vc_e0 (.cons (.inl ⟨rfl, (ev_load rfl ag_27 (by first | assumption | exact hS29.cell 4 rfl rfl | exact hS29.cell 5 rfl rfl | exact hS29.cell 6 rfl rfl | exact hS29.cell 7 rfl rfl | exact hS29.cell 8 rfl rfl))⟩) .nil) ?_
  refine vc_s rfl rfl rfl rfl rfl rfl ?_
  first | (refine wl_store hS29 rfl rfl sz_27 (by first | rfl | assumption) (i := 4) rfl (by first | decide | exact Nat.le_of_ble_eq_true rfl | (simp; done) | omega) ?_) | (refine wl_store hS29 rfl rfl sz_27 (by first | rfl | assumption) (i := 5) rfl (by first | decide | exact Nat.le_of_ble_eq_true rfl | (simp; done) | omega) ?_) | (refine wl_store hS29 rfl rfl sz_27 (by first | rfl | assumption) (i := 6) rfl (by first | decide | exact Nat.le_of_ble_eq_true rfl | (simp; done) | omega) ?_) | (refine wl_store hS29 rfl rfl sz_27 (by first | rfl | assumption) (i := 7) rfl (by first | decide | exact Nat.le_of_ble_eq_true rfl | (simp; done) | omega) ?_) | (refine wl_store hS29 rfl rfl sz_27 (by first | rfl | assumption) (i := 8) rfl (by first | decide | exact Nat.le_of_ble_eq_true rfl | (simp; done) | omega) ?_)
  intro w30 hS31; dsimp only [List.set] at hS31
  clear hS29
  refine vc_e0 (.skip (by kernel_rfl) .nil) ?_
  refine VC.nil ?_
  refine qsI_seq ?_
  refine wcI_ret ?_
  refine qsI_block_ret ?_
  refine qsI_retB (rec := rec) (hS31.loop 1 rfl) ?_
  have hw9 := hS31.loop_put 1 rfl (rec' := { rec with state := .done, pending := some .ret }); dsimp only [List.set] at hw9
  have her := walkV_err hx hpu (by assumption)
  have hS9 := hw9.pick [1, 2, 6, 7, 0, 9, 10] rfl
  refine .inr ⟨rfl, Sat.fold (As := [loopT _ _, deferT _, pureT ((walkV W (begS cwd path) (partsL path)).1 = []), blkT br [strV []], blkT bs [intV (walkV W (begS cwd path) (partsL path)).2], worldT p W, F]) ?_⟩
  rw [her]; exact (Sat.pure_intro rfl hS9).reorder [1, 2, 0, 3, 4, 5, 6, 7] rfl
 refine wcI_skip ?_
 refine qsI_block_normal ?_
 refine qsI_endB (hS25.loop 1 rfl) hr1 hr2 ?_
 have hw9 := hS25.loop_put 1 rfl (rec' := rec); dsimp only [List.set] at hw9
 have hwk := walkV_take hx hpu (Decidable.not_not.1 (by assumption))
 have hS9 := hw9.pick [1, 2, 4, 5, 6, 7, 8, 0, 9, 10] rfl
 rw [show (stepV W (walkV W (begS cwd path) ((partsL path).take i)).1 x).2 = 0 from Decidable.not_not.1 (by assumption)] at hS9
 refine .inl ⟨rfl, Sat.fold (As := [loopT _ rec, deferT _, pureT ((walkV W (begS cwd path) ((partsL path).take (i + 1))).2 = 0), blkT bi [strV (walkV W (begS cwd path) ((partsL path).take (i + 1))).1], blkT be [intV 0], blkT br [strV []], blkT bs [intV 0], blkT bw [.iface 25 (ptrV p 0)], worldT p W, F]) ?_⟩
 rw [hwk]; exact (Sat.pure_intro rfl hS9).reorder [1, 2, 0, 3, 4, 5, 6, 7, 8, 9, 10] rfl
end Go.Proofs.YtkaikhcpcbjkcaaGreatDoor
