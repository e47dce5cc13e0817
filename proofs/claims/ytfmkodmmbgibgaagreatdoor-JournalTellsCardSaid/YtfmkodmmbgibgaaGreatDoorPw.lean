/- wire: texts -/
import Derived.Test.YtfmkodmmbgibgaaGreatDoorShelf
namespace Go.Proofs.YtfmkodmmbgibgaaGreatDoor
open Go.RowKit M
set_option linter.unusedVariables false
theorem cutV_pre {e : UInt8} {l : Bs} {b : Bool} : cutV e (l, b) = if Lib.hasPrefix l [e] = true then (l.drop 1, b) else ([], true) := by
  cases l with
  | nil => rfl
  | cons c l =>
    have hp : Lib.hasPrefix (c :: l) [e] = decide (c = e) := by
      unfold Lib.hasPrefix
      rw [Bool.eq_iff_iff]
      simp only [List.isPrefixOf, Bool.and_true, beq_iff_eq, decide_eq_true_eq]
      exact ⟨fun q => q.symm, fun q => q.symm⟩
    rw [hp]
    simp only [cutV, decide_eq_true_eq, List.drop_succ_cons, List.drop_zero]
theorem numV_nn (e : UInt8) (s : Bs × Bool) : 0 ≤ numV e 0 s := by
  unfold numV
  split
  · rename_i n r h; exact (numP_some h).2.2
  · omega
theorem numR_len (e : UInt8) (l : Int) (s : Bs × Bool) : (numR e l s).1.length ≤ s.1.length := by
  unfold numR
  split
  · rename_i n r h; rw [(numP_some h).1]; simp only [List.length_append, List.length_cons]; omega
  · simp
theorem cutV_len (e : UInt8) (s : Bs × Bool) : (cutV e s).1.length ≤ s.1.length := by
  obtain ⟨l, b⟩ := s
  cases l with
  | nil => simp [cutV]
  | cons c l => simp only [cutV]; split <;> simp
theorem numV_in (e : UInt8) (least : Int) (s : Bs × Bool) : inI (numV e least s) := by
  unfold numV
  split
  · rename_i n r h; exact (numP_some h).2.1
  · unfold inI; omega
theorem hpi0 {w : World} {As : List Th} (hS : Sat w As) (s t : Bs) : Calls Tryz.prog 171 #[strV s, strV t] w (Ret fun v w' => v = .bool (Lib.hasPrefix s t) ∧ Sat w' As) :=
  (Tryz.stringslite_HasPrefix ⟨s.toArray⟩ ⟨t.toArray⟩ w).mono fun e w' ⟨h1, h2⟩ => ⟨_, h1, rfl, by rw [h2]; exact hS⟩
theorem hasPrefix_len {s t : Bs} (h : Lib.hasPrefix s t = true) : t.length ≤ s.length := by
  unfold Lib.hasPrefix at h
  exact (List.isPrefixOf_iff_prefix.1 h).length_le
theorem cutIn_sp {w : World} {F : Th} (hS : Sat w [F]) (s t : Bs) :
    Calls Tryz.prog 162 #[strV s, strV t] w (Ret fun v w' => v = .tuple #[strV (if Lib.hasPrefix s t = true then s.drop t.length else s), .bool (Lib.hasPrefix s t)] ∧ Sat w' [F]) := by
 refine calls_enter Tryz.func162 rfl Tryz.ntmps162 rfl ?_
 refine wc_seq (wc_region (wl_assign rfl rfl (wl_assign rfl rfl (wl_nil (qs_seq (wc_seq (wc_seq (wc_region (wl_move rfl rfl (wl_move rfl rfl ?_))))))))))
 have hC1 := hS.split [] [false] rfl; dsimp only [selF, pickA, nthA, List.cons_append, List.nil_append] at hC1
 refine wl_call cal_171 rfl (hpi0 hC1 s t) rfl ?_
 rintro e w1 ⟨_, rfl, rfl, hS1⟩; refine ⟨_, rfl, ?_⟩
 replace hS1 := hS1.join rfl; dsimp only [List.dropLast, List.cons_append, List.nil_append] at hS1; clear hC1
 refine wl_not rfl rfl ?_
 refine wl_nil (qs_seq ?_)
 refine wc_cond rfl (fun h2 => ?_) (fun h2 => ?_)
 ·refine wc_seq (wc_region (wl_move rfl rfl (wl_assign rfl rfl (wl_assign rfl rfl (wl_nil (qs_seq (wc_ret (qs_then_ret ?_))))))))
  refine fin2 (.inr rfl) rfl rfl rfl ?_
  exact ⟨_, rfl, by rw [if_neg (by simp_all), show Lib.hasPrefix s t = false by simp_all], hS1⟩
 have htl : t.length ≤ s.length := hasPrefix_len (by simp_all)
 refine wc_skip (qs_seq (wc_seq (wc_region (wl_move rfl rfl (wl_move rfl rfl ?_)))))
 refine wl_lenS Tryz.underlying9 rfl rfl ?_
 refine wl_sliceS t.length s.length Tryz.underlying9 rfl (bndS t.length _ rfl rfl) (bndN _) (by omega) (by omega) rfl ?_
 rw [List.take_length]
 refine wl_assign rfl rfl (wl_assign rfl rfl (wl_nil (qs_seq ?_)))
 refine wc_sub (L' := [(5, _), (4, _)]) (.cons rfl (.cons rfl .nil)) ?_
 refine wc_ret ?_
 refine fin2 (.inr rfl) rfl rfl rfl ?_
 exact ⟨_, rfl, by rw [if_pos (by simp_all), show Lib.hasPrefix s t = true by simp_all], hS1⟩
theorem cutS_sp {w : World} {F : Th} (hS : Sat w [F]) (s t : Bs) :
    Calls Tryz.prog 145 #[strV s, strV t] w (Ret fun v w' => v = .tuple #[strV (if Lib.hasPrefix s t = true then s.drop t.length else s), .bool (Lib.hasPrefix s t)] ∧ Sat w' [F]) := by
 refine calls_enter Tryz.func145 rfl Tryz.ntmps145 rfl ?_
 refine wc_seq (wc_region (wl_assign rfl rfl (wl_assign rfl rfl (wl_nil (qs_seq (wc_seq (wc_region (wl_move rfl rfl (wl_move rfl rfl ?_)))))))))
 have hC1 := hS.split [] [false] rfl; dsimp only [selF, pickA, nthA, List.cons_append, List.nil_append] at hC1
 refine wl_call cal_162 rfl (cutIn_sp hC1 s t) rfl ?_
 rintro e w1 ⟨_, rfl, rfl, hS1⟩; refine ⟨_, rfl, ?_⟩
 replace hS1 := hS1.join rfl; dsimp only [List.dropLast, List.cons_append, List.nil_append] at hS1; clear hC1
 refine wl_extract rfl rfl rfl (wl_extract rfl rfl rfl (wl_assign rfl rfl (wl_assign rfl rfl (wl_nil (qs_seq (wc_ret ?_))))))
 refine fin2 (.inr rfl) rfl rfl rfl ?_
 exact ⟨_, rfl, rfl, hS1⟩
theorem wText_sp {w : World} {F : Th} (hS : Sat w [F]) (hG : Ent F WireG) (s : Bs) (hs : s.length ≤ 20000000) :
    Calls Tryz.prog 86 #[strV s] w (Ret fun v w' => v = strV (encT s) ∧ Sat w' [F]) := by
 refine calls_enter Tryz.func86 rfl Tryz.ntmps86 rfl ?_
 refine wc_seq (wc_region (wl_assign rfl rfl (wl_nil (qs_seq (wc_seq (wc_region (wl_move rfl rfl ?_)))))))
 refine wl_lenS Tryz.underlying9 rfl rfl ?_
 have hC1 := hS.split [] [false] rfl; dsimp only [selF, pickA, nthA, List.cons_append, List.nil_append] at hC1
 refine wl_call cal_109 rfl (itoa0 hC1 (Ent.sat (hG.starL 0 rfl) hC1 0 rfl) (s.length : Int) (by unfold inI; omega)) rfl ?_
 rintro e w1 ⟨_, rfl, rfl, hS1⟩; refine ⟨_, rfl, ?_⟩
 replace hS1 := hS1.join rfl; dsimp only [List.dropLast, List.cons_append, List.nil_append] at hS1; clear hC1
 have hil := itoa_len (n := (s.length : Int)) (by unfold inI; omega)
 refine wl_concat rfl rfl (by first | omega | (simp; omega)) rfl ?_
 refine wl_move rfl rfl ?_
 refine wl_concat rfl rfl (by first | omega | (simp; omega)) rfl ?_
 refine wl_concat rfl rfl (by first | omega | (simp; omega)) rfl ?_
 refine wl_assign rfl rfl (wl_nil (qs_seq (wc_ret ?_)))
 refine fin1 (.inr rfl) rfl rfl ?_
 exact ⟨_, rfl, by simp [encT], hS1⟩
theorem rClose_sp {w : World} {F : Th} {b : Nat} {s : Bs × Bool} (hS : Sat w [readT b s, F]) (e : UInt8) :
    Calls Tryz.prog 128 #[ptrV b 0, strV [e]] w (Ret fun v w' => v = .tuple #[] ∧ Sat w' [readT b (cutV e s), F]) := by
 obtain ⟨r, q⟩ := s
 change Sat w [blkT b [strV r, .bool q], F] at hS
 refine calls_enter Tryz.func128 rfl Tryz.ntmps128 rfl ?_
 refine wc_seq (wc_region (wl_move rfl rfl (wl_nilCheck rfl rfl ?_)))
 refine wl_fieldAddr rfl fo_143_0 rfl ?_
 refine wl_load rfl ag_9 (by first | assumption | exact hS.cell 0 rfl rfl) rfl ?_
 refine wl_move rfl rfl ?_
 have hC1 := hS.split [] [false, false] rfl; dsimp only [selF, pickA, nthA, List.cons_append, List.nil_append] at hC1
 refine wl_call cal_145 rfl (cutS_sp hC1 r [e]) rfl ?_
 rintro e w1 ⟨_, rfl, rfl, hS1⟩; refine ⟨_, rfl, ?_⟩
 replace hS1 := hS1.join rfl; dsimp only [List.dropLast, List.cons_append, List.nil_append] at hS1; clear hC1
 refine wl_move rfl rfl (wl_extract rfl rfl rfl (wl_extract rfl rfl rfl (wl_assign rfl rfl (wl_assign rfl rfl (wl_nil (qs_seq ?_))))))
 refine wc_sub (L' := [(5, _), (4, _), (0, _)]) (.cons rfl (.cons rfl (.cons rfl .nil))) ?_
 refine wc_seq (wc_region (wl_move rfl rfl (wl_move rfl rfl (wl_nilCheck rfl rfl ?_))))
 refine wl_fieldAddr rfl fo_143_0 rfl ?_
 first | (refine wl_store hS1 rfl rfl sz_9 (by first | rfl | assumption) (i := 0) rfl (by first | decide | exact Nat.le_of_ble_eq_true rfl | (simp; done) | omega) ?_)
 intro w2 hS3; dsimp only [List.set] at hS3
 clear hS1
 refine wl_nil (qs_seq (wc_seq (wc_region (wl_move rfl rfl ?_))))
 refine wl_not rfl rfl ?_
 refine wl_nil (qs_seq ?_)
 refine wc_cond rfl (fun h4 => ?_) (fun h4 => ?_)
 ·have hp1 : ¬ Lib.hasPrefix r [e] = true := by simp_all
  rw [if_neg hp1] at hS3
  refine wc_region (wl_move rfl rfl ?_)
  have hC5 := hS3.split [0] [true, false] rfl; dsimp only [selF, pickA, nthA, List.cons_append, List.nil_append] at hC5
  refine wl_call cal_125 rfl (wFail_sp (s := (r, q)) hC5) rfl ?_
  rintro e w5 ⟨_, rfl, rfl, hS5⟩; refine ⟨_, rfl, ?_⟩
  replace hS5 := hS5.join rfl; dsimp only [List.dropLast, List.cons_append, List.nil_append] at hS5; clear hC5
  clear hS3
  refine wl_nil ?_
  refine fin0 (.inl rfl) rfl ?_
  exact ⟨_, rfl, rfl, by rw [cutV_pre, if_neg (by simp_all)]; exact hS5⟩
 have hp1 : Lib.hasPrefix r [e] = true := by simp_all
 rw [if_pos hp1] at hS3
 refine wc_skip ?_
 refine fin0 (.inl rfl) rfl ?_
 exact ⟨_, rfl, rfl, by rw [cutV_pre, if_pos (by simp_all)]; exact hS3⟩
set_option maxRecDepth 100000 in
theorem rText_sp {w : World} {F : Th} {b : Nat} {s : Bs × Bool} (hS : Sat w [readT b s, F]) (hG : Ent F WireG) (hrl : s.1.length ≤ 20000000) :
    Calls Tryz.prog 111 #[ptrV b 0] w (Ret fun v w' => v = strV (txtV s) ∧ Sat w' [readT b (txtR s), F]) := by
 refine calls_enter Tryz.func111 rfl Tryz.ntmps111 rfl ?_
 refine wc_seq (wc_region (wl_assign rfl rfl (wl_nil (qs_seq (wc_seq (wc_region (wl_move rfl rfl ?_)))))))
 have hC1 := hS.split [0] [true, false] rfl; dsimp only [selF, pickA, nthA, List.cons_append, List.nil_append] at hC1
 refine wl_call cal_108 rfl (number_sp hC1 (hG.starL 0 rfl) 58 0 (by omega)) rfl ?_
 rintro e w1 ⟨_, rfl, rfl, hS1⟩; refine ⟨_, rfl, ?_⟩
 replace hS1 := hS1.join rfl; dsimp only [List.dropLast, List.cons_append, List.nil_append] at hS1; clear hC1
 obtain ⟨k, hk⟩ : ∃ k : Nat, numV 58 0 s = (k : Int) := ⟨(numV 58 0 s).toNat, by have := numV_nn 58 s; omega⟩
 rw [hk]
 have hnl := numR_len 58 0 s
 rcases hN : numR 58 0 s with ⟨r1, q1⟩
 rw [hN] at hS1 hnl
 dsimp only at hnl
 change Sat w1 [blkT b [strV r1, .bool q1], F] at hS1
 refine wl_assign rfl rfl (wl_nil (qs_seq (wc_seq (wc_seq (wc_region (wl_move rfl rfl (wl_move rfl rfl (wl_nilCheck rfl rfl ?_))))))))
 refine wl_fieldAddr rfl fo_143_0 rfl ?_
 refine wl_load rfl ag_9 (by first | assumption | exact hS1.cell 0 rfl rfl) rfl ?_
 refine wl_lenS Tryz.underlying9 rfl rfl ?_
 refine wl_gtr rfl rfl rfl ?_
 refine wl_nil (qs_seq ?_)
 refine wc_sub (L' := [(13, _), (3, _), (2, _), (0, _)]) (.cons rfl (.cons rfl (.cons rfl (.cons rfl .nil)))) ?_
 refine wc_condD rfl (fun h2 => ?_) (fun h2 => ?_)
 ·refine wc_seq (wc_region (wl_move rfl rfl ?_))
  have hC3 := hS1.split [0] [true, false] rfl; dsimp only [selF, pickA, nthA, List.cons_append, List.nil_append] at hC3
  refine wl_call cal_125 rfl (wFail_sp (s := (r1, q1)) hC3) rfl ?_
  rintro e w3 ⟨_, rfl, rfl, hS3⟩; refine ⟨_, rfl, ?_⟩
  replace hS3 := hS3.join rfl; dsimp only [List.dropLast, List.cons_append, List.nil_append] at hS3; clear hC3
  clear hS1
  refine wl_nil (qs_seq (wc_seq (wc_region (wl_assign rfl rfl (wl_nil (qs_seq (wc_ret (qs_then_ret ?_))))))))
  refine fin1 (.inr rfl) rfl rfl ?_
  exact ⟨_, rfl, by unfold txtV; rw [hN, hk]; dsimp only; rw [if_pos (by omega)], by unfold txtR; rw [hN, hk]; dsimp only; rw [if_pos (by omega)]; exact hS3⟩
 refine wc_skip (qs_seq (wc_seq (wc_region (wl_move rfl rfl (wl_nilCheck rfl rfl ?_)))))
 refine wl_fieldAddr rfl fo_143_0 rfl ?_
 refine wl_load rfl ag_9 (by first | assumption | exact hS1.cell 0 rfl rfl) rfl ?_
 refine wl_move rfl rfl ?_
 refine wl_sliceS 0 k Tryz.underlying9 rfl (bndN _) (bndS k _ rfl rfl) (by omega) (by omega) rfl ?_
 rw [List.drop_zero]
 refine wl_assign rfl rfl (wl_nil (qs_seq ?_))
 refine wc_sub (L' := [(4, _), (3, _), (2, _), (0, _)]) (.cons rfl (.cons rfl (.cons rfl (.cons rfl .nil)))) ?_
 refine wc_seq (wc_region (wl_move rfl rfl (wl_move rfl rfl (wl_nilCheck rfl rfl ?_))))
 refine wl_fieldAddr rfl fo_143_0 rfl ?_
 refine wl_load rfl ag_9 (by first | assumption | exact hS1.cell 0 rfl rfl) rfl ?_
 refine wl_move rfl rfl ?_
 refine wl_sliceS k r1.length Tryz.underlying9 rfl (bndS k _ rfl rfl) (bndN _) (by omega) (by omega) rfl ?_
 rw [List.take_length]
 refine wl_nilCheck rfl rfl ?_
 refine wl_fieldAddr rfl fo_143_0 rfl ?_
 first | (refine wl_store hS1 rfl rfl sz_9 (by first | rfl | assumption) (i := 0) rfl (by first | decide | exact Nat.le_of_ble_eq_true rfl | (simp; done) | omega) ?_)
 intro w4 hS5; dsimp only [List.set] at hS5
 clear hS1
 refine wl_nil (qs_seq ?_)
 refine wc_sub (L' := [(4, _), (2, _), (0, _)]) (.cons rfl (.cons rfl (.cons rfl .nil))) ?_
 refine wc_seq (wc_seq (wc_region (wl_move rfl rfl ?_)))
 have hC6 := hS5.split [0] [true, false] rfl; dsimp only [selF, pickA, nthA, List.cons_append, List.nil_append] at hC6
 refine wl_call cal_128 rfl (rClose_sp (s := (r1.drop k, q1)) hC6 44) rfl ?_
 rintro e w6 ⟨_, rfl, rfl, hS6⟩; refine ⟨_, rfl, ?_⟩
 replace hS6 := hS6.join rfl; dsimp only [List.dropLast, List.cons_append, List.nil_append] at hS6; clear hC6
 clear hS5
 rcases hC2 : cutV 44 (r1.drop k, q1) with ⟨r2, q2⟩
 rw [hC2] at hS6
 refine wl_nil (qs_seq (wc_seq (wc_region (wl_move rfl rfl (wl_nilCheck rfl rfl ?_)))))
 refine wl_fieldAddr rfl fo_143_1 rfl ?_
 refine wl_load rfl ag_4 (by first | assumption | exact hS6.cell 0 rfl rfl) rfl ?_
 refine wl_nil (qs_seq ?_)
 refine wc_cond rfl (fun h7 => ?_) (fun h7 => ?_)
 ·obtain rfl : q2 = true := h7
  refine wc_seq (wc_region (wl_assign rfl rfl (wl_nil (qs_seq (wc_ret (qs_then_ret ?_))))))
  refine fin1 (.inr rfl) rfl rfl ?_
  exact ⟨_, rfl, by unfold txtV; rw [hN, hk]; dsimp only; rw [if_neg (by omega), Int.toNat_natCast, hC2]; first | done | rfl, by unfold txtR; rw [hN, hk]; dsimp only; rw [if_neg (by omega), Int.toNat_natCast, hC2]; exact hS6⟩
 obtain rfl : q2 = false := h7
 refine wc_skip (qs_seq (wc_seq (wc_region (wl_move rfl rfl (wl_assign rfl rfl (wl_nil (qs_seq (wc_ret ?_))))))))
 refine fin1 (.inr rfl) rfl rfl ?_
 exact ⟨_, rfl, by unfold txtV; rw [hN, hk]; dsimp only; rw [if_neg (by omega), Int.toNat_natCast, hC2]; first | done | rfl, by unfold txtR; rw [hN, hk]; dsimp only; rw [if_neg (by omega), Int.toNat_natCast, hC2]; exact hS6⟩
end Go.Proofs.YtfmkodmmbgibgaaGreatDoor
/- journal, in plain data: what a crash leaves -/
namespace Go.Proofs.YtfmkodmmbgibgaaGreatDoor
open Go.RowKit M
set_option linter.unusedVariables false
theorem encN_len {n : Int} (h : inI n) : (encN n).length ≤ 21 := by
  have := (itoa_len h).1
  unfold encN; rw [List.length_append, List.length_singleton]; omega
theorem int_cons {m : Int} {rest : Bs} (hm : inI m) : iV (encN m ++ rest, false) = m ∧ iR (encN m ++ rest, false) = (rest, false) := by
  have e : encN m ++ rest = Lib.itoa m ++ 59 :: rest := by simp [encN]
  unfold iV iR
  rw [e]
  exact num_cons (by decide) hm (by unfold inI at hm; unfold imin; omega)
theorem nat_cons {m : Nat} {rest : Bs} (hm : m ≤ 20000000) : numV 59 0 (encN (m : Int) ++ rest, false) = m ∧ numR 59 0 (encN (m : Int) ++ rest, false) = (rest, false) := by
  have e : encN (m : Int) ++ rest = Lib.itoa (m : Int) ++ 59 :: rest := by simp [encN]
  rw [e]
  exact num_cons (by decide) (by unfold inI; omega) (by omega)
theorem right_mem {l : List Blk} (h : rightJ l = true) : l.length ≤ 2048 ∧ ∀ b ∈ l, 0 ≤ b.n ∧ b.n < 2048 ∧ b.d.length ≤ 64 := by
  unfold rightJ at h
  rw [Bool.and_eq_true, decide_eq_true_eq, List.all_eq_true] at h
  refine ⟨h.1, fun b hb => ?_⟩
  have := h.2 b hb
  simp only [okB, Bool.not_eq_true', Bool.or_eq_false_iff, decide_eq_false_iff_not] at this
  omega
theorem blk_cons {b : Blk} {rest : Bs} (hn : inI b.n) (hd : b.d.length ≤ 20000000) : bkV (encB b ++ rest, false) = b ∧ txtR (iR (encB b ++ rest, false)) = (rest, false) := by
  unfold encB bkV
  rw [List.append_assoc]
  obtain ⟨h1, h2⟩ := int_cons (rest := encT b.d ++ rest) hn
  obtain ⟨h3, h4⟩ := txt_cons (rest := rest) hd
  rw [h1, h2, h3, h4]; exact ⟨rfl, rfl⟩
theorem bkSt_front : ∀ (k : Nat) (s : St), bkSt (k + 1) s = bkSt k (txtR (iR s))
  | 0, _ => rfl
  | k + 1, s => by rw [bkSt_succ, bkSt_front k s]; rfl
theorem bksV_front (k : Nat) (s : St) : bksV (k + 1) s = bkV s :: bksV k (txtR (iR s)) := by
  unfold bksV
  rw [List.range_succ_eq_map, List.map_cons, List.map_map]
  congr 1
  refine List.map_congr_left fun j _ => ?_
  show bkV (bkSt (j + 1) s) = _
  rw [bkSt_front]
theorem bks_enc : ∀ {l : List Blk}, (∀ b ∈ l, inI b.n ∧ b.d.length ≤ 20000000) → bksV l.length (l.flatMap encB, false) = l
  | [], _ => rfl
  | b :: l, h => by
    obtain ⟨h1, h2⟩ := blk_cons (rest := l.flatMap encB) (h b (by simp)).1 (h b (by simp)).2
    rw [List.length_cons, bksV_front, List.flatMap_cons, h1, h2, bks_enc fun x hx => h x (by simp [hx])]
theorem dec_right {l : List Blk} (h : rightJ l = true) : rawJ (encJ l) = l ∧ okJ (encJ l) = true := by
  obtain ⟨h1, h2⟩ := right_mem h
  obtain ⟨h3, h4⟩ := nat_cons (m := l.length) (rest := l.flatMap encB) (by omega)
  have e : rawJ (encJ l) = l := by
    unfold rawJ cntJ encJ
    rw [h3, h4, show (min ((l.length : Nat) : Int) 2049).toNat = l.length by omega]
    exact bks_enc fun b hb => by have := h2 b hb; unfold inI; omega
  exact ⟨e, by unfold okJ; rw [e, h]; simp⟩
theorem encB_len {b : Blk} (h : 0 ≤ b.n ∧ b.n < 2048 ∧ b.d.length ≤ 64) : (encB b).length ≤ 110 := by
  have h1 := encN_len (n := b.n) (by unfold inI; omega)
  have h2 := (itoa_len (n := (b.d.length : Int)) (by unfold inI; omega)).1
  unfold encB encT
  simp only [List.length_append, List.length_cons, List.length_nil]; omega
theorem flatB_len : ∀ {l : List Blk}, (∀ b ∈ l, 0 ≤ b.n ∧ b.n < 2048 ∧ b.d.length ≤ 64) → (l.flatMap encB).length ≤ 110 * l.length
  | [], _ => by simp
  | b :: l, h => by
    have h1 := encB_len (h b (by simp))
    have h2 := flatB_len (l := l) fun x hx => h x (by simp [hx])
    rw [List.flatMap_cons, List.length_append, List.length_cons]; omega
theorem encJ_len {l : List Blk} (h : rightJ l = true) : (encJ l).length ≤ 300000 ∧ 0 < (encJ l).length := by
  obtain ⟨h1, h2⟩ := right_mem h
  have h3 := flatB_len h2
  have h4 := encN_len (n := (l.length : Int)) (by unfold inI; omega)
  unfold encJ
  rw [List.length_append]
  refine ⟨by omega, ?_⟩
  have : 0 < (encN (l.length : Int)).length := by unfold encN; simp
  omega
/-- bytes -/
def byJ (s : Bytes) (j : Nat) : UInt8 := (s[j]?).getD 0
theorem by_put {s t : Bytes} {a j : Nat} : byJ (putB s a t) j = if a ≤ j ∧ j < a + t.length then byJ t (j - a) else byJ s j := by
  unfold putB byJ
  by_cases ht : t = []
  · rw [if_pos ht, if_neg (by subst ht; simp)]
  · rw [if_neg ht]
    have hlen : ((s ++ List.replicate (a - s.length) 0).take a).length = a := by simp; omega
    by_cases h1 : j < a
    · rw [List.append_assoc, List.getElem?_append_left (by omega), if_neg (by omega), List.getElem?_take, if_pos h1]
      by_cases h2 : j < s.length
      · rw [List.getElem?_append_left h2]
      · rw [List.getElem?_append_right (by omega), List.getElem?_eq_none (l := s) (by omega), List.getElem?_replicate]; split <;> rfl
    · by_cases h2 : j < a + t.length
      · rw [if_pos ⟨by omega, h2⟩, List.append_assoc, List.getElem?_append_right (by omega), hlen, List.getElem?_append_left (by omega)]
      · rw [if_neg (by omega), List.getElem?_append_right (by rw [List.length_append, hlen]; omega), List.getElem?_drop, List.length_append, hlen]
        congr 2; omega
/-- the block n of a home is d -/
def HomeAt (s : Bytes) (n : Nat) (d : Bytes) : Prop := hdrJ s n = d.length ∧ d.length ≤ 64 ∧ (s.drop (128 * n + 64)).take d.length = d
theorem home_put {s t d : Bytes} {a n : Nat} (h : HomeAt s n d) (h1 : ¬ (a ≤ 128 * n ∧ 128 * n < a + t.length)) (h2 : a + t.length ≤ 128 * n + 64 ∨ 128 * n + 64 + d.length ≤ a) : HomeAt (putB s a t) n d := by
  obtain ⟨g1, g2, g3⟩ := h
  refine ⟨?_, g2, reg_put g3 h2⟩
  show (byJ (putB s a t) (128 * n)).toNat = _
  rw [by_put, if_neg h1]; exact g1
theorem home_blk {s d : Bytes} {n : Nat} (h : HomeAt s n d) : blkJ s n = d := by
  obtain ⟨g1, g2, g3⟩ := h
  unfold blkJ
  rw [g1]
  by_cases hd : d = []
  · subst hd; rw [if_neg (by simp)]
  · have := reg_len g3 hd
    have h0 := List.length_pos_iff.2 hd
    rw [if_pos ⟨h0, g2, by omega⟩]; exact g3
def Ran (B : Int → Bytes) : Prop := ∀ k, ¬ (0 ≤ k ∧ k < 2048) → B k = []
theorem home_load {s : Bytes} {B : Int → Bytes} (h : ∀ n : Nat, n < 2048 → HomeAt s n (B n)) (hr : Ran B) : loadB s = B := by
  funext k; unfold loadB
  split
  · rename_i q
    have := home_blk (h k.toNat (by omega))
    rw [this, Int.toNat_of_nonneg q.1]
  · rename_i q; exact (hr k q).symm
theorem withB_cons (B : Int → Bytes) (b : Blk) (l : List Blk) : withB B (b :: l) = withB (updB B b.n b.d) l := rfl
theorem withB_ne : ∀ {l : List Blk} {B : Int → Bytes} {k : Int}, (∀ b ∈ l, b.n ≠ k) → withB B l k = B k
  | [], _, _, _ => rfl
  | b :: l, B, k, h => by
    rw [withB_cons, withB_ne fun x hx => h x (by simp [hx])]
    unfold updB; rw [if_neg fun e => h b (by simp) e.symm]
theorem withB_ran {l : List Blk} {B : Int → Bytes} (hr : Ran B) (h : rightJ l = true) : Ran (withB B l) := fun k hk => by
  rw [withB_ne fun b hb e => by have := (right_mem h).2 b hb; omega]
  exact hr k hk
/-- a home in which all blocks but those of X stand -/
structure Hm (D : DS) (f : Int) (X : Nat → Prop) (B : Int → Bytes) : Prop where
  now : ∀ n : Nat, n < 2048 → ¬ X n → HomeAt (D.F f).1 n (B n)
  last : ∀ n : Nat, n < 2048 → ¬ X n → HomeAt (D.F f).2 n (B n)
  pend : ∀ p ∈ D.Q, p.1 = f → ∃ n : Nat, X n ∧ (p.2 = 2 * n ∨ p.2 = 2 * n + 1)
theorem Hm.congr {D D' : DS} {f : Int} {X : Nat → Prop} {B : Int → Bytes} (h : Hm D f X B) (hF : D'.F f = D.F f) (hQ : ∀ p ∈ D'.Q, p.1 = f → p ∈ D.Q) : Hm D' f X B :=
  ⟨by rw [hF]; exact h.now, by rw [hF]; exact h.last, fun p hp hpf => h.pend p (hQ p hp hpf) hpf⟩
theorem Hm.crash {D : DS} {f : Int} {X : Nat → Prop} {B : Int → Bytes} (h : Hm D f X B) (ks : List Int) : Hm (crashD D ks) f X B := by
  unfold crashD
  split
  · exact h
  · obtain ⟨_, h2⟩ := surv_ind (f := f) (N := (D.F f).1) (keep := ks) (fun s => ∀ n : Nat, n < 2048 → ¬ X n → HomeAt s n (B n)) D.Q 0 D.F rfl h.last (fun s p hp hpf hs hl => by
      intro n hn hx
      obtain ⟨m, hm, hp2⟩ := h.pend p hp hpf
      have hne : m ≠ n := fun e => hx (e ▸ hm)
      have hl64 : (List.take 64 (List.drop (64 * p.2).toNat (D.F f).1)).length ≤ 64 := by rw [List.length_take]; omega
      have hd := (hs n hn hx).2.1
      refine home_put (hs n hn hx) ?_ ?_ <;> omega)
    exact ⟨h2, h2, fun p hp => by cases hp⟩
theorem Hm.add {D : DS} {f : Int} {X : Nat → Prop} {B : Int → Bytes} (h : Hm D f X B) {n : Nat} (hx : X n) {a : Int} {s : Bytes} (ha : (a = 128 * n ∧ s.length = 1) ∨ (a = 128 * n + 64 ∧ s.length ≤ 64)) : Hm (addD D f a s) f X B := by
  refine ⟨fun m hm hxm => ?_, fun m hm hxm => ?_, fun p hp hpf => ?_⟩
  · rw [add_F]
    have hne : m ≠ n := fun e => hxm (e ▸ hx)
    have hd := (h.now m hm hxm).2.1
    refine home_put (h.now m hm hxm) ?_ ?_ <;> omega
  · rw [add_F]; exact h.last m hm hxm
  · rcases add_Q hp with q | ⟨h1, _, h3, h4⟩
    · exact h.pend p q hpf
    · have := List.length_pos_iff.2 h1
      exact ⟨n, hx, by omega⟩
/-- a file that stands, and is s -/
structure Lg (D : DS) (f : Int) (s : Bytes) : Prop where
  now : (D.F f).1 = s
  last : (D.F f).2 = s
  nop : ∀ p ∈ D.Q, p.1 ≠ f
theorem Lg.congr {D D' : DS} {f : Int} {s : Bytes} (h : Lg D f s) (hF : D'.F f = D.F f) (hQ : ∀ p ∈ D'.Q, p.1 = f → p ∈ D.Q) : Lg D' f s :=
  ⟨by rw [hF]; exact h.now, by rw [hF]; exact h.last, fun p hp hpf => h.nop p (hQ p hp hpf) hpf⟩
theorem Lg.crash {D : DS} {f : Int} {s : Bytes} (h : Lg D f s) (ks : List Int) : Lg (crashD D ks) f s := by
  unfold crashD
  split
  · exact h
  · obtain ⟨_, h2⟩ := surv_ind (f := f) (N := (D.F f).1) (keep := ks) (fun t => t = s) D.Q 0 D.F rfl h.last (fun t p hp hpf => absurd hpf (h.nop p hp))
    exact ⟨h2, h2, fun p hp => by cases hp⟩
/-- what calls on other files keep -/
def Stb (f : Int) (Pr : DS → Prop) : Prop := (∀ D D', Pr D → D'.F f = D.F f → (∀ p ∈ D'.Q, p.1 = f → p ∈ D.Q) → Pr D') ∧ (∀ D ks, Pr D → Pr (crashD D ks))
theorem stb_hm (f : Int) (X : Nat → Prop) (B : Int → Bytes) : Stb f (fun D => Hm D f X B) := ⟨fun _ _ h a b => h.congr a b, fun _ ks h => h.crash ks⟩
theorem stb_lg (f : Int) (s : Bytes) : Stb f (fun D => Lg D f s) := ⟨fun _ _ h a b => h.congr a b, fun _ ks h => h.crash ks⟩
section
variable {f g : Int} {Pr : DS → Prop} {D : DS}
theorem Stb.ends (h : Stb f Pr) (hp : Pr D) : Pr (endsD D) := h.1 D _ hp (by rw [endsD_F]) (by rw [endsD_Q]; exact fun _ q _ => q)
theorem Stb.late (h : Stb f Pr) (hp : Pr D) : Pr (lateD D) := by
  unfold lateD; split
  · exact h.2 _ _ (h.ends hp)
  · exact h.ends hp
theorem Stb.write (h : Stb f Pr) (hne : g ≠ f) (a : Int) (s : Bytes) (hp : Pr D) : Pr (WriteD D g a s) := by
  obtain ⟨e1, e2, _⟩ := write_otherF (D := endsD D) (a := a) (s := s) hne
  have hw := h.1 _ _ (h.ends hp) e1 e2
  simp only [WriteD]
  split
  · exact h.2 _ _ hw
  · exact hw
theorem Stb.settle (h : Stb f Pr) (hne : g ≠ f) (s : Bytes) (hp : Pr D) : Pr (settleD D g s) := h.1 D _ hp (by show setF D.F g (s, s) f = _; exact setF_ne (Ne.symm hne)) (fun p q _ => (List.mem_filter.1 q).1)
theorem Stb.sync (h : Stb f Pr) (hne : g ≠ f) (hp : Pr D) : Pr (SyncD D g) := by
  have hl := h.late hp
  unfold SyncD
  split
  · exact hl
  · split
    · exact h.1 _ _ hl rfl fun _ q _ => q
    · exact h.settle hne _ hl
theorem Stb.trunc (h : Stb f Pr) (hne : g ≠ f) (n : Int) (hp : Pr D) : Pr (TruncD D g n) := by
  have hl := h.late hp
  unfold TruncD
  split
  · exact h.settle hne _ hl
  · exact hl
theorem Stb.set {C : CS} (h : Stb f Pr) (hne : C.f ≠ f) (s : Bytes) (hp : Pr D) : Pr (setR D C s).D := by
  have h2 : ∀ {D : DS} {C : CS}, C.f ≠ f → Pr D → Pr (setR2 D C s).D := fun {D C} hne hp => by
    have w := h.write hne (slotOff (other C)) s hp
    have x := h.write hne 0 (hdrB (other C) s.length) (h.sync hne w)
    simp only [setR2]
    split
    · exact w
    · split
      · exact h.sync hne w
      · split
        · exact x
        · exact h.sync hne x
  unfold setR; split
  · exact hp
  · split
    · split
      · exact h.sync hne hp
      · exact h2 hne (h.sync hne hp)
    · exact h2 hne hp
end
/-- the machine is up, and no sync gets lost -/
structure UpJ (D : DS) : Prop where
  down : D.down = false
  lost : D.lost ≤ 0
theorem may_up {D : DS} {f : Int} (h : UpJ D) (hf : 0 ≤ f ∧ f < 16) : mayE D f = 0 := by
  unfold mayE; rw [if_neg (by rw [h.down]; simp), if_neg (by omega)]
/-- a call that succeeded, or in which the scheduled crash came -/
def OutJ (D : DS) (e : Int) (D' : DS) : Prop := (e = 9 ∧ D.armed ≠ 0 ∧ D'.down = true ∧ D'.lost ≤ 0) ∨ (e = 0 ∧ UpJ D' ∧ (D.armed = 0 → D'.armed = 0))
theorem OutJ.trans {D D1 D2 : DS} {e : Int} (h1 : UpJ D1) (ha : D.armed = 0 → D1.armed = 0) (h : OutJ D1 e D2) : OutJ D e D2 := by
  rcases h with ⟨a, b, c, d⟩ | ⟨a, b, c⟩
  · exact .inl ⟨a, fun q => b (ha q), c, d⟩
  · exact .inr ⟨a, b, fun q => c (ha q)⟩
theorem ends_lost (D : DS) : (endsD D).lost = D.lost := by unfold endsD; split <;> rfl
theorem ends_armed {D : DS} (h : D.armed = 0) : (endsD D).armed = 0 := by unfold endsD; rw [if_pos (.inr h)]; exact h
theorem crash_lost (D : DS) (ks : List Int) : (crashD D ks).lost = D.lost := by unfold crashD; split <;> rfl
theorem crash_dn (D : DS) (ks : List Int) : (crashD D ks).down = true := by
  unfold crashD; split
  · assumption
  · rfl
theorem add_lost (D : DS) (f a : Int) (s : Bytes) : (addD D f a s).lost = D.lost ∧ (addD D f a s).down = D.down ∧ (addD D f a s).armed = D.armed := by unfold addD; split <;> exact ⟨rfl, rfl, rfl⟩
theorem endsB_armed {D : DS} (h : endsB D = true) : D.armed ≠ 0 := by
  unfold endsB at h; simp at h; omega
theorem up_ends {D : DS} (h : UpJ D) : UpJ (endsD D) := ⟨by rw [endsD_down]; exact h.down, by rw [ends_lost]; exact h.lost⟩
theorem wr {D : DS} {f a : Int} {s : Bytes} (h : UpJ D) (hf : 0 ≤ f ∧ f < 16) (ha : 0 ≤ a) (hl : a + s.length ≤ 16777216) :
    (WriteE D f a s = 9 ∧ D.armed ≠ 0 ∧ WriteD D f a s = crashD (addD (endsD D) f a s) D.keep) ∨ (WriteE D f a s = 0 ∧ WriteD D f a s = addD (endsD D) f a s) := by
  have hm := may_up h hf
  rcases write_cases hm ha hl with ⟨h1, h2⟩ | h1
  · left
    refine ⟨h1, ?_, h2⟩
    cases hb : endsB D with
    | true => exact endsB_armed hb
    | false =>
      exfalso
      rw [WriteE, hb, if_neg (by simp)] at h1
      unfold writeE at h1
      rw [if_neg (by rw [may_up (up_ends h) hf]; simp), if_neg (by omega), if_neg (by omega)] at h1
      omega
  · exact .inr h1
theorem wr_out {D : DS} {f a : Int} {s : Bytes} (h : UpJ D) (hf : 0 ≤ f ∧ f < 16) (ha : 0 ≤ a) (hl : a + s.length ≤ 16777216) : OutJ D (WriteE D f a s) (WriteD D f a s) := by
  obtain ⟨a1, a2, a3⟩ := add_lost (endsD D) f a s
  rcases wr h hf ha hl with ⟨h1, h2, h3⟩ | ⟨h1, h2⟩
  · exact .inl ⟨h1, h2, by rw [h3]; exact crash_dn _ _, by rw [h3, crash_lost, a1, ends_lost]; exact h.lost⟩
  · exact .inr ⟨h1, by rw [h2]; exact ⟨by rw [a2]; exact (up_ends h).down, by rw [a1]; exact (up_ends h).lost⟩, fun q => by rw [h2, a3]; exact ends_armed q⟩
theorem late_cases {D : DS} (h : UpJ D) : (endsB D = true ∧ lateD D = crashD (endsD D) D.keep) ∨ (endsB D = false ∧ lateD D = endsD D) := by
  cases hb : endsB D with
  | true => exact .inl ⟨rfl, lateD_yes hb⟩
  | false => exact .inr ⟨rfl, lateD_no hb⟩
theorem may_dn {D : DS} (f : Int) (h : D.down = true) : mayE D f = 9 := by rw [mayE, if_pos h]
theorem sy {D : DS} {f : Int} (h : UpJ D) (hf : 0 ≤ f ∧ f < 16) :
    (SyncE D f = 9 ∧ D.armed ≠ 0 ∧ SyncD D f = crashD (endsD D) D.keep) ∨ (SyncE D f = 0 ∧ SyncD D f = settleD (endsD D) f (D.F f).1) := by
  rcases late_cases h with ⟨hb, hl⟩ | ⟨hb, hl⟩
  · have hm : mayE (crashD (endsD D) D.keep) f = 9 := may_dn f (crash_dn _ _)
    exact .inl ⟨by rw [SyncE, hl, hm]; rfl, endsB_armed hb, by rw [SyncD, hl, hm]; rfl⟩
  · have hm : mayE (endsD D) f = 0 := may_up (up_ends h) hf
    have hn : ¬ 0 < (endsD D).lost := by have := (up_ends h).lost; omega
    exact .inr ⟨by rw [SyncE, hl, if_neg (by omega), if_neg hn], by rw [SyncD, hl, if_neg (by omega), if_neg hn, endsD_F]⟩
theorem sy_out {D : DS} {f : Int} (h : UpJ D) (hf : 0 ≤ f ∧ f < 16) : OutJ D (SyncE D f) (SyncD D f) := by
  rcases sy h hf with ⟨h1, h2, h3⟩ | ⟨h1, h2⟩
  · exact .inl ⟨h1, h2, by rw [h3]; exact crash_dn _ _, by rw [h3, crash_lost, ends_lost]; exact h.lost⟩
  · exact .inr ⟨h1, by rw [h2]; exact ⟨(up_ends h).down, (up_ends h).lost⟩, fun q => by rw [h2]; exact ends_armed q⟩
theorem tr {D : DS} {f : Int} (h : UpJ D) (hf : 0 ≤ f ∧ f < 16) :
    (TruncE D f 0 = 9 ∧ D.armed ≠ 0 ∧ TruncD D f 0 = crashD (endsD D) D.keep) ∨ (TruncE D f 0 = 0 ∧ TruncD D f 0 = settleD (endsD D) f []) := by
  rcases late_cases h with ⟨hb, hl⟩ | ⟨hb, hl⟩
  · have hm : mayE (crashD (endsD D) D.keep) f = 9 := may_dn f (crash_dn _ _)
    have he : TruncE D f 0 = 9 := by rw [TruncE, hl, hm]; rfl
    exact .inl ⟨he, endsB_armed hb, by rw [TruncD, he, if_neg (by decide), hl]⟩
  · have hm : mayE (endsD D) f = 0 := may_up (up_ends h) hf
    have he : TruncE D f 0 = 0 := by rw [TruncE, hl, if_neg (by omega), if_neg (by omega)]
    exact .inr ⟨he, by rw [TruncD, if_pos he, hl]; rfl⟩
theorem tr_out {D : DS} {f : Int} (h : UpJ D) (hf : 0 ≤ f ∧ f < 16) : OutJ D (TruncE D f 0) (TruncD D f 0) := by
  rcases tr h hf with ⟨h1, h2, h3⟩ | ⟨h1, h2⟩
  · exact .inl ⟨h1, h2, by rw [h3]; exact crash_dn _ _, by rw [h3, crash_lost, ends_lost]; exact h.lost⟩
  · exact .inr ⟨h1, by rw [h2]; exact ⟨(up_ends h).down, (up_ends h).lost⟩, fun q => by rw [h2]; exact ends_armed q⟩
theorem st2_out {D : DS} {C : CS} {s : Bytes} (h : UpJ D) (hf : 0 ≤ C.f ∧ C.f < 16) (hs : s.length ≤ 65536) : OutJ D (setR2 D C s).e (setR2 D C s).D := by
  have hge := slotOff_ge (other C)
  have hle : slotOff (other C) ≤ 131072 := by unfold slotOff; split <;> decide
  have o1 := wr_out (s := s) h hf (a := slotOff (other C)) (by omega) (by omega)
  simp only [setR2]
  by_cases e1 : WriteE D C.f (slotOff (other C)) s = 0
  · rw [if_neg (by simp [e1])]
    rcases o1 with ⟨q, _⟩ | ⟨_, u1, a1⟩
    · omega
    have o2 := sy_out u1 hf
    by_cases e2 : SyncE (WriteD D C.f (slotOff (other C)) s) C.f = 0
    · rw [if_neg (by simp [e2])]
      rcases o2 with ⟨q, _⟩ | ⟨_, u2, a2⟩
      · omega
      have o3 := wr_out (s := hdrB (other C) s.length) u2 hf (a := 0) (by omega) (by show (0 : Int) + 5 ≤ _; omega)
      by_cases e3 : WriteE (SyncD (WriteD D C.f (slotOff (other C)) s) C.f) C.f 0 (hdrB (other C) s.length) = 0
      · rw [if_neg (by simp [e3])]
        rcases o3 with ⟨q, _⟩ | ⟨_, u3, a3⟩
        · omega
        exact (sy_out u3 hf).trans u3 fun q => a3 (a2 (a1 q))
      · rw [if_pos e3]; exact o3.trans u2 fun q => a2 (a1 q)
    · rw [if_pos e2]; exact o2.trans u1 a1
  · rw [if_pos e1]; exact o1
theorem st_out {D : DS} {C : CS} {s : Bytes} (h : UpJ D) (hf : 0 ≤ C.f ∧ C.f < 16) (hs : s.length ≤ 65536) : OutJ D (setR D C s).e (setR D C s).D := by
  unfold setR
  rw [if_neg (by omega)]
  split
  · have o1 := sy_out (f := C.f) h hf
    by_cases e1 : SyncE D C.f = 0
    · rw [if_neg (by simp [e1])]
      rcases o1 with ⟨q, _⟩ | ⟨_, u1, a1⟩
      · omega
      exact (st2_out (C := { C with sure := true }) u1 hf hs).trans u1 a1
    · rw [if_pos e1]; exact o1
  · exact st2_out h hf hs
end Go.Proofs.YtfmkodmmbgibgaaGreatDoor
/- journal, in plain data: commits and openings, with a crash anywhere -/
namespace Go.Proofs.YtfmkodmmbgibgaaGreatDoor
open Go.RowKit M
set_option linter.unusedVariables false
theorem OkSt.dn {D : DS} {f : Int} {C : CS} {P : Nat → Bytes → Prop} (h : OkSt D f C P) (hd : D.down = true) : Downed D f P := by
  rcases h with h | h
  · have := h.up; rw [may_dn f hd] at this; cases this
  · exact h
theorem OkSt.up {D : DS} {f : Int} {C : CS} {P : Nat → Bytes → Prop} (h : OkSt D f C P) (hd : D.down = false) : Good D f C P := by
  rcases h with h | h
  · exact h
  · have := h.down; rw [hd] at this; cases this
theorem Good.run {D : DS} {f : Int} {C : CS} {P : Nat → Bytes → Prop} (h : Good D f C P) : 0 ≤ f ∧ f < 16 := may_ok h.up
theorem Good.unsure {D : DS} {f : Int} {C : CS} {P : Nat → Bytes → Prop} (h : Good D f C P) : Good D f ⟨f, C.slot, C.val, false⟩ P :=
  ⟨h.up, rfl, h.pos, h.now, h.here, h.pc, h.hdr.imp id fun ⟨_, b, c⟩ => ⟨rfl, b, c⟩⟩
theorem home_okst {g f : Int} (hne : f ≠ g) {C : CS} {P : Nat → Bytes → Prop} : ∀ (r : List Blk) (D : DS), OkSt D g C P → OkSt (homeR D f r).2 g C P
  | [], D, h => h.sync_other hne
  | b :: r, D, h => by
    have h1 := h.write_other (a := 128 * b.n) hne [UInt8.ofNat b.d.length]
    simp only [homeR]
    split
    · exact h1
    · split
      · exact home_okst hne r _ h1
      · have h2 := h1.write_other (a := 128 * b.n + 64) hne b.d
        split
        · exact h2
        · exact home_okst hne r _ h2
theorem home_stb {g f : Int} (hne : f ≠ g) {Pr : DS → Prop} (hs : Stb g Pr) : ∀ (r : List Blk) (D : DS), Pr D → Pr (homeR D f r).2
  | [], D, h => hs.sync hne h
  | b :: r, D, h => by
    have h1 := hs.write hne (128 * b.n) [UInt8.ofNat b.d.length] h
    simp only [homeR]
    split
    · exact h1
    · split
      · exact home_stb hne hs r _ h1
      · have h2 := hs.write hne (128 * b.n + 64) b.d h1
        split
        · exact h2
        · exact home_stb hne hs r _ h2
theorem u8_len {d : Bytes} (h : d.length ≤ 64) : (UInt8.ofNat d.length).toNat = d.length := by
  rw [UInt8.toNat_ofNat']; omega
theorem home_new {s : Bytes} {n : Nat} {d : Bytes} (h : d.length ≤ 64) (hd : d ≠ []) : HomeAt (putB (putB s (128 * n) [UInt8.ofNat d.length]) (128 * n + 64) d) n d := by
  refine ⟨?_, h, putB_read' _ _ _⟩
  show (byJ (putB (putB s (128 * n) [UInt8.ofNat d.length]) (128 * n + 64) d) (128 * n)).toNat = _
  rw [by_put, if_neg (by omega), by_put, if_pos (by simp)]
  rw [Nat.sub_self]
  simpa [byJ] using u8_len h
theorem home_gone {s : Bytes} {n : Nat} : HomeAt (putB s (128 * n) [UInt8.ofNat ([] : Bytes).length]) n [] := by
  refine ⟨?_, by simp, by simp⟩
  show (byJ (putB s (128 * n) [UInt8.ofNat ([] : Bytes).length]) (128 * n)).toNat = _
  rw [by_put, if_pos (by simp)]
  simp [byJ]
/-- a change brought home -/
theorem home_ok {f : Int} (hf : 0 ≤ f ∧ f < 16) {X : Nat → Prop} {A : Int → Bytes} : ∀ (r : List Blk) (D : DS) (B : Int → Bytes), (∀ b ∈ r, (0 ≤ b.n ∧ b.n < 2048 ∧ b.d.length ≤ 64) ∧ X b.n.toNat) → UpJ D → Hm D f X A →
    (∀ n : Nat, n < 2048 → (∃ b ∈ r, b.n = (n : Int)) ∨ HomeAt (D.F f).1 n (B n)) →
    OutJ D (homeR D f r).1 (homeR D f r).2 ∧ Hm (homeR D f r).2 f X A ∧ ((homeR D f r).1 = 0 → Hm (homeR D f r).2 f (fun _ => False) (withB B r))
  | [], D, B, _, hu, hm, hc => by
    have ho := sy_out hu hf
    have hc2 : ∀ n : Nat, n < 2048 → HomeAt (D.F f).1 n (B n) := fun n hn => by
      rcases hc n hn with ⟨b, hb, _⟩ | q
      · cases hb
      · exact q
    simp only [homeR]
    refine ⟨ho, ?_, ?_⟩
    · rcases sy hu hf with ⟨_, _, h3⟩ | ⟨_, h3⟩
      · rw [h3]; exact (hm.congr (by rw [endsD_F]) (by rw [endsD_Q]; exact fun _ q _ => q)).crash _
      · rw [h3]
        have e : (settleD (endsD D) f (D.F f).1).F f = ((D.F f).1, (D.F f).1) := by simp [settleD, setF]
        exact ⟨by rw [e]; exact hm.now, by rw [e]; exact hm.now, fun p hp hpf => by have := (List.mem_filter.1 hp).2; simp at this; exact absurd hpf this⟩
    · intro h0
      rcases sy hu hf with ⟨h1, _, _⟩ | ⟨_, h3⟩
      · omega
      · rw [h3]
        have e : (settleD (endsD D) f (D.F f).1).F f = ((D.F f).1, (D.F f).1) := by simp [settleD, setF]
        exact ⟨by rw [e]; exact fun n hn _ => hc2 n hn, by rw [e]; exact fun n hn _ => hc2 n hn, fun p hp hpf => by have := (List.mem_filter.1 hp).2; simp at this; exact absurd hpf this⟩
  | b :: r, D, B, hr, hu, hm, hc => by
    obtain ⟨⟨b0, b1, b2⟩, bx⟩ := hr b (by simp)
    obtain ⟨n, hn⟩ : ∃ n : Nat, b.n = (n : Int) := ⟨b.n.toNat, by omega⟩
    have bx2 : X n := by rw [hn] at bx; simpa using bx
    have hE : Hm (endsD D) f X A := hm.congr (by rw [endsD_F]) (by rw [endsD_Q]; exact fun _ q _ => q)
    have o1 := wr_out (s := [UInt8.ofNat b.d.length]) hu hf (a := 128 * b.n) (by omega) (by simp; omega)
    have hA1 : Hm (addD (endsD D) f (128 * b.n) [UInt8.ofNat b.d.length]) f X A := hE.add bx2 (.inl ⟨by omega, rfl⟩)
    have hr2 : ∀ x ∈ r, (0 ≤ x.n ∧ x.n < 2048 ∧ x.d.length ≤ 64) ∧ X x.n.toNat := fun x hx => hr x (by simp [hx])
    simp only [homeR]
    rcases wr (s := [UInt8.ofNat b.d.length]) hu hf (a := 128 * b.n) (by omega) (by simp; omega) with ⟨w1, w2, w3⟩ | ⟨w1, w2⟩
    · rw [if_pos (by rw [w1]; decide)]
      exact ⟨o1, by rw [w3]; exact hA1.crash _, fun q => by rw [w1] at q; cases q⟩
    · rw [if_neg (by rw [w1]; decide)]
      rcases o1 with ⟨q, _⟩ | ⟨_, u1, a1⟩
      · omega
      have hm1 : Hm (WriteD D f (128 * b.n) [UInt8.ofNat b.d.length]) f X A := by rw [w2]; exact hA1
      have e1 : ((WriteD D f (128 * b.n) [UInt8.ofNat b.d.length]).F f).1 = putB (D.F f).1 (128 * n) [UInt8.ofNat b.d.length] := by
        rw [w2, add_F, endsD_F, show (128 * b.n).toNat = 128 * n by omega]
      have hcr : ∀ m : Nat, m < 2048 → m ≠ n → (∃ x ∈ r, x.n = (m : Int)) ∨ HomeAt (D.F f).1 m (B m) := fun m hm2 hne => by
        rcases hc m hm2 with ⟨x, hx, hxn⟩ | q
        · rcases List.mem_cons.1 hx with rfl | hx
          · omega
          · exact .inl ⟨x, hx, hxn⟩
        · exact .inr q
      have hB : ∀ m : Nat, m ≠ n → updB B b.n b.d (m : Int) = B m := fun m hne => by unfold updB; rw [if_neg (by omega)]
      have hBn : updB B b.n b.d (n : Int) = b.d := by unfold updB; rw [if_pos hn.symm]
      by_cases hd : b.d = []
      · rw [if_pos hd, withB_cons]
        obtain ⟨i1, i2, i3⟩ := home_ok hf r (WriteD D f (128 * b.n) [UInt8.ofNat b.d.length]) (updB B b.n b.d) hr2 u1 hm1 (fun m hm2 => by
          by_cases hne : m = n
          · subst hne; right; rw [hBn, e1, hd]; exact home_gone
          · rcases hcr m hm2 hne with q | q
            · exact .inl q
            · right
              rw [hB m hne, e1]
              exact home_put q (by simp; omega) (by have := q.2.1; simp; omega))
        exact ⟨i1.trans u1 a1, i2, i3⟩
      · rw [if_neg hd]
        have o2 := wr_out (s := b.d) u1 hf (a := 128 * b.n + 64) (by omega) (by omega)
        have hE1 : Hm (endsD (WriteD D f (128 * b.n) [UInt8.ofNat b.d.length])) f X A := hm1.congr (by rw [endsD_F]) (by rw [endsD_Q]; exact fun _ q _ => q)
        have hA2 : Hm (addD (endsD (WriteD D f (128 * b.n) [UInt8.ofNat b.d.length])) f (128 * b.n + 64) b.d) f X A := hE1.add bx2 (.inr ⟨by omega, b2⟩)
        rcases wr (s := b.d) u1 hf (a := 128 * b.n + 64) (by omega) (by omega) with ⟨v1, v2, v3⟩ | ⟨v1, v2⟩
        · rw [if_pos (by rw [v1]; decide)]
          exact ⟨o2.trans u1 a1, by rw [v3]; exact hA2.crash _, fun q => by rw [v1] at q; cases q⟩
        · rw [if_neg (by rw [v1]; decide), withB_cons]
          rcases o2 with ⟨q, _⟩ | ⟨_, u2, a2⟩
          · omega
          have e2 : ((WriteD (WriteD D f (128 * b.n) [UInt8.ofNat b.d.length]) f (128 * b.n + 64) b.d).F f).1 = putB (putB (D.F f).1 (128 * n) [UInt8.ofNat b.d.length]) (128 * n + 64) b.d := by
            rw [v2, add_F, endsD_F, e1, show (128 * b.n + 64).toNat = 128 * n + 64 by omega]
          obtain ⟨i1, i2, i3⟩ := home_ok hf r (WriteD (WriteD D f (128 * b.n) [UInt8.ofNat b.d.length]) f (128 * b.n + 64) b.d) (updB B b.n b.d) hr2 u2 (by rw [v2]; exact hA2) (fun m hm2 => by
            by_cases hne : m = n
            · subst hne; right; rw [hBn, e2]; exact home_new b2 hd
            · rcases hcr m hm2 hne with q | q
              · exact .inl q
              · right
                rw [hB m hne, e2]
                have hl := q.2.1
                exact home_put (home_put q (by simp; omega) (by simp; omega)) (by omega) (by omega))
          exact ⟨i1.trans u2 fun q => a2 (a1 q), i2, i3⟩
def nrV (v : Bytes) : Prop := v = [] ∨ v = encN 0
def domJ (l : List Blk) (n : Nat) : Prop := ∃ b ∈ l, b.n = (n : Int)
/-- what the cell may say, and what stands in the home then -/
def PD (D : DS) (f : Int) (A : Int → Bytes) (l : List Blk) : Nat → Bytes → Prop := fun _ v => (nrV v ∧ (Hm D f (fun _ => False) A ∨ Hm D f (fun _ => False) (withB A l))) ∨ (v = encN ((encJ l).length : Int) ∧ Lg D (f + 1) (encJ l) ∧ Hm D f (domJ l) A)
structure Dw (D : DS) (f : Int) (A : Int → Bytes) (l : List Blk) : Prop where
  lost : D.lost ≤ 0
  cell : Downed D (f + 2) (PD D f A l)
structure Lv (D : DS) (f : Int) (A : Int → Bytes) (l : List Blk) : Prop where
  up : UpJ D
  cell : ∃ C, Good D (f + 2) C (PD D f A l) ∧ Firm D (f + 2) C
structure Sta (D : DS) (f : Int) (C : CS) (B : Int → Bytes) : Prop where
  up : UpJ D
  cell : Good D (f + 2) C (fun _ v => nrV v)
  firm : Firm D (f + 2) C
  home : Hm D f (fun _ => False) B
/-- how a commit, or its end, may end -/
def FinJ (D : DS) (R : SR) (f : Int) (A : Int → Bytes) (l : List Blk) : Prop := (R.e = 0 ∧ Sta R.D f R.C (withB A l) ∧ (D.armed = 0 → R.D.armed = 0)) ∨ (R.e = 9 ∧ D.armed ≠ 0 ∧ Dw R.D f A l)
theorem FinJ.trans {D D1 : DS} {R : SR} {f : Int} {A : Int → Bytes} {l : List Blk} (h : FinJ D1 R f A l) (ha : D.armed = 0 → D1.armed = 0) : FinJ D R f A l := by
  rcases h with ⟨a, b, c⟩ | ⟨a, b, c⟩
  · exact .inl ⟨a, b, fun q => c (ha q)⟩
  · exact .inr ⟨a, fun q => b (ha q), c⟩
theorem Hm.weak {D : DS} {f : Int} {A : Int → Bytes} {l : List Blk} (h : Hm D f (fun _ => False) (withB A l)) : Hm D f (domJ l) A := by
  have e : ∀ n : Nat, ¬ domJ l n → withB A l n = A n := fun n hn => withB_ne fun b hb q => hn ⟨b, hb, q⟩
  exact ⟨fun n h1 h2 => by rw [← e n h2]; exact h.now n h1 (fun q => q), fun n h1 h2 => by rw [← e n h2]; exact h.last n h1 (fun q => q), fun p hp hpf => (h.pend p hp hpf).elim fun _ q => q.1.elim⟩
theorem Hm.wide {D : DS} {f : Int} {A : Int → Bytes} {X : Nat → Prop} (h : Hm D f (fun _ => False) A) : Hm D f X A :=
  ⟨fun n h1 _ => h.now n h1 (fun q => q), fun n h1 _ => h.last n h1 (fun q => q), fun p hp hpf => (h.pend p hp hpf).elim fun _ q => q.1.elim⟩
theorem note_len {n : Int} (h : inI n) : (encN n).length ≤ 65536 := by have := encN_len h; omega
theorem in0 : inI 0 := by unfold inI; omega
theorem end_ok {D : DS} {f : Int} {C : CS} {A : Int → Bytes} {l : List Blk} (hf : 0 ≤ f ∧ f ≤ 13) (hr : rightJ l = true) (hu : UpJ D) (hg : Good D (f + 2) C (fun _ v => v = encN ((encJ l).length : Int))) (hL : Lg D (f + 1) (encJ l)) (hH : Hm D f (domJ l) A) : FinJ D (endR D C f l) f A l := by
  obtain ⟨o, h1, h2⟩ := home_ok (f := f) (by omega) (X := domJ l) (A := A) l D A (fun b hb => by
    have q := (right_mem hr).2 b hb
    exact ⟨q, b, hb, by omega⟩) hu hH (fun n hn => by
    by_cases q : domJ l n
    · exact .inl q
    · exact .inr (hH.now n hn q))
  have hc := home_okst (f := f) (g := f + 2) (by omega) l D (.inl hg)
  have hl := home_stb (f := f) (g := f + 1) (by omega) (stb_lg (f + 1) (encJ l)) l D hL
  unfold endR
  rcases o with ⟨e, ar, dn, lo⟩ | ⟨e, up, ar⟩
  · rw [if_pos (by rw [e]; decide)]
    exact .inr ⟨e, ar, lo, (hc.dn dn).widen fun s v hv => .inr ⟨hv, hl, h1⟩⟩
  · rw [if_neg (by rw [e]; decide)]
    have hg1 := hc.up up.down
    have hZ := h2 e
    have o2 := st_out (C := C) (s := encN 0) up (by rw [hg1.cf]; exact hg1.run) (note_len in0)
    obtain ⟨s1, s2⟩ := (hg1.widen (P' := fun _ v => v = encN ((encJ l).length : Int) ∨ v = encN 0) fun _ _ q => .inl q).set (encN 0) (fun _ _ => .inr rfl)
    have hZ2 := (stb_hm f (fun _ => False) (withB A l)).set (C := C) (by rw [hg1.cf]; omega) (encN 0) hZ
    have hL2 := (stb_lg (f + 1) (encJ l)).set (C := C) (by rw [hg1.cf]; omega) (encN 0) hl
    unfold noteR
    rcases o2 with ⟨e2, ar2, dn2, lo2⟩ | ⟨e2, up2, ar2⟩
    · refine .inr ⟨e2, fun q => ar2 (ar q), lo2, (s1.dn dn2).widen fun s v hv => ?_⟩
      rcases hv with hv | hv
      · exact .inr ⟨hv, hL2, hZ2.weak⟩
      · exact .inl ⟨.inr hv, .inr hZ2⟩
    · obtain ⟨g1, g2, _, g4, _, _⟩ := s2 e2
      exact .inl ⟨e2, ⟨up2, g1.narrow g2 (.inr g4), g2, hZ2⟩, fun q => ar2 (ar q)⟩
theorem mid_ok {D : DS} {f : Int} {C : CS} {A : Int → Bytes} {l : List Blk} (hf : 0 ≤ f ∧ f ≤ 13) (hr : rightJ l = true) (h : Sta D f C A) (hL : Lg D (f + 1) (encJ l)) : FinJ D (midR D C f l) f A l := by
  have hin : inI ((encJ l).length : Int) := by have := encJ_len hr; unfold inI; omega
  have o := st_out (C := C) (s := encN ((encJ l).length : Int)) h.up (by rw [h.cell.cf]; exact h.cell.run) (note_len hin)
  obtain ⟨s1, s2⟩ := (h.cell.widen (P' := fun _ v => nrV v ∨ v = encN ((encJ l).length : Int)) fun _ _ q => .inl q).set (encN ((encJ l).length : Int)) (fun _ _ => .inr rfl)
  have hA2 := (stb_hm f (fun _ => False) A).set (C := C) (by rw [h.cell.cf]; omega) (encN ((encJ l).length : Int)) h.home
  have hL2 := (stb_lg (f + 1) (encJ l)).set (C := C) (by rw [h.cell.cf]; omega) (encN ((encJ l).length : Int)) hL
  unfold midR noteR
  rcases o with ⟨e, ar, dn, lo⟩ | ⟨e, up, ar⟩
  · rw [if_pos (by rw [e]; decide)]
    refine .inr ⟨e, ar, lo, (s1.dn dn).widen fun s v hv => ?_⟩
    rcases hv with hv | hv
    · exact .inl ⟨hv, .inl hA2⟩
    · exact .inr ⟨hv, hL2, hA2.wide⟩
  · rw [if_neg (by rw [e]; decide)]
    obtain ⟨g1, g2, _, g4, _, _⟩ := s2 e
    exact (end_ok hf hr up (g1.narrow g2 g4) hL2 hA2.wide).trans ar
theorem Sta.dead {f : Int} {C : CS} {A : Int → Bytes} {l : List Blk} {D' : DS} (hc : OkSt D' (f + 2) C (fun _ v => nrV v)) (hH : Hm D' f (fun _ => False) A) (dn : D'.down = true) (lo : D'.lost ≤ 0) : Dw D' f A l :=
  ⟨lo, (hc.dn dn).widen fun s v hv => .inl ⟨hv, .inl hH⟩⟩
theorem OkSt.trunc_other {D : DS} {f g n : Int} {C : CS} {P : Nat → Bytes → Prop} (h : OkSt D f C P) (hne : g ≠ f) : OkSt (TruncD D g n) f C P := by
  rcases h with h | h
  · have hl : OkSt (lateD D) f C P := by
      unfold lateD; split
      · exact .inr (h.ends.crash _)
      · exact .inl h.ends
    unfold TruncD
    split
    · rename_i h0
      have hm : mayE (lateD D) g = 0 := by
        unfold TruncE at h0; split at h0
        · omega
        · omega
      rcases hl with hl | hl
      · exact .inl (hl.congr (by show setF _ _ _ _ = _; exact setF_ne (Ne.symm hne)) (fun p q _ => (List.mem_filter.1 q).1) rfl)
      · rw [may_dn g hl.down] at hm; cases hm
    · exact hl
  · obtain ⟨_, _, h3, h4⟩ := h.stay
    have he : TruncE D g n = 9 := by rw [TruncE, h3, if_pos (by rw [h4]; decide), h4]
    rw [TruncD, he, if_neg (by decide), h3]; exact .inr h
theorem firm_congr {D D' : DS} {f : Int} {C : CS} (h : Firm D f C) (hF : D'.F f = D.F f) (hQ : ∀ p ∈ D'.Q, p.1 = f → p ∈ D.Q) : Firm D' f C := ⟨fun p hp hpf => h.1 p (hQ p hp hpf) hpf, by rw [hF]; exact h.2⟩
theorem put_ok {D : DS} {f : Int} {C : CS} {A : Int → Bytes} {l : List Blk} (hf : 0 ≤ f ∧ f ≤ 13) (hr : rightJ l = true) (h : Sta D f C A) : FinJ D (putR0 D C f l) f A l := by
  have hlen := encJ_len hr
  have f1 : 0 ≤ f + 1 ∧ f + 1 < 16 := by omega
  have sm := stb_hm f (fun _ => False) A
  have k0 : OkSt D (f + 2) C (fun _ v => nrV v) := .inl h.cell
  have k1 := k0.trunc_other (g := f + 1) (n := 0) (by omega)
  have m1 := sm.trunc (g := f + 1) (by omega) 0 h.home
  unfold putR0
  have o1 := tr_out h.up f1
  rcases o1 with ⟨e1, ar1, dn1, lo1⟩ | ⟨e1, up1, ar1⟩
  · rw [if_pos (by rw [e1]; decide)]; exact .inr ⟨e1, ar1, Sta.dead k1 m1 dn1 lo1⟩
  rw [if_neg (by rw [e1]; decide)]
  have t1 : TruncD D (f + 1) 0 = settleD (endsD D) (f + 1) [] := by
    rcases tr h.up f1 with ⟨q, _⟩ | ⟨_, q⟩
    · omega
    · exact q
  have k2 := k1.write_other (g := f + 1) (a := 0) (by omega) (encJ l)
  have m2 := sm.write (g := f + 1) (by omega) 0 (encJ l) m1
  have o2 := wr_out (s := encJ l) up1 f1 (a := 0) (by omega) (by omega)
  rcases o2 with ⟨e2, ar2, dn2, lo2⟩ | ⟨e2, up2, ar2⟩
  · rw [if_pos (by rw [e2]; decide)]; exact .inr ⟨e2, fun q => ar2 (ar1 q), Sta.dead k2 m2 dn2 lo2⟩
  rw [if_neg (by rw [e2]; decide)]
  have t2 : WriteD (TruncD D (f + 1) 0) (f + 1) 0 (encJ l) = addD (endsD (TruncD D (f + 1) 0)) (f + 1) 0 (encJ l) := by
    rcases wr (s := encJ l) up1 f1 (a := 0) (by omega) (by omega) with ⟨q, _⟩ | ⟨_, q⟩
    · omega
    · exact q
  have k3 := k2.sync_other (g := f + 1) (by omega)
  have m3 := sm.sync (g := f + 1) (by omega) m2
  have o3 := sy_out up2 f1
  rcases o3 with ⟨e3, ar3, dn3, lo3⟩ | ⟨e3, up3, ar3⟩
  · rw [if_pos (by rw [e3]; decide)]; exact .inr ⟨e3, fun q => ar3 (ar2 (ar1 q)), Sta.dead k3 m3 dn3 lo3⟩
  rw [if_neg (by rw [e3]; decide)]
  have t3 : SyncD (WriteD (TruncD D (f + 1) 0) (f + 1) 0 (encJ l)) (f + 1) = settleD (endsD (WriteD (TruncD D (f + 1) 0) (f + 1) 0 (encJ l))) (f + 1) ((WriteD (TruncD D (f + 1) 0) (f + 1) 0 (encJ l)).F (f + 1)).1 := by
    rcases sy up2 f1 with ⟨q, _⟩ | ⟨_, q⟩
    · omega
    · exact q
  have hnow : ((WriteD (TruncD D (f + 1) 0) (f + 1) 0 (encJ l)).F (f + 1)).1 = encJ l := by
    rw [t2, add_F, endsD_F, t1]
    show putB (setF _ _ _ _).1 _ _ = _
    have hne : encJ l ≠ [] := fun q => by rw [q] at hlen; simp at hlen
    simp [setF, putB, hne]
  have hL : Lg (SyncD (WriteD (TruncD D (f + 1) 0) (f + 1) 0 (encJ l)) (f + 1)) (f + 1) (encJ l) := by
    rw [t3, hnow]
    exact ⟨by simp [settleD, setF], by simp [settleD, setF], fun p hp hpf => by have := (List.mem_filter.1 hp).2; simp at this; exact this hpf⟩
  have hfm : Firm (SyncD (WriteD (TruncD D (f + 1) 0) (f + 1) 0 (encJ l)) (f + 1)) (f + 2) C := by
    rw [t3]
    refine firm_congr h.firm ?_ fun p hp hpf => ?_
    · show setF _ _ _ _ = _
      rw [setF_ne (by omega), endsD_F, t2]
      have e := (write_otherF (D := endsD (TruncD D (f + 1) 0)) (g := f + 1) (f := f + 2) (a := 0) (s := encJ l) (by omega)).1
      have e9 : (addD (endsD (TruncD D (f + 1) 0)) (f + 1) 0 (encJ l)).F (f + 2) = (endsD (TruncD D (f + 1) 0)).F (f + 2) := by
        unfold addD; split
        · rfl
        · exact setF_ne (by omega)
      rw [e9, endsD_F, t1]
      show setF _ _ _ _ = _
      rw [setF_ne (by omega), endsD_F]
    · have h1 := (List.mem_filter.1 hp).1
      rw [endsD_Q, t2] at h1
      rcases add_Q h1 with q | ⟨_, q, _⟩
      · rw [endsD_Q, t1] at q
        have := (List.mem_filter.1 q).1
        rw [endsD_Q] at this; exact this
      · omega
  exact (mid_ok hf hr ⟨up3, k3.up up3.down, hfm, m3⟩ hL).trans fun q => ar3 (ar2 (ar1 q))
/-- a commit -/
theorem commit_ok {D : DS} {f : Int} {J : JS} {l : List Blk} (hf : 0 ≤ f ∧ f ≤ 13) (hb : J.base = f) (hn : J.bad = false) (h : Sta D f J.C J.B) :
    (rightJ l = false → commitR D J l = ⟨1, D, J⟩) ∧ (rightJ l = true → ((commitR D J l).e = 0 ∧ (commitR D J l).J = ⟨f, (commitR D J l).J.C, withB J.B l, false⟩ ∧ Sta (commitR D J l).D f (commitR D J l).J.C (withB J.B l) ∧ (D.armed = 0 → (commitR D J l).D.armed = 0)) ∨
      ((commitR D J l).e = 9 ∧ D.armed ≠ 0 ∧ (commitR D J l).J.B = J.B ∧ Dw (commitR D J l).D f J.B l)) := by
  subst hb
  unfold commitR
  rw [if_neg (by rw [hn]; simp)]
  refine ⟨fun q => by rw [if_pos q], fun q => ?_⟩
  rw [if_neg (by rw [q]; simp)]
  rcases put_ok hf q h with ⟨e, s, a⟩ | ⟨e, a, d⟩
  · rw [if_neg (by rw [e]; decide)]; exact .inl ⟨rfl, rfl, s, a⟩
  · rw [if_pos (by rw [e]; decide)]; exact .inr ⟨e, a, rfl, d⟩
theorem iV_enc {n : Int} (h : inI n) : iV (encN n, false) = n := by
  have := (int_cons (rest := []) h).1
  rwa [List.append_nil] at this
theorem nr_stop {v : Bytes} (h : nrV v) : encN (iV (v, false)) ≠ v ∨ iV (v, false) ≤ 0 := by
  rcases h with rfl | rfl
  · left; unfold encN; simp
  · right; rw [iV_enc in0]; omega
/-- an opening -/
theorem openJ_ok {D : DS} {f : Int} {A : Int → Bytes} {l : List Blk} (hf : 0 ≤ f ∧ f ≤ 13) (hr : rightJ l = true) (hA : Ran A) (h : Lv D f A l) :
    ((openJ D f).e = 0 ∧ (∃ B, (B = A ∨ B = withB A l) ∧ (openJ D f).J = ⟨f, (openJ D f).J.C, B, false⟩ ∧ Sta (openJ D f).D f (openJ D f).J.C B) ∧ (D.armed = 0 → (openJ D f).D.armed = 0)) ∨
    ((openJ D f).e = 9 ∧ D.armed ≠ 0 ∧ Dw (openJ D f).D f A l) := by
  obtain ⟨C, hg, hfm⟩ := h.cell
  obtain ⟨o1, o2⟩ := open_dec hg.up hg.now
  have hg' := hg.unsure
  have hfm' : Firm D (f + 2) ⟨f + 2, C.slot, C.val, false⟩ := hfm
  have hZ := withB_ran hA hr
  unfold openJ
  rw [if_neg (by omega), if_neg (by rw [o1]; decide), o2]
  rcases hg.pc with ⟨hv, hH⟩ | ⟨hv, hL, hH⟩
  · have e : replR D f ⟨f + 2, C.slot, C.val, false⟩ = ⟨0, D, ⟨f + 2, C.slot, C.val, false⟩⟩ := by unfold replR; rw [if_pos (nr_stop hv)]
    rw [e]; dsimp only
    rw [if_neg (by decide), if_neg (by rw [may_up h.up (by omega)]; decide)]
    left
    rcases hH with hH | hH
    · exact ⟨rfl, ⟨A, .inl rfl, by rw [home_load (fun n hn => hH.now n hn (fun q => q)) hA], ⟨h.up, hg'.narrow hfm' hv, hfm', hH⟩⟩, fun q => q⟩
    · exact ⟨rfl, ⟨_, .inr rfl, by rw [home_load (fun n hn => hH.now n hn (fun q => q)) hZ], ⟨h.up, hg'.narrow hfm' hv, hfm', hH⟩⟩, fun q => q⟩
  · have hlen := encJ_len hr
    have hin : inI ((encJ l).length : Int) := by unfold inI; omega
    have hiv : iV (C.val, false) = ((encJ l).length : Int) := by rw [hv]; exact iV_enc hin
    have hm1 : mayE D (f + 1) = 0 := may_up h.up (by omega)
    have hre : ReadE D (f + 1) 0 ((encJ l).length : Int) = 0 := by rw [ReadE, if_neg (by omega), if_neg (by omega)]
    have hrs : ReadS D (f + 1) 0 ((encJ l).length : Int) = encJ l := by
      rw [ReadS, if_pos hre, hL.now]; simp
    have e : replR D f ⟨f + 2, C.slot, C.val, false⟩ = endR D ⟨f + 2, C.slot, C.val, false⟩ f l := by
      unfold replR; dsimp only
      rw [hiv, if_neg (by rintro (q | q); exact q hv.symm; omega), if_neg (by rw [hre]; decide), hrs, if_neg (by rw [(dec_right hr).2]; decide), (dec_right hr).1]
    rw [e]
    rcases end_ok hf hr h.up (hg'.narrow (P' := fun _ v => v = encN ((encJ l).length : Int)) hfm' hv) hL hH with ⟨r1, r2, r3⟩ | ⟨r1, r2, r3⟩
    · rw [if_neg (by rw [r1]; decide), if_neg (by rw [may_up r2.up (by omega)]; decide)]
      exact .inl ⟨rfl, ⟨_, .inr rfl, by dsimp only; rw [home_load (fun n hn => r2.home.now n hn (fun q => q)) hZ], r2⟩, r3⟩
    · rw [if_pos (by rw [r1]; decide)]
      exact .inr ⟨r1, r2, r3⟩
/-- up again -/
theorem Dw.start {D : DS} {f : Int} {A : Int → Bytes} {l : List Blk} (h : Dw D f A l) (n : Int) (ks : List Int) : Lv (armD (startD D) n ks) f A l := by
  obtain ⟨_, s, v, _, _, _, h2, h3⟩ := h.cell.reopen
  have hp : ∀ s v, PD D f A l s v → PD (armD (startD D) n ks) f A l s v := fun s v q => by
    rcases q with ⟨a, b⟩ | ⟨a, b, c⟩
    · exact .inl ⟨a, b.imp (fun g => g.congr rfl fun _ q _ => q) (fun g => g.congr rfl fun _ q _ => q)⟩
    · exact .inr ⟨a, b.congr rfl fun _ q _ => q, c.congr rfl fun _ q _ => q⟩
  exact ⟨⟨rfl, h.lost⟩, _, (h2.congr (D' := armD (startD D) n ks) rfl (fun _ q _ => q) rfl).widen hp, firm_congr h3 rfl fun _ q _ => q⟩
theorem Sta.crash {D : DS} {f : Int} {C : CS} {B : Int → Bytes} (h : Sta D f C B) (l : List Blk) (ks : List Int) : Dw (crashD D ks) f B l :=
  ⟨by rw [crash_lost]; exact h.up.lost, (h.cell.crash ks).widen fun s v hv => .inl ⟨hv, .inl (h.home.crash ks)⟩⟩
theorem sta_new {f : Int} (hf : 0 ≤ f ∧ f ≤ 13) : Sta newD f (newC (f + 2)) (fun _ => []) := by
  obtain ⟨_, _, g1, g2⟩ := Good.begin (f := f + 2) (P := fun _ v => nrV v) (by omega) (.inl rfl)
  have hh : ∀ n : Nat, HomeAt [] n [] := fun n => ⟨rfl, by simp, by simp⟩
  exact ⟨⟨rfl, by decide⟩, g1, g2, ⟨fun n _ _ => hh n, fun n _ _ => hh n, fun p hp => by simp [newD] at hp⟩⟩
end Go.Proofs.YtfmkodmmbgibgaaGreatDoor
