/- wire: texts -/
import Derived.Test.YtcbdclhoekokpaaGreatDoorPp0
namespace Go.Proofs.YtcbdclhoekokpaaGreatDoor
open Go.RowKit M
set_option linter.unusedVariables false
theorem cutV_pre {e : UInt8} {l : Bs} {b : Bool} : cutV e (l, b) = if Lib.hasPrefix l [e] = true then (l.drop 1, b) else ([], true) := by
  cases l with
  | nil => rfl
  | cons c l =>
    have hp : Lib.hasPrefix (c :: l) [e] = decide (c = e) := by
      unfold Lib.hasPrefix
      rw [Bool.eq_iff_iff]
      simp only [List.isPrefixOf, Bool.and_true, beq_iff_eq, decide_eq_true_eq]
      exact ⟨fun q => q.symm, fun q => q.symm⟩
    rw [hp]
    simp only [cutV, decide_eq_true_eq, List.drop_succ_cons, List.drop_zero]
theorem numV_nn (e : UInt8) (s : Bs × Bool) : 0 ≤ numV e 0 s := by
  unfold numV
  split
  · rename_i n r h; exact (numP_some h).2.2
  · omega
theorem numR_len (e : UInt8) (l : Int) (s : Bs × Bool) : (numR e l s).1.length ≤ s.1.length := by
  unfold numR
  split
  · rename_i n r h; rw [(numP_some h).1]; simp only [List.length_append, List.length_cons]; omega
  · simp
theorem cutV_len (e : UInt8) (s : Bs × Bool) : (cutV e s).1.length ≤ s.1.length := by
  obtain ⟨l, b⟩ := s
  cases l with
  | nil => simp [cutV]
  | cons c l => simp only [cutV]; split <;> simp
theorem txtR_len (s : Bs × Bool) : (txtR s).1.length ≤ s.1.length := by
  have h1 := numR_len 58 0 s
  unfold txtR
  split
  · simp
  · refine Nat.le_trans (cutV_len _ _) ?_
    simp only [List.length_drop]; omega
theorem numV_in (e : UInt8) (least : Int) (s : Bs × Bool) : inI (numV e least s) := by
  unfold numV
  split
  · rename_i n r h; exact (numP_some h).2.1
  · unfold inI; omega
theorem hpi0 {w : World} {As : List Th} (hS : Sat w As) (s t : Bs) : Calls Tryz.prog 112 #[strV s, strV t] w (Ret fun v w' => v = .bool (Lib.hasPrefix s t) ∧ Sat w' As) :=
  (Tryz.stringslite_HasPrefix ⟨s.toArray⟩ ⟨t.toArray⟩ w).mono fun e w' ⟨h1, h2⟩ => ⟨_, h1, rfl, by rw [h2]; exact hS⟩
theorem hasPrefix_len {s t : Bs} (h : Lib.hasPrefix s t = true) : t.length ≤ s.length := by
  unfold Lib.hasPrefix at h
  exact (List.isPrefixOf_iff_prefix.1 h).length_le
theorem cutIn_sp {w : World} {F : Th} (hS : Sat w [F]) (s t : Bs) :
    Calls Tryz.prog 146 #[strV s, strV t] w (Ret fun v w' => v = .tuple #[strV (if Lib.hasPrefix s t = true then s.drop t.length else s), .bool (Lib.hasPrefix s t)] ∧ Sat w' [F]) := by
  refine calls_enter Tryz.func146 rfl Tryz.ntmps146 rfl ?_
  refine wc_seq ?_
  refine wc_region ?_
  refine wl_assign rfl rfl ?_
  refine wl_assign rfl rfl ?_
  refine wl_nil ?_
  refine qs_seq ?_
  refine wc_seq ?_
  refine wc_seq ?_
  refine wc_region ?_
  refine wl_move rfl rfl ?_
  refine wl_move rfl rfl ?_
  have hC1 := hS.split [] [false] rfl; dsimp only [selF, pickA, nthA, List.cons_append, List.nil_append] at hC1
  refine wl_call cal_112 rfl (hpi0 hC1 s t) rfl ?_
  rintro e w1 ⟨_, rfl, rfl, hS1⟩; refine ⟨_, rfl, ?_⟩
  replace hS1 := hS1.join rfl; dsimp only [List.dropLast, List.cons_append, List.nil_append] at hS1; clear hC1
  refine wl_not rfl rfl ?_
  refine wl_nil ?_
  refine qs_seq ?_
  refine wc_cond rfl (fun h2 => ?_) (fun h2 => ?_)
  · skip
    refine wc_seq ?_
    refine wc_region ?_
    refine wl_move rfl rfl ?_
    refine wl_assign rfl rfl ?_
    refine wl_assign rfl rfl ?_
    refine wl_nil ?_
    refine qs_seq ?_
    refine wc_ret ?_
    refine qs_then_ret ?_
    refine fin2 (.inr rfl) rfl rfl rfl ?_
    exact ⟨_, rfl, by rw [if_neg (by simp_all), show Lib.hasPrefix s t = false by simp_all], hS1⟩
  · skip
    have htl : t.length ≤ s.length := hasPrefix_len (by simp_all)
    refine wc_skip ?_
    refine qs_seq ?_
    refine wc_seq ?_
    refine wc_region ?_
    refine wl_move rfl rfl ?_
    refine wl_move rfl rfl ?_
    refine wl_lenS Tryz.underlying9 rfl rfl ?_
    refine wl_sliceS t.length s.length Tryz.underlying9 rfl (bndS t.length _ rfl rfl) (bndN _) (by omega) (by omega) rfl ?_
    rw [List.take_length]
    refine wl_assign rfl rfl ?_
    refine wl_assign rfl rfl ?_
    refine wl_nil ?_
    refine qs_seq ?_
    refine wc_sub (L' := [(5, _), (4, _)]) (.cons rfl (.cons rfl .nil)) ?_
    refine wc_ret ?_
    refine fin2 (.inr rfl) rfl rfl rfl ?_
    exact ⟨_, rfl, by rw [if_pos (by simp_all), show Lib.hasPrefix s t = true by simp_all], hS1⟩

theorem cutS_sp {w : World} {F : Th} (hS : Sat w [F]) (s t : Bs) :
    Calls Tryz.prog 124 #[strV s, strV t] w (Ret fun v w' => v = .tuple #[strV (if Lib.hasPrefix s t = true then s.drop t.length else s), .bool (Lib.hasPrefix s t)] ∧ Sat w' [F]) := by
  refine calls_enter Tryz.func124 rfl Tryz.ntmps124 rfl ?_
  refine wc_seq ?_
  refine wc_region ?_
  refine wl_assign rfl rfl ?_
  refine wl_assign rfl rfl ?_
  refine wl_nil ?_
  refine qs_seq ?_
  refine wc_seq ?_
  refine wc_region ?_
  refine wl_move rfl rfl ?_
  refine wl_move rfl rfl ?_
  have hC1 := hS.split [] [false] rfl; dsimp only [selF, pickA, nthA, List.cons_append, List.nil_append] at hC1
  refine wl_call cal_146 rfl (cutIn_sp hC1 s t) rfl ?_
  rintro e w1 ⟨_, rfl, rfl, hS1⟩; refine ⟨_, rfl, ?_⟩
  replace hS1 := hS1.join rfl; dsimp only [List.dropLast, List.cons_append, List.nil_append] at hS1; clear hC1
  refine wl_extract rfl rfl rfl ?_
  refine wl_extract rfl rfl rfl ?_
  refine wl_assign rfl rfl ?_
  refine wl_assign rfl rfl ?_
  refine wl_nil ?_
  refine qs_seq ?_
  refine wc_ret ?_
  refine fin2 (.inr rfl) rfl rfl rfl ?_
  exact ⟨_, rfl, rfl, hS1⟩

theorem wText_sp {w : World} {F : Th} (hS : Sat w [F]) (hG : Ent F WireG) (s : Bs) (hs : s.length ≤ 1000000) :
    Calls Tryz.prog 65 #[strV s] w (Ret fun v w' => v = strV (encT s) ∧ Sat w' [F]) := by
  refine calls_enter Tryz.func65 rfl Tryz.ntmps65 rfl ?_
  refine wc_seq ?_
  refine wc_region ?_
  refine wl_assign rfl rfl ?_
  refine wl_nil ?_
  refine qs_seq ?_
  refine wc_seq ?_
  refine wc_region ?_
  refine wl_move rfl rfl ?_
  refine wl_lenS Tryz.underlying9 rfl rfl ?_
  have hC1 := hS.split [] [false] rfl; dsimp only [selF, pickA, nthA, List.cons_append, List.nil_append] at hC1
  refine wl_call cal_71 rfl (itoa0 hC1 (Ent.sat (hG.starL 0 rfl) hC1 0 rfl) (s.length : Int) (by unfold inI; omega)) rfl ?_
  rintro e w1 ⟨_, rfl, rfl, hS1⟩; refine ⟨_, rfl, ?_⟩
  replace hS1 := hS1.join rfl; dsimp only [List.dropLast, List.cons_append, List.nil_append] at hS1; clear hC1
  have hil := itoa_len (n := (s.length : Int)) (by unfold inI; omega)
  refine wl_concat rfl rfl (by first | omega | (simp; omega)) rfl ?_
  refine wl_move rfl rfl ?_
  refine wl_concat rfl rfl (by first | omega | (simp; omega)) rfl ?_
  refine wl_concat rfl rfl (by first | omega | (simp; omega)) rfl ?_
  refine wl_assign rfl rfl ?_
  refine wl_nil ?_
  refine qs_seq ?_
  refine wc_ret ?_
  refine fin1 (.inr rfl) rfl rfl ?_
  exact ⟨_, rfl, by simp [encT], hS1⟩

theorem rClose_sp {w : World} {F : Th} {b : Nat} {s : Bs × Bool} (hS : Sat w [readT b s, F]) (e : UInt8) :
    Calls Tryz.prog 102 #[ptrV b 0, strV [e]] w (Ret fun v w' => v = .tuple #[] ∧ Sat w' [readT b (cutV e s), F]) := by
  obtain ⟨r, q⟩ := s
  change Sat w [blkT b [strV r, .bool q], F] at hS
  refine calls_enter Tryz.func102 rfl Tryz.ntmps102 rfl ?_
  refine wc_seq ?_
  refine wc_region ?_
  refine wl_move rfl rfl ?_
  refine wl_nilCheck rfl rfl ?_
  refine wl_fieldAddr rfl fo_128_0 rfl ?_
  refine wl_load rfl ag_9 (by first | assumption | exact hS.cell 0 rfl rfl) rfl ?_
  refine wl_move rfl rfl ?_
  have hC1 := hS.split [] [false, false] rfl; dsimp only [selF, pickA, nthA, List.cons_append, List.nil_append] at hC1
  refine wl_call cal_124 rfl (cutS_sp hC1 r [e]) rfl ?_
  rintro e w1 ⟨_, rfl, rfl, hS1⟩; refine ⟨_, rfl, ?_⟩
  replace hS1 := hS1.join rfl; dsimp only [List.dropLast, List.cons_append, List.nil_append] at hS1; clear hC1
  refine wl_move rfl rfl ?_
  refine wl_extract rfl rfl rfl ?_
  refine wl_extract rfl rfl rfl ?_
  refine wl_assign rfl rfl ?_
  refine wl_assign rfl rfl ?_
  refine wl_nil ?_
  refine qs_seq ?_
  refine wc_sub (L' := [(5, _), (4, _), (0, _)]) (.cons rfl (.cons rfl (.cons rfl .nil))) ?_
  refine wc_seq ?_
  refine wc_region ?_
  refine wl_move rfl rfl ?_
  refine wl_move rfl rfl ?_
  refine wl_nilCheck rfl rfl ?_
  refine wl_fieldAddr rfl fo_128_0 rfl ?_
  first | (refine wl_store hS1 rfl rfl sz_9 (by first | rfl | assumption) (i := 0) rfl (by first | decide | exact Nat.le_of_ble_eq_true rfl | (simp; done) | omega) ?_)
  intro w2 hS3; dsimp only [List.set] at hS3
  clear hS1
  refine wl_nil ?_
  refine qs_seq ?_
  refine wc_seq ?_
  refine wc_region ?_
  refine wl_move rfl rfl ?_
  refine wl_not rfl rfl ?_
  refine wl_nil ?_
  refine qs_seq ?_
  refine wc_cond rfl (fun h4 => ?_) (fun h4 => ?_)
  · skip
    have hp1 : ¬ Lib.hasPrefix r [e] = true := by simp_all
    rw [if_neg hp1] at hS3
    refine wc_region ?_
    refine wl_move rfl rfl ?_
    have hC5 := hS3.split [0] [true, false] rfl; dsimp only [selF, pickA, nthA, List.cons_append, List.nil_append] at hC5
    refine wl_call cal_101 rfl (wFail_sp (s := (r, q)) hC5) rfl ?_
    rintro e w5 ⟨_, rfl, rfl, hS5⟩; refine ⟨_, rfl, ?_⟩
    replace hS5 := hS5.join rfl; dsimp only [List.dropLast, List.cons_append, List.nil_append] at hS5; clear hC5
    clear hS3
    refine wl_nil ?_
    refine fin0 (.inl rfl) rfl ?_
    exact ⟨_, rfl, rfl, by rw [cutV_pre, if_neg (by simp_all)]; exact hS5⟩
  · skip
    have hp1 : Lib.hasPrefix r [e] = true := by simp_all
    rw [if_pos hp1] at hS3
    refine wc_skip ?_
    refine fin0 (.inl rfl) rfl ?_
    exact ⟨_, rfl, rfl, by rw [cutV_pre, if_pos (by simp_all)]; exact hS3⟩

set_option maxRecDepth 100000 in
theorem rText_sp {w : World} {F : Th} {b : Nat} {s : Bs × Bool} (hS : Sat w [readT b s, F]) (hG : Ent F WireG) (hrl : s.1.length ≤ 1000000) :
    Calls Tryz.prog 58 #[ptrV b 0] w (Ret fun v w' => v = strV (txtV s) ∧ Sat w' [readT b (txtR s), F]) := by
  refine calls_enter Tryz.func58 rfl Tryz.ntmps58 rfl ?_
  refine wc_seq ?_
  refine wc_region ?_
  refine wl_assign rfl rfl ?_
  refine wl_nil ?_
  refine qs_seq ?_
  refine wc_seq ?_
  refine wc_region ?_
  refine wl_move rfl rfl ?_
  have hC1 := hS.split [0] [true, false] rfl; dsimp only [selF, pickA, nthA, List.cons_append, List.nil_append] at hC1
  refine wl_call cal_100 rfl (number_sp hC1 (hG.starL 0 rfl) 58 0 (by omega)) rfl ?_
  rintro e w1 ⟨_, rfl, rfl, hS1⟩; refine ⟨_, rfl, ?_⟩
  replace hS1 := hS1.join rfl; dsimp only [List.dropLast, List.cons_append, List.nil_append] at hS1; clear hC1
  obtain ⟨k, hk⟩ : ∃ k : Nat, numV 58 0 s = (k : Int) := ⟨(numV 58 0 s).toNat, by have := numV_nn 58 s; omega⟩
  rw [hk]
  have hnl := numR_len 58 0 s
  rcases hN : numR 58 0 s with ⟨r1, q1⟩
  rw [hN] at hS1 hnl
  dsimp only at hnl
  change Sat w1 [blkT b [strV r1, .bool q1], F] at hS1
  refine wl_assign rfl rfl ?_
  refine wl_nil ?_
  refine qs_seq ?_
  refine wc_seq ?_
  refine wc_seq ?_
  refine wc_region ?_
  refine wl_move rfl rfl ?_
  refine wl_move rfl rfl ?_
  refine wl_nilCheck rfl rfl ?_
  refine wl_fieldAddr rfl fo_128_0 rfl ?_
  refine wl_load rfl ag_9 (by first | assumption | exact hS1.cell 0 rfl rfl) rfl ?_
  refine wl_lenS Tryz.underlying9 rfl rfl ?_
  refine wl_gtr rfl rfl rfl ?_
  refine wl_nil ?_
  refine qs_seq ?_
  refine wc_sub (L' := [(13, _), (3, _), (2, _), (0, _)]) (.cons rfl (.cons rfl (.cons rfl (.cons rfl .nil)))) ?_
  refine wc_condD rfl (fun h2 => ?_) (fun h2 => ?_)
  · skip
    refine wc_seq ?_
    refine wc_region ?_
    refine wl_move rfl rfl ?_
    have hC3 := hS1.split [0] [true, false] rfl; dsimp only [selF, pickA, nthA, List.cons_append, List.nil_append] at hC3
    refine wl_call cal_101 rfl (wFail_sp (s := (r1, q1)) hC3) rfl ?_
    rintro e w3 ⟨_, rfl, rfl, hS3⟩; refine ⟨_, rfl, ?_⟩
    replace hS3 := hS3.join rfl; dsimp only [List.dropLast, List.cons_append, List.nil_append] at hS3; clear hC3
    clear hS1
    refine wl_nil ?_
    refine qs_seq ?_
    refine wc_seq ?_
    refine wc_region ?_
    refine wl_assign rfl rfl ?_
    refine wl_nil ?_
    refine qs_seq ?_
    refine wc_ret ?_
    refine qs_then_ret ?_
    refine fin1 (.inr rfl) rfl rfl ?_
    exact ⟨_, rfl, by unfold txtV; rw [hN, hk]; dsimp only; rw [if_pos (by omega)], by unfold txtR; rw [hN, hk]; dsimp only; rw [if_pos (by omega)]; exact hS3⟩
  · skip
    refine wc_skip ?_
    refine qs_seq ?_
    refine wc_seq ?_
    refine wc_region ?_
    refine wl_move rfl rfl ?_
    refine wl_nilCheck rfl rfl ?_
    refine wl_fieldAddr rfl fo_128_0 rfl ?_
    refine wl_load rfl ag_9 (by first | assumption | exact hS1.cell 0 rfl rfl) rfl ?_
    refine wl_move rfl rfl ?_
    refine wl_sliceS 0 k Tryz.underlying9 rfl (bndN _) (bndS k _ rfl rfl) (by omega) (by omega) rfl ?_
    rw [List.drop_zero]
    refine wl_assign rfl rfl ?_
    refine wl_nil ?_
    refine qs_seq ?_
    refine wc_sub (L' := [(4, _), (3, _), (2, _), (0, _)]) (.cons rfl (.cons rfl (.cons rfl (.cons rfl .nil)))) ?_
    refine wc_seq ?_
    refine wc_region ?_
    refine wl_move rfl rfl ?_
    refine wl_move rfl rfl ?_
    refine wl_nilCheck rfl rfl ?_
    refine wl_fieldAddr rfl fo_128_0 rfl ?_
    refine wl_load rfl ag_9 (by first | assumption | exact hS1.cell 0 rfl rfl) rfl ?_
    refine wl_move rfl rfl ?_
    refine wl_sliceS k r1.length Tryz.underlying9 rfl (bndS k _ rfl rfl) (bndN _) (by omega) (by omega) rfl ?_
    rw [List.take_length]
    refine wl_nilCheck rfl rfl ?_
    refine wl_fieldAddr rfl fo_128_0 rfl ?_
    first | (refine wl_store hS1 rfl rfl sz_9 (by first | rfl | assumption) (i := 0) rfl (by first | decide | exact Nat.le_of_ble_eq_true rfl | (simp; done) | omega) ?_)
    intro w4 hS5; dsimp only [List.set] at hS5
    clear hS1
    refine wl_nil ?_
    refine qs_seq ?_
    refine wc_sub (L' := [(4, _), (2, _), (0, _)]) (.cons rfl (.cons rfl (.cons rfl .nil))) ?_
    refine wc_seq ?_
    refine wc_seq ?_
    refine wc_region ?_
    refine wl_move rfl rfl ?_
    have hC6 := hS5.split [0] [true, false] rfl; dsimp only [selF, pickA, nthA, List.cons_append, List.nil_append] at hC6
    refine wl_call cal_102 rfl (rClose_sp (s := (r1.drop k, q1)) hC6 44) rfl ?_
    rintro e w6 ⟨_, rfl, rfl, hS6⟩; refine ⟨_, rfl, ?_⟩
    replace hS6 := hS6.join rfl; dsimp only [List.dropLast, List.cons_append, List.nil_append] at hS6; clear hC6
    clear hS5
    rcases hC2 : cutV 44 (r1.drop k, q1) with ⟨r2, q2⟩
    rw [hC2] at hS6
    refine wl_nil ?_
    refine qs_seq ?_
    refine wc_seq ?_
    refine wc_region ?_
    refine wl_move rfl rfl ?_
    refine wl_nilCheck rfl rfl ?_
    refine wl_fieldAddr rfl fo_128_1 rfl ?_
    refine wl_load rfl ag_4 (by first | assumption | exact hS6.cell 0 rfl rfl) rfl ?_
    refine wl_nil ?_
    refine qs_seq ?_
    refine wc_cond rfl (fun h7 => ?_) (fun h7 => ?_)
    · skip
      obtain rfl : q2 = true := h7
      refine wc_seq ?_
      refine wc_region ?_
      refine wl_assign rfl rfl ?_
      refine wl_nil ?_
      refine qs_seq ?_
      refine wc_ret ?_
      refine qs_then_ret ?_
      refine fin1 (.inr rfl) rfl rfl ?_
      exact ⟨_, rfl, by unfold txtV; rw [hN, hk]; dsimp only; rw [if_neg (by omega), Int.toNat_natCast, hC2]; first | done | rfl, by unfold txtR; rw [hN, hk]; dsimp only; rw [if_neg (by omega), Int.toNat_natCast, hC2]; exact hS6⟩
    · skip
      obtain rfl : q2 = false := h7
      refine wc_skip ?_
      refine qs_seq ?_
      refine wc_seq ?_
      refine wc_region ?_
      refine wl_move rfl rfl ?_
      refine wl_assign rfl rfl ?_
      refine wl_nil ?_
      refine qs_seq ?_
      refine wc_ret ?_
      refine fin1 (.inr rfl) rfl rfl ?_
      exact ⟨_, rfl, by unfold txtV; rw [hN, hk]; dsimp only; rw [if_neg (by omega), Int.toNat_natCast, hC2]; first | done | rfl, by unfold txtR; rw [hN, hk]; dsimp only; rw [if_neg (by omega), Int.toNat_natCast, hC2]; exact hS6⟩

theorem rDone_sp {w : World} {F : Th} {b : Nat} {s : Bs × Bool} (hS : Sat w [readT b s, F]) :
    Calls Tryz.prog 60 #[ptrV b 0] w (Ret fun v w' => v = .bool (!s.2 && decide (s.1 = [])) ∧ Sat w' [readT b s, F]) := by
  obtain ⟨r, q⟩ := s
  change Sat w [blkT b [strV r, .bool q], F] at hS
  refine calls_enter Tryz.func60 rfl Tryz.ntmps60 rfl ?_
  refine wc_seq ?_
  refine wc_region ?_
  refine wl_assign rfl rfl ?_
  refine wl_nil ?_
  refine qs_seq ?_
  refine wc_seq ?_
  refine wc_region ?_
  refine wl_move rfl rfl ?_
  refine wl_nilCheck rfl rfl ?_
  refine wl_fieldAddr rfl fo_128_1 rfl ?_
  refine wl_load rfl ag_4 (by first | assumption | exact hS.cell 0 rfl rfl) rfl ?_
  refine wl_not rfl rfl ?_
  refine wl_move rfl rfl ?_
  refine wl_split 8 rfl (fun h1 => ?_) (fun h1 => ?_)
  · skip
    refine wl_guard rfl rfl h1 ?_
    refine wl_move rfl rfl ?_
    refine wl_guard rfl rfl h1 ?_
    refine wl_nilCheck rfl rfl ?_
    refine wl_guard rfl rfl h1 ?_
    refine wl_fieldAddr rfl fo_128_0 rfl ?_
    refine wl_guard rfl rfl h1 ?_
    refine wl_load rfl ag_9 (by first | assumption | exact hS.cell 0 rfl rfl) rfl ?_
    refine wl_guard rfl rfl h1 ?_
    refine wl_eqlS rfl rfl rfl ?_
    refine wl_pickT rfl h1 rfl rfl ?_
    refine wl_assign rfl rfl ?_
    refine wl_nil ?_
    refine qs_seq ?_
    refine wc_sub (L' := [(2, _)]) (.cons rfl .nil) ?_
    refine wc_ret ?_
    refine fin1 (.inr rfl) rfl rfl ?_
    exact ⟨_, rfl, by first | rfl | (simp_all; done), hS⟩
  · skip
    refine wl_unwanted rfl rfl h1 rfl ?_
    refine wl_unwanted rfl rfl h1 rfl ?_
    refine wl_unwanted rfl rfl h1 rfl ?_
    refine wl_unwanted rfl rfl h1 rfl ?_
    refine wl_unwanted rfl rfl h1 rfl ?_
    refine wl_pickF rfl h1 rfl rfl ?_
    refine wl_assign rfl rfl ?_
    refine wl_nil ?_
    refine qs_seq ?_
    refine wc_sub (L' := [(2, _)]) (.cons rfl .nil) ?_
    refine wc_ret ?_
    refine fin1 (.inr rfl) rfl rfl ?_
    exact ⟨_, rfl, by first | rfl | (simp_all; done), hS⟩

end Go.Proofs.YtcbdclhoekokpaaGreatDoor
