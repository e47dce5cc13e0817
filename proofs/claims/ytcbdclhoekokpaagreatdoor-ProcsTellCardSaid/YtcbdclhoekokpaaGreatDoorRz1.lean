/- reference 01: texts -/
import Derived.Test.YtcbdclhoekokpaaGreatDoorRw2
import Derived.Test.YtcbdclhoekokpaaGreatDoorRx1
import Derived.Test.YtcbdclhoekokpaaGreatDoorWr
namespace Go.Proofs.YtcbdclhoekokpaaGreatDoor
open Go.RowKit M
set_option linter.unusedVariables false
theorem numP_zero (e : UInt8) (r : Bs) : numP e 0 r = match numP e (-9223372036854775808) r with | some (n, r') => if 0 ≤ n then some (n, r') else none | none => none := by
  unfold numP
  by_cases h : Lib.indexByte (r.take 21) e < 0
  · rw [if_pos h, if_pos h]
  · rw [if_neg h, if_neg h]
    cases hq : Lib.atoiAll ((r.take 21).take (Lib.indexByte (r.take 21) e).toNat) with
    | ok n =>
      dsimp only
      have hn := atoi_in hq
      unfold inI at hn
      by_cases h1 : Lib.itoa n = (r.take 21).take (Lib.indexByte (r.take 21) e).toNat
      · rw [if_pos (c := _ ∧ -9223372036854775808 ≤ n) ⟨h1, hn.1⟩]
        dsimp only
        by_cases h2 : 0 ≤ n
        · rw [if_pos ⟨h1, h2⟩, if_pos h2]
        · rw [if_neg (fun q => h2 q.2), if_neg h2]
      · rw [if_neg (fun q => h1 q.1), if_neg (c := _ ∧ -9223372036854775808 ≤ n) (fun q => h1 q.1)]
    | «syntax» => rfl
    | range => rfl
theorem num_zero (e : UInt8) (s : Bs × Bool) : numV e 0 s = (if numV e (-9223372036854775808) s < 0 then 0 else numV e (-9223372036854775808) s) ∧ numR e 0 s = (if numV e (-9223372036854775808) s < 0 then ([], true) else numR e (-9223372036854775808) s) := by
  unfold numV numR
  rw [numP_zero]
  cases numP e (-9223372036854775808) s.1 with
  | none => simp
  | some x =>
    obtain ⟨n, r⟩ := x
    dsimp only
    by_cases h : 0 ≤ n
    · rw [if_pos h, if_neg (by omega), if_neg (by omega)]; exact ⟨rfl, rfl⟩
    · rw [if_neg h, if_pos (by omega), if_pos (by omega)]; exact ⟨rfl, rfl⟩
/-- a reader that has failed has nothing left -/
def OkR (s : Bs × Bool) : Prop := s.2 = true → s.1 = []
theorem OkR.num {s : Bs × Bool} (h : OkR s) (e : UInt8) (l : Int) : OkR (numR e l s) := by
  intro hb
  unfold numR at hb ⊢
  cases hp : numP e l s.1 with
  | none => rfl
  | some x =>
    rw [hp] at hb
    have := h hb
    rw [this, num_neg (by simp [Lib.indexByte])] at hp
    cases hp
theorem OkR.txt {s : Bs × Bool} (h : OkR s) : OkR (txtR s) := by
  unfold txtR
  split
  · exact fun _ => rfl
  · have h1 := h.num 58 0
    rcases hN : numR 58 0 s with ⟨r, b⟩
    rw [hN] at h1
    intro hb
    dsimp only at hb ⊢
    cases hd : List.drop (numV 58 0 s).toNat r with
    | nil => rfl
    | cons c t =>
      rw [hd] at hb
      simp only [cutV] at hb ⊢
      split at hb
      · rename_i hc
        have : r = [] := h1 hb
        rw [this] at hd; simp at hd
      · rename_i hc; rw [if_neg hc]
theorem r1Num_sp {w : World} {F : Th} {b : Nat} {s : Bs × Bool} (hS : Sat w [readT b s, F]) (e : UInt8) (he : 57 < e.toNat) (hrl : s.1.length ≤ 9223372036854775806) :
    Calls Tryz.prog 118 #[ptrV b 0, byteV e] w (Ret fun v w' => v = intV (numV e 0 s) ∧ Sat w' [readT b (numR e 0 s), F]) := by
  refine calls_enter Tryz.func118 rfl Tryz.ntmps118 rfl ?_
  refine wc_seq ?_
  refine wc_region ?_
  refine wl_assign rfl rfl ?_
  refine wl_nil ?_
  refine qs_seq ?_
  refine wc_seq ?_
  refine wc_region ?_
  refine wl_move rfl rfl ?_
  refine wl_move rfl rfl ?_
  have hC1 := hS.split [0] [true, false] rfl; dsimp only [selF, pickA, nthA, List.cons_append, List.nil_append] at hC1
  refine wl_call cal_117 rfl (ahead_sp hC1 e he hrl) rfl ?_
  rintro e w1 ⟨_, rfl, rfl, hS1⟩; refine ⟨_, rfl, ?_⟩
  replace hS1 := hS1.join rfl; dsimp only [List.dropLast, List.cons_append, List.nil_append] at hS1; clear hC1
  refine wl_assign rfl rfl ?_
  refine wl_nil ?_
  refine qs_seq ?_
  refine wc_seq ?_
  refine wc_seq ?_
  refine wc_region ?_
  refine wl_move rfl rfl ?_
  refine wl_lss rfl rfl rfl ?_
  refine wl_nil ?_
  refine qs_seq ?_
  refine wc_condD rfl (fun h2 => ?_) (fun h2 => ?_)
  · skip
    refine wc_seq ?_
    refine wc_region ?_
    refine wl_move rfl rfl ?_
    have hC3 := hS1.split [0] [true, false] rfl; dsimp only [selF, pickA, nthA, List.cons_append, List.nil_append] at hC3
    refine wl_call cal_119 rfl (r1Fail_sp hC3) rfl ?_
    rintro e w3 ⟨_, rfl, rfl, hS3⟩; refine ⟨_, rfl, ?_⟩
    replace hS3 := hS3.join rfl; dsimp only [List.dropLast, List.cons_append, List.nil_append] at hS3; clear hC3
    clear hS1
    refine wl_assign rfl rfl ?_
    refine wl_nil ?_
    refine qs_seq ?_
    refine wc_sub (L' := [(4, _), (5, _)]) (.cons rfl (.cons rfl .nil)) ?_
    refine wc_ret ?_
    refine qs_then_ret ?_
    refine fin1 (.inr rfl) rfl rfl ?_
    exact ⟨_, rfl, by rw [(num_zero e s).1, if_pos (by assumption)], by rw [(num_zero e s).2, if_pos (by assumption)]; exact hS3⟩
  refine wc_skip ?_
  refine qs_seq ?_
  refine wc_seq ?_
  refine wc_region ?_
  refine wl_move rfl rfl ?_
  refine wl_assign rfl rfl ?_
  refine wl_nil ?_
  refine qs_seq ?_
  refine wc_ret ?_
  refine fin1 (.inr rfl) rfl rfl ?_
  exact ⟨_, rfl, by rw [(num_zero e s).1, if_neg (by assumption)], by rw [(num_zero e s).2, if_neg (by assumption)]; exact hS1⟩
def closeB (e : UInt8) (r : Bs) : Bool := match r with | c :: _ => decide (c = e) | [] => false
theorem r1Close_sp {w : World} {F : Th} {b : Nat} {s : Bs × Bool} (hS : Sat w [readT b s, F]) (e : UInt8) :
    Calls Tryz.prog 120 #[ptrV b 0, byteV e] w (Ret fun v w' => v = .bool (closeB e s.1) ∧ Sat w' [readT b (cutV e s), F]) := by
  obtain ⟨r, q⟩ := s
  change Sat w [blkT b [strV r, .bool q], F] at hS
  refine calls_enter Tryz.func120 rfl Tryz.ntmps120 rfl ?_
  refine wc_seq ?_
  refine wc_region ?_
  refine wl_assign rfl rfl ?_
  refine wl_nil ?_
  refine qs_seq ?_
  refine wc_seq ?_
  refine wc_seq ?_
  refine wc_region ?_
  refine wl_move rfl rfl ?_
  refine wl_nilCheck rfl rfl ?_
  refine wl_fieldAddr rfl fo_141_0 rfl ?_
  refine wl_load rfl ag_9 (by first | assumption | exact hS.cell 0 rfl rfl) rfl ?_
  refine wl_lenS Tryz.underlying9 rfl rfl ?_
  refine wl_eql rfl rfl rfl ?_
  refine wl_nil ?_
  refine qs_seq ?_
  refine wc_condD rfl (fun h1 => ?_) (fun h1 => ?_)
  · skip
    refine wc_seq ?_
    refine wc_region ?_
    refine wl_move rfl rfl ?_
    have hC2 := hS.split [0] [true, false] rfl; dsimp only [selF, pickA, nthA, List.cons_append, List.nil_append] at hC2
    refine wl_call cal_119 rfl (r1Fail_sp (s := (r, q)) hC2) rfl ?_
    rintro e w2 ⟨_, rfl, rfl, hS2⟩; refine ⟨_, rfl, ?_⟩
    replace hS2 := hS2.join rfl; dsimp only [List.dropLast, List.cons_append, List.nil_append] at hS2; clear hC2
    refine wl_nil ?_
    refine qs_seq ?_
    refine wc_sub (L' := [(4, _), (0, _), (1, _)]) (.cons rfl (.cons rfl (.cons rfl .nil))) ?_
    refine wc_seq ?_
    refine wc_region ?_
    refine wl_assign rfl rfl ?_
    refine wl_nil ?_
    refine qs_seq ?_
    refine wc_ret ?_
    refine qs_then_ret ?_
    refine fin1 (.inr rfl) rfl rfl ?_
    obtain rfl : r = [] := List.length_eq_zero_iff.1 (by omega)
    exact ⟨_, rfl, rfl, hS2⟩
  obtain ⟨ch, r2, rfl⟩ : ∃ ch r2, r = ch :: r2 := by cases r with | nil => simp at h1 | cons ch r2 => exact ⟨ch, r2, rfl⟩
  refine wc_skip ?_
  refine qs_seq ?_
  refine wc_seq ?_
  refine wc_seq ?_
  refine wc_region ?_
  refine wl_move rfl rfl ?_
  refine wl_nilCheck rfl rfl ?_
  refine wl_fieldAddr rfl fo_141_0 rfl ?_
  refine wl_load rfl ag_9 (by first | assumption | exact hS.cell 0 rfl rfl) rfl ?_
  refine wl_indexS 0 Tryz.underlying9 rfl rfl (by first | rfl | omega) (show (ch :: r2)[0]? = some ch from rfl) rfl ?_
  refine wl_move rfl rfl ?_
  refine wl_neq rfl rfl rfl ?_
  refine wl_nil ?_
  refine qs_seq ?_
  refine wc_sub (L' := [(19, _), (4, _), (0, _)]) (.cons rfl (.cons rfl (.cons rfl .nil))) ?_
  refine wc_condD rfl (fun h3 => ?_) (fun h3 => ?_)
  · skip
    refine wc_seq ?_
    refine wc_region ?_
    refine wl_move rfl rfl ?_
    have hC4 := hS.split [0] [true, false] rfl; dsimp only [selF, pickA, nthA, List.cons_append, List.nil_append] at hC4
    refine wl_call cal_119 rfl (r1Fail_sp (s := (ch :: r2, q)) hC4) rfl ?_
    rintro e w4 ⟨_, rfl, rfl, hS4⟩; refine ⟨_, rfl, ?_⟩
    replace hS4 := hS4.join rfl; dsimp only [List.dropLast, List.cons_append, List.nil_append] at hS4; clear hC4
    refine wl_nil ?_
    refine qs_seq ?_
    refine wc_seq ?_
    refine wc_region ?_
    refine wl_assign rfl rfl ?_
    refine wl_nil ?_
    refine qs_seq ?_
    refine wc_ret ?_
    refine qs_then_ret ?_
    refine fin1 (.inr rfl) rfl rfl ?_
    have hce : ¬ ch = e := fun q => absurd (by rw [q]) (by assumption : ¬ ((ch.toNat : Int) = e.toNat))
    exact ⟨_, rfl, by simp only [closeB, decide_eq_false hce], by simp only [cutV, if_neg hce]; exact hS4⟩
  refine wc_skip ?_
  refine qs_seq ?_
  refine wc_seq ?_
  refine wc_region ?_
  refine wl_move rfl rfl ?_
  refine wl_move rfl rfl ?_
  refine wl_nilCheck rfl rfl ?_
  refine wl_fieldAddr rfl fo_141_0 rfl ?_
  refine wl_load rfl ag_9 (by first | assumption | exact hS.cell 0 rfl rfl) rfl ?_
  refine wl_sliceS 1 (r2.length + 1) Tryz.underlying9 rfl (bndS 1 _ rfl rfl) (bndN _) (by first | omega | (simp; omega) | (simp; done)) (by first | omega | (simp; omega) | (simp; done)) rfl ?_
  rw [show List.drop 1 (List.take (r2.length + 1) (ch :: r2)) = r2 by rw [List.take_of_length_le (by simp)]; rfl]
  refine wl_nilCheck rfl rfl ?_
  refine wl_fieldAddr rfl fo_141_0 rfl ?_
  first | (refine wl_store hS rfl rfl sz_9 (by first | rfl | assumption) (i := 0) rfl (by first | decide | exact Nat.le_of_ble_eq_true rfl | (simp; done) | omega) ?_)
  intro w5 hS6; dsimp only [List.set] at hS6
  refine wl_nil ?_
  refine qs_seq ?_
  refine wc_sub (L' := [(4, _)]) (.cons rfl .nil) ?_
  refine wc_seq ?_
  refine wc_region ?_
  refine wl_assign rfl rfl ?_
  refine wl_nil ?_
  refine qs_seq ?_
  refine wc_ret ?_
  refine fin1 (.inr rfl) rfl rfl ?_
  obtain rfl : ch = e := UInt8.toNat_inj.1 (by omega)
  exact ⟨_, rfl, by simp [closeB], by simp only [cutV, if_true]; exact hS6⟩
theorem close_yes {e : UInt8} {r : Bs} {q : Bool} (h : closeB e r = true) : cutV e (r, q) = (r.drop 1, q) := by
  cases r with
  | nil => cases h
  | cons c r => simp only [closeB, decide_eq_true_eq] at h; simp [cutV, h]
theorem close_no {e : UInt8} {r : Bs} {q : Bool} (h : closeB e r = false) : cutV e (r, q) = ([], true) := by
  cases r with
  | nil => rfl
  | cons c r => simp only [closeB, decide_eq_false_iff_not] at h; simp [cutV, h]
set_option maxRecDepth 100000 in
theorem r1RText_sp {w : World} {F : Th} {b : Nat} {s : Bs × Bool} (hS : Sat w [readT b s, F]) (hb : OkR s) (hrl : s.1.length ≤ 1000000) :
    Calls Tryz.prog 93 #[ptrV b 0] w (Ret fun v w' => v = strV (txtV s) ∧ Sat w' [readT b (txtR s), F]) := by
  refine calls_enter Tryz.func93 rfl Tryz.ntmps93 rfl ?_
  refine wc_seq ?_
  refine wc_region ?_
  refine wl_assign rfl rfl ?_
  refine wl_nil ?_
  refine qs_seq ?_
  refine wc_seq ?_
  refine wc_region ?_
  refine wl_move rfl rfl ?_
  have hC1 := hS.split [0] [true, false] rfl; dsimp only [selF, pickA, nthA, List.cons_append, List.nil_append] at hC1
  refine wl_call cal_118 rfl (r1Num_sp hC1 58 (by decide) (by omega)) rfl ?_
  rintro e w1 ⟨_, rfl, rfl, hS1⟩; refine ⟨_, rfl, ?_⟩
  replace hS1 := hS1.join rfl; dsimp only [List.dropLast, List.cons_append, List.nil_append] at hS1; clear hC1
  obtain ⟨k, hk⟩ : ∃ k : Nat, numV 58 0 s = (k : Int) := ⟨(numV 58 0 s).toNat, by have := numV_nn 58 s; omega⟩
  rw [hk]
  have hnl := numR_len 58 0 s
  have hrb := hb.num 58 0
  rcases hN : numR 58 0 s with ⟨r1, q1⟩
  rw [hN] at hS1 hnl hrb
  dsimp only at hnl
  change q1 = true → r1 = [] at hrb
  change Sat w1 [blkT b [strV r1, .bool q1], F] at hS1
  refine wl_assign rfl rfl ?_
  refine wl_nil ?_
  refine qs_seq ?_
  refine wc_seq ?_
  refine wc_seq ?_
  refine wc_region ?_
  refine wl_move rfl rfl ?_
  refine wl_nilCheck rfl rfl ?_
  refine wl_fieldAddr rfl fo_141_1 rfl ?_
  refine wl_load rfl ag_4 (by first | assumption | exact hS1.cell 0 rfl rfl) rfl ?_
  refine wl_move rfl rfl ?_
  refine wl_split 11 rfl (fun h2 => ?_) (fun h2 => ?_)
  · skip
    have hq1 : q1 = true := h2
    refine wl_unwanted rfl rfl h2 rfl ?_
    refine wl_unwanted rfl rfl h2 rfl ?_
    refine wl_unwanted rfl rfl h2 rfl ?_
    refine wl_unwanted rfl rfl h2 rfl ?_
    refine wl_unwanted rfl rfl h2 rfl ?_
    refine wl_unwanted rfl rfl h2 rfl ?_
    refine wl_unwanted rfl rfl h2 rfl ?_
    refine wl_pickT rfl h2 rfl rfl ?_
    refine wl_nil ?_
    refine qs_seq ?_
    refine wc_sub (L' := [(19, _), (3, _), (2, _), (0, _)]) (.cons rfl (.cons rfl (.cons rfl (.cons rfl .nil)))) ?_
    refine wc_condT rfl ?_
    refine wc_seq ?_
    refine wc_region ?_
    refine wl_move rfl rfl ?_
    have hC3 := hS1.split [0] [true, false] rfl; dsimp only [selF, pickA, nthA, List.cons_append, List.nil_append] at hC3
    refine wl_call cal_119 rfl (r1Fail_sp (s := (r1, q1)) hC3) rfl ?_
    rintro e w3 ⟨_, rfl, rfl, hS3⟩; refine ⟨_, rfl, ?_⟩
    replace hS3 := hS3.join rfl; dsimp only [List.dropLast, List.cons_append, List.nil_append] at hS3; clear hC3
    clear hS1
    refine wl_nil ?_
    refine qs_seq ?_
    refine wc_seq ?_
    refine wc_region ?_
    refine wl_assign rfl rfl ?_
    refine wl_nil ?_
    refine qs_seq ?_
    refine wc_ret ?_
    refine qs_then_ret ?_
    refine fin1 (.inr rfl) rfl rfl ?_
    have hfull : cutV 44 (r1.drop k, q1) = ([], true) ∨ (r1.length : Int) < k := by subst hq1; have : r1 = [] := hrb rfl; subst this; exact .inl (by simp [cutV])
    by_cases hlt : (r1.length : Int) < k
    · exact ⟨_, rfl, by unfold txtV; rw [hN, hk]; dsimp only; rw [if_pos hlt], by unfold txtR; rw [hN, hk]; dsimp only; rw [if_pos hlt]; exact hS3⟩
    · have hfl := hfull.resolve_right hlt
      exact ⟨_, rfl, by unfold txtV; rw [hN, hk]; dsimp only; rw [if_neg hlt, Int.toNat_natCast, hfl]; rfl, by unfold txtR; rw [hN, hk]; dsimp only; rw [if_neg hlt, Int.toNat_natCast, hfl]; exact hS3⟩
  have hq1 : q1 = false := h2
  refine wl_guard rfl rfl h2 ?_
  refine wl_move rfl rfl ?_
  refine wl_guard rfl rfl h2 ?_
  refine wl_move rfl rfl ?_
  refine wl_guard rfl rfl h2 ?_
  refine wl_nilCheck rfl rfl ?_
  refine wl_guard rfl rfl h2 ?_
  refine wl_fieldAddr rfl fo_141_0 rfl ?_
  refine wl_guard rfl rfl h2 ?_
  refine wl_load rfl ag_9 (by first | assumption | exact hS1.cell 0 rfl rfl) rfl ?_
  refine wl_guard rfl rfl h2 ?_
  refine wl_lenS Tryz.underlying9 rfl rfl ?_
  refine wl_guard rfl rfl h2 ?_
  refine wl_geq rfl rfl rfl ?_
  refine wl_pickF rfl h2 rfl rfl ?_
  refine wl_nil ?_
  refine qs_seq ?_
  refine wc_sub (L' := [(19, _), (3, _), (2, _), (0, _)]) (.cons rfl (.cons rfl (.cons rfl (.cons rfl .nil)))) ?_
  refine wc_condD rfl (fun h4 => ?_) (fun h4 => ?_)
  · skip
    refine wc_seq ?_
    refine wc_region ?_
    refine wl_move rfl rfl ?_
    have hC5 := hS1.split [0] [true, false] rfl; dsimp only [selF, pickA, nthA, List.cons_append, List.nil_append] at hC5
    refine wl_call cal_119 rfl (r1Fail_sp (s := (r1, q1)) hC5) rfl ?_
    rintro e w5 ⟨_, rfl, rfl, hS5⟩; refine ⟨_, rfl, ?_⟩
    replace hS5 := hS5.join rfl; dsimp only [List.dropLast, List.cons_append, List.nil_append] at hS5; clear hC5
    clear hS1
    refine wl_nil ?_
    refine qs_seq ?_
    refine wc_seq ?_
    refine wc_region ?_
    refine wl_assign rfl rfl ?_
    refine wl_nil ?_
    refine qs_seq ?_
    refine wc_ret ?_
    refine qs_then_ret ?_
    refine fin1 (.inr rfl) rfl rfl ?_
    have hfull : cutV 44 (r1.drop k, q1) = ([], true) ∨ (r1.length : Int) < k := by by_cases hlt : (r1.length : Int) < k; exact .inr hlt; exact .inl (by rw [List.drop_eq_nil_of_le (by omega)]; rfl)
    by_cases hlt : (r1.length : Int) < k
    · exact ⟨_, rfl, by unfold txtV; rw [hN, hk]; dsimp only; rw [if_pos hlt], by unfold txtR; rw [hN, hk]; dsimp only; rw [if_pos hlt]; exact hS5⟩
    · have hfl := hfull.resolve_right hlt
      exact ⟨_, rfl, by unfold txtV; rw [hN, hk]; dsimp only; rw [if_neg hlt, Int.toNat_natCast, hfl]; rfl, by unfold txtR; rw [hN, hk]; dsimp only; rw [if_neg hlt, Int.toNat_natCast, hfl]; exact hS5⟩
  refine wc_skip ?_
  refine qs_seq ?_
  refine wc_seq ?_
  refine wc_region ?_
  refine wl_move rfl rfl ?_
  refine wl_nilCheck rfl rfl ?_
  refine wl_fieldAddr rfl fo_141_0 rfl ?_
  refine wl_load rfl ag_9 (by first | assumption | exact hS1.cell 0 rfl rfl) rfl ?_
  refine wl_move rfl rfl ?_
  refine wl_sliceS 0 k Tryz.underlying9 rfl (bndN _) (bndS k _ rfl rfl) (by omega) (by omega) rfl ?_
  rw [List.drop_zero]
  refine wl_assign rfl rfl ?_
  refine wl_nil ?_
  refine qs_seq ?_
  refine wc_sub (L' := [(4, _), (3, _), (2, _), (0, _)]) (.cons rfl (.cons rfl (.cons rfl (.cons rfl .nil)))) ?_
  refine wc_seq ?_
  refine wc_region ?_
  refine wl_move rfl rfl ?_
  refine wl_move rfl rfl ?_
  refine wl_nilCheck rfl rfl ?_
  refine wl_fieldAddr rfl fo_141_0 rfl ?_
  refine wl_load rfl ag_9 (by first | assumption | exact hS1.cell 0 rfl rfl) rfl ?_
  refine wl_move rfl rfl ?_
  refine wl_sliceS k r1.length Tryz.underlying9 rfl (bndS k _ rfl rfl) (bndN _) (by omega) (by omega) rfl ?_
  rw [List.take_length]
  refine wl_nilCheck rfl rfl ?_
  refine wl_fieldAddr rfl fo_141_0 rfl ?_
  first | (refine wl_store hS1 rfl rfl sz_9 (by first | rfl | assumption) (i := 0) rfl (by first | decide | exact Nat.le_of_ble_eq_true rfl | (simp; done) | omega) ?_)
  intro w6 hS7; dsimp only [List.set] at hS7
  clear hS1
  refine wl_nil ?_
  refine qs_seq ?_
  refine wc_sub (L' := [(4, _), (2, _), (0, _)]) (.cons rfl (.cons rfl (.cons rfl .nil))) ?_
  refine wc_seq ?_
  refine wc_seq ?_
  refine wc_region ?_
  refine wl_move rfl rfl ?_
  have hC8 := hS7.split [0] [true, false] rfl; dsimp only [selF, pickA, nthA, List.cons_append, List.nil_append] at hC8
  refine wl_call cal_120 rfl (r1Close_sp (s := (r1.drop k, q1)) hC8 44) rfl ?_
  rintro e w8 ⟨_, rfl, rfl, hS8⟩; refine ⟨_, rfl, ?_⟩
  replace hS8 := hS8.join rfl; dsimp only [List.dropLast, List.cons_append, List.nil_append] at hS8; clear hC8
  clear hS7
  refine wl_not rfl rfl ?_
  refine wl_nil ?_
  refine qs_seq ?_
  refine wc_cond rfl (fun h9 => ?_) (fun h9 => ?_)
  · skip
    refine wc_seq ?_
    refine wc_region ?_
    refine wl_assign rfl rfl ?_
    refine wl_nil ?_
    refine qs_seq ?_
    refine wc_ret ?_
    refine qs_then_ret ?_
    refine fin1 (.inr rfl) rfl rfl ?_
    have hcl := close_no (q := q1) (e := 44) (r := r1.drop k) (by simp_all)
    exact ⟨_, rfl, by unfold txtV; rw [hN, hk]; dsimp only; rw [if_neg (by omega), Int.toNat_natCast, hcl]; rfl, by unfold txtR; rw [hN, hk]; dsimp only; rw [if_neg (by omega), Int.toNat_natCast]; exact hS8⟩
  refine wc_skip ?_
  refine qs_seq ?_
  refine wc_seq ?_
  refine wc_region ?_
  refine wl_move rfl rfl ?_
  refine wl_assign rfl rfl ?_
  refine wl_nil ?_
  refine qs_seq ?_
  refine wc_ret ?_
  refine fin1 (.inr rfl) rfl rfl ?_
  have hcl := close_yes (q := q1) (e := 44) (r := r1.drop k) (by simp_all)
  exact ⟨_, rfl, by unfold txtV; rw [hN, hk]; dsimp only; rw [if_neg (by omega), Int.toNat_natCast, hcl]; dsimp only; rw [if_neg (by simp_all)], by unfold txtR; rw [hN, hk]; dsimp only; rw [if_neg (by omega), Int.toNat_natCast]; exact hS8⟩
theorem r1Done_sp {w : World} {F : Th} {b : Nat} {s : Bs × Bool} (hS : Sat w [readT b s, F]) :
    Calls Tryz.prog 95 #[ptrV b 0] w (Ret fun v w' => v = .bool (!s.2 && decide (s.1 = [])) ∧ Sat w' [readT b s, F]) := by
  obtain ⟨r, q⟩ := s
  change Sat w [blkT b [strV r, .bool q], F] at hS
  refine calls_enter Tryz.func95 rfl Tryz.ntmps95 rfl ?_
  refine wc_seq ?_
  refine wc_region ?_
  refine wl_assign rfl rfl ?_
  refine wl_nil ?_
  refine qs_seq ?_
  refine wc_seq ?_
  refine wc_region ?_
  refine wl_move rfl rfl ?_
  refine wl_nilCheck rfl rfl ?_
  refine wl_fieldAddr rfl fo_141_1 rfl ?_
  refine wl_load rfl ag_4 (by first | assumption | exact hS.cell 0 rfl rfl) rfl ?_
  refine wl_not rfl rfl ?_
  refine wl_move rfl rfl ?_
  refine wl_split 8 rfl (fun h1 => ?_) (fun h1 => ?_)
  · skip
    refine wl_guard rfl rfl h1 ?_
    refine wl_move rfl rfl ?_
    refine wl_guard rfl rfl h1 ?_
    refine wl_nilCheck rfl rfl ?_
    refine wl_guard rfl rfl h1 ?_
    refine wl_fieldAddr rfl fo_141_0 rfl ?_
    refine wl_guard rfl rfl h1 ?_
    refine wl_load rfl ag_9 (by first | assumption | exact hS.cell 0 rfl rfl) rfl ?_
    refine wl_guard rfl rfl h1 ?_
    refine wl_eqlS rfl rfl rfl ?_
    refine wl_pickT rfl h1 rfl rfl ?_
    refine wl_assign rfl rfl ?_
    refine wl_nil ?_
    refine qs_seq ?_
    refine wc_sub (L' := [(2, _)]) (.cons rfl .nil) ?_
    refine wc_ret ?_
    refine fin1 (.inr rfl) rfl rfl ?_
    exact ⟨_, rfl, by first | rfl | (simp_all; done), hS⟩
  refine wl_unwanted rfl rfl h1 rfl ?_
  refine wl_unwanted rfl rfl h1 rfl ?_
  refine wl_unwanted rfl rfl h1 rfl ?_
  refine wl_unwanted rfl rfl h1 rfl ?_
  refine wl_unwanted rfl rfl h1 rfl ?_
  refine wl_pickF rfl h1 rfl rfl ?_
  refine wl_assign rfl rfl ?_
  refine wl_nil ?_
  refine qs_seq ?_
  refine wc_sub (L' := [(2, _)]) (.cons rfl .nil) ?_
  refine wc_ret ?_
  refine fin1 (.inr rfl) rfl rfl ?_
  exact ⟨_, rfl, by first | rfl | (simp_all; done), hS⟩
theorem r1Text_sp {w : World} {F : Th} (hS : Sat w [F]) (s : Bs) (hs : s.length ≤ 1000000) :
    Calls Tryz.prog 80 #[strV s] w (Ret fun v w' => v = strV (encT s) ∧ Sat w' [F]) := by
  refine calls_enter Tryz.func80 rfl Tryz.ntmps80 rfl ?_
  refine wc_seq ?_
  refine wc_region ?_
  refine wl_assign rfl rfl ?_
  refine wl_nil ?_
  refine qs_seq ?_
  refine wc_seq ?_
  refine wc_region ?_
  refine wl_move rfl rfl ?_
  refine wl_lenS Tryz.underlying9 rfl rfl ?_
  refine wl_neg rfl (by first | omega | (simp; omega)) (by first | omega | (simp; omega)) rfl ?_
  have hC1 := hS.split [] [false] rfl; dsimp only [selF, pickA, nthA, List.cons_append, List.nil_append] at hC1
  refine wl_call cal_111 rfl (digits_sp' hC1 (-(s.length : Int)) s.length rfl (by omega)) rfl ?_
  rintro e w1 ⟨_, rfl, rfl, hS1⟩; refine ⟨_, rfl, ?_⟩
  replace hS1 := hS1.join rfl; dsimp only [List.dropLast, List.cons_append, List.nil_append] at hS1; clear hC1
  have hil := decDigits_len s.length (by omega)
  refine wl_concat rfl rfl (by first | omega | (simp; omega)) rfl ?_
  refine wl_move rfl rfl ?_
  refine wl_concat rfl rfl (by first | omega | (simp; omega)) rfl ?_
  refine wl_concat rfl rfl (by first | omega | (simp; omega)) rfl ?_
  refine wl_assign rfl rfl ?_
  refine wl_nil ?_
  refine qs_seq ?_
  refine wc_ret ?_
  refine fin1 (.inr rfl) rfl rfl ?_
  exact ⟨_, rfl, by simp [encT, Lib.itoa_nonneg], hS1⟩
end Go.Proofs.YtcbdclhoekokpaaGreatDoor
