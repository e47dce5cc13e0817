/- Closed facts of the program: offsets, sizes, zero values. -/
import Derived.Test.YtfmkodmmbgibgaaGreatDoorOp4
namespace Go.Proofs.YtfmkodmmbgibgaaGreatDoor
open Go.RowKit M
theorem ag_3 : aggB Tryz.prog 3 = some false := by kernel_rfl
theorem ag_4 : aggB Tryz.prog 4 = some false := by kernel_rfl
theorem ag_9 : aggB Tryz.prog 9 = some false := by kernel_rfl
theorem ag_40 : aggB Tryz.prog 40 = some false := by kernel_rfl
theorem ag_63 : aggB Tryz.prog 63 = some false := by kernel_rfl
theorem ag_64 : aggB Tryz.prog 64 = some false := by kernel_rfl
theorem ag_65 : aggB Tryz.prog 65 = some false := by kernel_rfl
theorem ag_85 : aggB Tryz.prog 85 = some true := by kernel_rfl
theorem ag_87 : aggB Tryz.prog 87 = some true := by kernel_rfl
theorem asz_67 : allSz Tryz.prog 67 = true := by kernel_rfl
theorem asz_85 : allSz Tryz.prog 85 = true := by kernel_rfl
theorem asz_87 : allSz Tryz.prog 87 = true := by kernel_rfl
theorem cal_18 : callB Tryz.prog 18 = true := by kernel_rfl
theorem cal_32 : callB Tryz.prog 32 = true := by kernel_rfl
theorem cal_52 : callB Tryz.prog 52 = true := by kernel_rfl
theorem cal_53 : callB Tryz.prog 53 = true := by kernel_rfl
theorem cal_54 : callB Tryz.prog 54 = true := by kernel_rfl
theorem cal_55 : callB Tryz.prog 55 = true := by kernel_rfl
theorem cal_60 : callB Tryz.prog 60 = true := by kernel_rfl
theorem cal_61 : callB Tryz.prog 61 = true := by kernel_rfl
theorem cal_96 : callB Tryz.prog 96 = true := by kernel_rfl
theorem cal_97 : callB Tryz.prog 97 = true := by kernel_rfl
theorem cal_98 : callB Tryz.prog 98 = true := by kernel_rfl
theorem cal_99 : callB Tryz.prog 99 = true := by kernel_rfl
theorem cal_119 : callB Tryz.prog 119 = true := by kernel_rfl
theorem es_40 : elemSz Tryz.prog 40 = some 1 := by kernel_rfl
theorem es_65 : elemSz Tryz.prog 65 = some 2 := by kernel_rfl
theorem fo_67_0 : fldOff Tryz.prog 67 0 = some 0 := by kernel_rfl
theorem fo_67_1 : fldOff Tryz.prog 67 1 = some 1 := by kernel_rfl
theorem fo_67_2 : fldOff Tryz.prog 67 2 = some 2 := by kernel_rfl
theorem fo_67_3 : fldOff Tryz.prog 67 3 = some 3 := by kernel_rfl
theorem fo_67_4 : fldOff Tryz.prog 67 4 = some 4 := by kernel_rfl
theorem fo_67_5 : fldOff Tryz.prog 67 5 = some 5 := by kernel_rfl
theorem fo_67_6 : fldOff Tryz.prog 67 6 = some 6 := by kernel_rfl
theorem fo_85_0 : fldOff Tryz.prog 85 0 = some 0 := by kernel_rfl
theorem fo_85_1 : fldOff Tryz.prog 85 1 = some 1 := by kernel_rfl
theorem fo_87_0 : fldOff Tryz.prog 87 0 = some 0 := by kernel_rfl
theorem fo_87_1 : fldOff Tryz.prog 87 1 = some 1 := by kernel_rfl
theorem fv_87_0 : fldVal Tryz.prog 87 0 = some (0, none) := by kernel_rfl
theorem ifo_3 : (Tryz.prog.info? 3).map (fun i => (i.zero, i.size, i.bytes)) = some (some (.int .i64 0), 1, 8) := by kernel_rfl
theorem ifo_5 : (Tryz.prog.info? 5).map (fun i => (i.zero, i.size, i.bytes)) = some (some (.int .u8 0), 1, 1) := by kernel_rfl
theorem ifo_85 : (Tryz.prog.info? 85).map (fun i => (i.zero, i.size, i.bytes)) = some (some (.agg #[(.int .i64 0), (.int .i64 0)]), 2, 16) := by kernel_rfl
theorem ifz_3 : (Tryz.prog.info? 3).map (fun i => (i.zero, i.size)) = some (some (.int .i64 0), 1) := by kernel_rfl
theorem ifz_85 : (Tryz.prog.info? 85).map (fun i => (i.zero, i.size)) = some (some (.agg #[(.int .i64 0), (.int .i64 0)]), 2) := by kernel_rfl
theorem mix : Tryz.prog.follows .mixedOrders = true := by kernel_rfl
theorem pl_67_0_2 : structPl Tryz.prog 67 [0, 2] = some [(0, 1), (2, 1)] := by kernel_rfl
theorem pl_85_0_1 : structPl Tryz.prog 85 [0, 1] = some [(0, 1), (1, 1)] := by kernel_rfl
theorem pl_87_0_1 : structPl Tryz.prog 87 [0, 1] = some [(0, 1), (1, 1)] := by kernel_rfl
theorem sz_3 : szOf Tryz.prog 3 = some 1 := by kernel_rfl
theorem sz_4 : szOf Tryz.prog 4 = some 1 := by kernel_rfl
theorem sz_5 : szOf Tryz.prog 5 = some 1 := by kernel_rfl
theorem sz_9 : szOf Tryz.prog 9 = some 1 := by kernel_rfl
theorem sz_40 : szOf Tryz.prog 40 = some 1 := by kernel_rfl
theorem sz_64 : szOf Tryz.prog 64 = some 1 := by kernel_rfl
theorem sz_65 : szOf Tryz.prog 65 = some 1 := by kernel_rfl
theorem sz_85 : szOf Tryz.prog 85 = some 2 := by kernel_rfl
theorem sz_87 : szOf Tryz.prog 87 = some 2 := by kernel_rfl
theorem zr_4 : zeroOf Tryz.prog 4 = some (some (.bool false)) := by kernel_rfl
theorem zr_67 : zeroOf Tryz.prog 67 = some (some (.agg #[(.map none), (.slice none 0 0), (.map none), (.int .i64 0), (.bool false), (.int .i64 0), (.slice none 0 0)])) := by kernel_rfl
theorem zr_85 : zeroOf Tryz.prog 85 = some (some (.agg #[(.int .i64 0), (.int .i64 0)])) := by kernel_rfl
theorem zr_87 : zeroOf Tryz.prog 87 = some (some (.agg #[(.string ⟨#[]⟩), (.string ⟨#[]⟩)])) := by kernel_rfl
end Go.Proofs.YtfmkodmmbgibgaaGreatDoor
/- disk: its methods -/
namespace Go.Proofs.YtfmkodmmbgibgaaGreatDoor
open Go.RowKit M
set_option linter.unusedVariables false
theorem keysInt : KeyOk Tryz.prog 3 intK := keyOk_int Tryz.underlying3
theorem keysSec : KeyOk Tryz.prog 85 pairK := keyOk_pair (t := 3) Tryz.underlying85 (by kernel_rfl) Tryz.underlying3 rfl rfl rfl rfl (by decide) (by decide)
theorem down_sp {w : World} {p : Nat} {kp : Value} {D : DS} {F : Th} (hS : Sat w [diskT p kp D, F]) :
    Calls Tryz.prog 16 #[ptrV p 0] w (Ret fun v w' => v = .bool D.down ∧ w = w') := by
 obtain ⟨⟨bf, bs, qv⟩, hI, hS⟩ := diskT_open hS; dsimp only at hS
 refine calls_enter Tryz.func16 rfl Tryz.ntmps16 rfl ?_
 refine wc_seq (wc_region (wl_assign rfl rfl (wl_nil (qs_seq (wc_seq (wc_region (wl_move rfl rfl (wl_nilCheck rfl rfl ?_))))))))
 refine wl_fieldAddr rfl fo_67_4 rfl ?_
 refine wl_load rfl ag_4 (by first | assumption | exact hS.cell 0 rfl rfl) rfl ?_
 refine wl_assign rfl rfl (wl_nil (qs_seq (wc_ret ?_)))
 refine fin1 (.inr rfl) rfl rfl ?_
 exact ⟨_, rfl, rfl, rfl⟩
theorem may_sp {w : World} {p : Nat} {kp : Value} {D : DS} {F : Th} (hS : Sat w [diskT p kp D, F]) (f : Int) :
    Calls Tryz.prog 60 #[ptrV p 0, intV f] w (Ret fun v w' => v = intV (mayE D f) ∧ w = w') := by
 obtain ⟨⟨bf, bs, qv⟩, hI, hS⟩ := diskT_open hS; dsimp only at hS
 refine calls_enter Tryz.func60 rfl Tryz.ntmps60 rfl ?_
 refine wc_seq (wc_region (wl_assign rfl rfl (wl_nil (qs_seq (wc_seq (wc_block (wc_seq (wc_region (wl_move rfl rfl (wl_nilCheck rfl rfl ?_))))))))))
 refine wl_fieldAddr rfl fo_67_4 rfl ?_
 refine wl_load rfl ag_4 (by first | assumption | exact hS.cell 0 rfl rfl) rfl ?_
 refine wl_assign rfl rfl (wl_nil (qs_seq ?_))
 refine wc_cond rfl (fun h1 => ?_) (fun h1 => ?_)
 ·have hd : D.down = true := h1
  refine wc_seq (wc_region (wl_assign rfl rfl (wl_nil (qs_seq (wc_ret (qs_block_ret (qs_then_ret ?_)))))))
  refine fin1 (.inr rfl) rfl rfl ?_
  exact ⟨_, rfl, by simp [mayE, *], rfl⟩
 have hd : D.down = false := h1
 refine wc_seq (wc_region (wl_move rfl rfl ?_))
 refine wl_lss rfl rfl rfl ?_
 refine wl_move rfl rfl ?_
 refine wl_splitD 13 rfl (fun h2 => ?_) (fun h2 => ?_)
 ·refine wl_unwanted rfl rfl (decide_eq_true h2) rfl ?_
  refine wl_unwanted rfl rfl (decide_eq_true h2) rfl ?_
  refine wl_pickT rfl (decide_eq_true h2) rfl rfl ?_
  refine wl_assign rfl rfl (wl_nil (qs_seq ?_))
  refine wc_sub (L' := [(10, _), (4, _)]) (.cons rfl (.cons rfl .nil)) ?_
  refine wc_condT rfl ?_
  refine wc_seq (wc_region (wl_assign rfl rfl (wl_nil (qs_seq (wc_ret (qs_block_ret (qs_then_ret ?_)))))))
  refine fin1 (.inr rfl) rfl rfl ?_
  exact ⟨_, rfl, by simp [mayE, *], rfl⟩
 refine wl_guard rfl rfl (decide_eq_false h2) ?_
 refine wl_move rfl rfl ?_
 refine wl_guard rfl rfl (decide_eq_false h2) ?_
 refine wl_geq rfl rfl rfl ?_
 refine wl_pickF rfl (decide_eq_false h2) rfl rfl ?_
 refine wl_assign rfl rfl (wl_nil (qs_seq ?_))
 refine wc_sub (L' := [(10, _), (4, _)]) (.cons rfl (.cons rfl .nil)) ?_
 refine wc_condD rfl (fun h3 => ?_) (fun h3 => ?_)
 ·refine wc_seq (wc_region (wl_assign rfl rfl (wl_nil (qs_seq (wc_ret (qs_block_ret (qs_then_ret ?_)))))))
  refine fin1 (.inr rfl) rfl rfl ?_
  exact ⟨_, rfl, by simp [mayE, *], rfl⟩
 refine wc_skip (qs_block_normal (qs_seq (wc_seq (wc_region (wl_assign rfl rfl (wl_nil (qs_seq (wc_ret ?_))))))))
 refine fin1 (.inr rfl) rfl rfl ?_
 exact ⟨_, rfl, by simp [mayE, *], rfl⟩
theorem ends_sp {w : World} {p : Nat} {kp : Value} {D : DS} {F : Th} (hS : Sat w [diskT p kp D, F]) :
    Calls Tryz.prog 54 #[ptrV p 0] w (Ret fun v w' => v = .bool (endsB D) ∧ Sat w' [diskT p kp (endsD D), F]) := by
 obtain ⟨⟨bf, bs, qv⟩, hI, hS⟩ := diskT_open hS; dsimp only at hS
 refine calls_enter Tryz.func54 rfl Tryz.ntmps54 rfl ?_
 have ha := hI.armed
 refine wc_seq (wc_region (wl_assign rfl rfl (wl_nil (qs_seq (wc_seq (wc_seq (wc_region (wl_move rfl rfl (wl_nilCheck rfl rfl ?_)))))))))
 refine wl_fieldAddr rfl fo_67_4 rfl ?_
 refine wl_load rfl ag_4 (by first | assumption | exact hS.cell 0 rfl rfl) rfl ?_
 refine wl_move rfl rfl ?_
 refine wl_split 7 rfl (fun h1 => ?_) (fun h1 => ?_)
 ·refine wl_unwanted rfl rfl h1 rfl ?_
  refine wl_unwanted rfl rfl h1 rfl ?_
  refine wl_unwanted rfl rfl h1 rfl ?_
  refine wl_unwanted rfl rfl h1 rfl ?_
  refine wl_unwanted rfl rfl h1 rfl ?_
  refine wl_pickT rfl h1 rfl rfl ?_
  refine wl_nil (qs_seq ?_)
  refine wc_sub (L' := [(13, _), (2, _), (0, _)]) (.cons rfl (.cons rfl (.cons rfl .nil))) ?_
  refine wc_condT rfl ?_
  refine wc_seq (wc_region (wl_assign rfl rfl (wl_nil (qs_seq (wc_ret (qs_then_ret ?_))))))
  refine fin1 (.inr rfl) rfl rfl ?_
  exact ⟨_, rfl, by simp [endsB, *], by rw [show endsD D = D by simp [endsD, *]]; exact diskT_shut _ hI hS⟩
 refine wl_guard rfl rfl h1 ?_
 refine wl_move rfl rfl ?_
 refine wl_guard rfl rfl h1 ?_
 refine wl_nilCheck rfl rfl ?_
 refine wl_guard rfl rfl h1 ?_
 refine wl_fieldAddr rfl fo_67_5 rfl ?_
 refine wl_guard rfl rfl h1 ?_
 refine wl_load rfl ag_3 (by first | assumption | exact hS.cell 0 rfl rfl) rfl ?_
 refine wl_guard rfl rfl h1 ?_
 refine wl_eql rfl rfl rfl ?_
 refine wl_pickF rfl h1 rfl rfl ?_
 refine wl_nil (qs_seq ?_)
 refine wc_sub (L' := [(13, _), (2, _), (0, _)]) (.cons rfl (.cons rfl (.cons rfl .nil))) ?_
 refine wc_condD rfl (fun h2 => ?_) (fun h2 => ?_)
 ·refine wc_seq (wc_region (wl_assign rfl rfl (wl_nil (qs_seq (wc_ret (qs_then_ret ?_))))))
  refine fin1 (.inr rfl) rfl rfl ?_
  exact ⟨_, rfl, by simp [endsB, *], by rw [show endsD D = D by simp [endsD, *]]; exact diskT_shut _ hI hS⟩
 refine wc_skip (qs_seq (wc_seq (wc_region (wl_move rfl rfl (wl_nilCheck rfl rfl ?_)))))
 refine wl_fieldAddr rfl fo_67_5 rfl ?_
 refine wl_load rfl ag_3 (by first | assumption | exact hS.cell 0 rfl rfl) rfl ?_
 refine wl_sub' rfl rfl (by omega) (by omega) rfl ?_
 refine wl_nilCheck rfl rfl ?_
 refine wl_fieldAddr rfl fo_67_5 rfl ?_
 first | (refine wl_store hS rfl rfl sz_3 (by first | rfl | assumption | exact hS.own_one 2 rfl) (i := 0) rfl (by first | decide | exact Nat.le_of_ble_eq_true rfl | (simp; done) | omega) ?_)
 intro w3 hS4; dsimp only [List.set] at hS4
 refine wl_nil (qs_seq (wc_seq (wc_region (wl_move rfl rfl (wl_nilCheck rfl rfl ?_)))))
 refine wl_fieldAddr rfl fo_67_5 rfl ?_
 refine wl_load rfl ag_3 (by first | assumption | exact hS4.cell 0 rfl rfl) rfl ?_
 refine wl_eql rfl rfl rfl ?_
 refine wl_assign rfl rfl (wl_nil (qs_seq ?_))
 refine wc_sub (L' := [(2, _)]) (.cons rfl .nil) ?_
 refine wc_ret ?_
 refine fin1 (.inr rfl) rfl rfl ?_
 exact ⟨_, rfl, by rw [show endsB D = decide (D.armed = 1) by simp [endsB, *]]; congr 2; simp; omega, by rw [show endsD D = { D with armed := D.armed - 1 } by simp [endsD, *]]; exact diskT_shut ⟨bf, bs, qv⟩ { hI with armed := ⟨by simp; omega, by simp; omega⟩ } hS4⟩
theorem start_sp {w : World} {p : Nat} {kp : Value} {D : DS} {F : Th} (hS : Sat w [diskT p kp D, F]) :
    Calls Tryz.prog 17 #[ptrV p 0] w (Ret fun v w' => v = .tuple #[] ∧ Sat w' [diskT p kp { D with down := false }, F]) := by
 obtain ⟨⟨bf, bs, qv⟩, hI, hS⟩ := diskT_open hS; dsimp only at hS
 refine calls_enter Tryz.func17 rfl Tryz.ntmps17 rfl ?_
 refine wc_region (wl_move rfl rfl (wl_nilCheck rfl rfl ?_))
 refine wl_fieldAddr rfl fo_67_4 rfl ?_
 first | (refine wl_store hS rfl rfl sz_4 (by first | rfl | assumption | exact hS.own_one 2 rfl) (i := 0) rfl (by first | decide | exact Nat.le_of_ble_eq_true rfl | (simp; done) | omega) ?_)
 intro w1 hS2; dsimp only [List.set] at hS2
 refine wl_nil ?_
 refine fin0 (.inl rfl) rfl ?_
 exact ⟨_, rfl, rfl, diskT_shut ⟨bf, bs, qv⟩ { hI with } hS2⟩
theorem lose_sp {w : World} {p : Nat} {kp : Value} {D : DS} {F : Th} (hS : Sat w [diskT p kp D, F]) (n : Int) (hn : n ≤ 9223372036854775807) :
    Calls Tryz.prog 26 #[ptrV p 0, intV n] w (Ret fun v w' => v = .tuple #[] ∧ Sat w' [diskT p kp { D with lost := max n 0 }, F]) := by
 obtain ⟨⟨bf, bs, qv⟩, hI, hS⟩ := diskT_open hS; dsimp only at hS
 refine calls_enter Tryz.func26 rfl Tryz.ntmps26 rfl ?_
 refine wc_region (wl_move rfl rfl (wl_move rfl rfl ?_))
 refine wl_maxI rfl rfl rfl ?_
 refine wl_nilCheck rfl rfl ?_
 refine wl_fieldAddr rfl fo_67_3 rfl ?_
 first | (refine wl_store hS rfl rfl sz_3 (by first | rfl | assumption | exact hS.own_one 2 rfl) (i := 0) rfl (by first | decide | exact Nat.le_of_ble_eq_true rfl | (simp; done) | omega) ?_)
 intro w1 hS2; dsimp only [List.set] at hS2
 refine wl_nil ?_
 refine fin0 (.inl rfl) rfl ?_
 exact ⟨_, rfl, rfl, diskT_shut ⟨bf, bs, qv⟩ { hI with lost := ⟨by simp; omega, by simp; omega⟩ } hS2⟩
def newD : DS := ⟨fun _ => ([], []), [], 0, false, 0, []⟩
theorem newD_inv : DInv newD := ⟨by simp [newD], by simp [newD], by simp [newD], by simp [newD], by simp [newD], by simp [newD]⟩
theorem new_shut {w : World} {p bf bs : Nat} {F : Th} (h : Sat w [blkT p [.map (some bf), .slice none 0 0, .map (some bs), intV 0, .bool false, intV 0, .slice none 0 0], mapT pairK bs (fun _ => none), mapT intK bf (fun _ => none), F]) :
    Sat w [blkT p (cellsD ⟨bf, bs, .slice none 0 0⟩ (.slice none 0 0) newD), filesT bf newD.F, ownT (.slice none 0 0) newD.Q.length 2 (secV newD.Q), setT bs newD.Q, F] := by
  have h1 := setT_shut (Q := []) (fun _ => none) (by simp) (h.pull 1 rfl); dsimp only [List.eraseIdx] at h1
  have h2 := filesT_shut (F := fun _ => ([], [])) (fun _ => none) (fun _ => rfl) (h1.pull 2 rfl); dsimp only [List.eraseIdx] at h2
  have h3 := h2.new (Only.refl [] w) (A := ownT (.slice none 0 0) 0 2 []) (F' := fun k => k ∈ ([] : List Nat)) ⟨[], rfl, Own.nil w 2⟩ (by simp)
  exact h3.reorder [3, 1, 0, 2, 4] rfl
theorem new_sp {w : World} {F : Th} (hS : Sat w [F]) :
    Calls Tryz.prog 8 #[] w (Ret fun v w' => ∃ p, v = ptrV p 0 ∧ Sat w' [diskT p (.slice none 0 0) newD, F]) := by
 refine calls_enter Tryz.func8 rfl Tryz.ntmps8 rfl ?_
 refine wc_seq (wc_region (wl_assign rfl rfl (wl_nil (qs_seq (wc_seq (wc_region ?_))))))
 refine wl_makeMap intK hS rfl ?_
 intro b1 w1 hS1
 refine wl_makeMap pairK hS1 rfl ?_
 intro b2 w2 hS2
 clear hS1
 refine wl_buildS rfl pl_67_0_2 asz_67 zr_67 rfl rfl ?_
 refine wl_box hS2 rfl rfl rfl ?_
 intro b3 w3 hS3
 clear hS2
 refine wl_assign rfl rfl (wl_nil (qs_seq (wc_ret ?_)))
 refine fin1 (.inr rfl) rfl rfl ?_
 refine ⟨_, rfl, _, rfl, diskT_shut ⟨b1, b2, .slice none 0 0⟩ newD_inv ?_⟩
 exact new_shut hS3
theorem size_sp {w : World} {p : Nat} {kp : Value} {D : DS} {F : Th} (hS : Sat w [diskT p kp D, F]) (f : Int) :
    Calls Tryz.prog 32 #[ptrV p 0, intV f] w (Ret fun v w' => v = intV (D.F f).1.length ∧ w = w') := by
 obtain ⟨⟨bf, bs, qv⟩, hI, hS⟩ := diskT_open hS; dsimp only at hS
 obtain ⟨g, hg, hS⟩ := filesT_open (hS.pull 1 rfl); dsimp only [List.eraseIdx] at hS
 refine calls_enter Tryz.func32 rfl Tryz.ntmps32 rfl ?_
 refine wc_seq (wc_region (wl_assign rfl rfl (wl_nil (qs_seq (wc_seq (wc_region (wl_move rfl rfl (wl_nilCheck rfl rfl ?_))))))))
 refine wl_fieldAddr rfl fo_67_0 rfl ?_
 refine wl_load rfl ag_63 (by first | assumption | exact hS.cell 1 rfl rfl) rfl ?_
 refine wl_move rfl rfl ?_
 refine wl_lookup 0 hS keysInt Tryz.underlying63 rfl rfl rfl zr_87 (hg _) rfl ?_
 refine wl_field fv_87_0 rfl rfl rfl ?_
 refine wl_lenS Tryz.underlying9 rfl rfl ?_
 refine wl_assign rfl rfl (wl_nil (qs_seq ?_))
 refine wc_sub (L' := [(4, _)]) (.cons rfl .nil) ?_
 refine wc_ret ?_
 refine fin1 (.inr rfl) rfl rfl ?_
 exact ⟨_, rfl, rfl, rfl⟩
theorem read_ok {D : DS} {f at_ size : Int} {A B : Nat} (h : ¬ mayE D f ≠ 0) (h1 : 0 ≤ at_) (h2 : 0 ≤ size) (hA : min at_ ((D.F f).1.length : Int) = A) (hB : min size ((((D.F f).1.take (D.F f).1.length).drop A).length : Int) = B) :
    Value.tuple #[strV (((((D.F f).1.take (D.F f).1.length).drop A).take B).drop 0), intV 0] = .tuple #[strV (ReadS D f at_ size), intV (ReadE D f at_ size)] := by
  have e : ReadE D f at_ size = 0 := by simp only [ReadE]; rw [if_neg h, if_neg (by omega)]
  rw [e, ReadS, if_pos e]
  have e2 : ((D.F f).1.drop at_.toNat) = (((D.F f).1.take (D.F f).1.length).drop A) := by
    rw [List.take_length]
    by_cases hc : at_ ≤ (D.F f).1.length
    · rw [show A = at_.toNat by omega]
    · rw [List.drop_eq_nil_of_le (by omega), List.drop_eq_nil_of_le (by omega)]
  have e3 : (((D.F f).1.drop at_.toNat).take size.toNat) = ((((D.F f).1.take (D.F f).1.length).drop A).take B) := by
    rw [← e2] at hB ⊢
    by_cases hc : size ≤ ((D.F f).1.drop at_.toNat).length
    · rw [show B = size.toNat by omega]
    · rw [List.take_of_length_le (by omega), List.take_of_length_le (by omega)]
  rw [e3, List.drop_zero]
theorem read_sp {w : World} {p : Nat} {kp : Value} {D : DS} {F : Th} (hS : Sat w [diskT p kp D, F]) (f at_ size : Int) :
    Calls Tryz.prog 31 #[ptrV p 0, intV f, intV at_, intV size] w (Ret fun v w' => v = .tuple #[strV (ReadS D f at_ size), intV (ReadE D f at_ size)] ∧ w = w') := by
 have hS0 := hS
 obtain ⟨⟨bf, bs, qv⟩, hI, hS⟩ := diskT_open hS; dsimp only at hS
 obtain ⟨g, hg, hS⟩ := filesT_open (hS.pull 1 rfl); dsimp only [List.eraseIdx] at hS
 refine calls_enter Tryz.func31 rfl Tryz.ntmps31 rfl ?_
 refine wc_seq (wc_region (wl_assign rfl rfl (wl_assign rfl rfl (wl_nil (qs_seq (wc_seq (wc_seq (wc_region (wl_move rfl rfl (wl_move rfl rfl ?_))))))))))
 refine wl_call cal_60 rfl (may_sp (hS0) f) rfl ?_
 rintro e _ ⟨_, rfl, rfl, rfl⟩; refine ⟨_, rfl, ?_⟩
 refine wl_assign rfl rfl (wl_nil (qs_seq (wc_seq (wc_region (wl_move rfl rfl ?_)))))
 refine wl_neq rfl rfl rfl ?_
 refine wl_nil (qs_seq ?_)
 refine wc_sub (L' := [(16, _), (10, _), (9, _), (8, _), (0, _), (1, _), (2, _), (3, _)]) (.cons rfl (.cons rfl (.cons rfl (.cons rfl (.cons rfl (.cons rfl (.cons rfl (.cons rfl .nil)))))))) ?_
 refine wc_condD rfl (fun h2 => ?_) (fun h2 => ?_)
 ·refine wc_seq (wc_region (wl_move rfl rfl (wl_assign rfl rfl (wl_assign rfl rfl (wl_nil (qs_seq (wc_ret (qs_then_ret ?_))))))))
  refine fin2 (.inr rfl) rfl rfl rfl ?_
  exact ⟨_, rfl, by simp [ReadE, ReadS, *], rfl⟩
 refine wc_skip (qs_seq (wc_seq (wc_seq (wc_region (wl_move rfl rfl ?_)))))
 refine wl_lss rfl rfl rfl ?_
 refine wl_move rfl rfl ?_
 refine wl_splitD 20 rfl (fun h3 => ?_) (fun h3 => ?_)
 ·refine wl_unwanted rfl rfl (decide_eq_true h3) rfl ?_
  refine wl_unwanted rfl rfl (decide_eq_true h3) rfl ?_
  refine wl_pickT rfl (decide_eq_true h3) rfl rfl ?_
  refine wl_nil (qs_seq ?_)
  refine wc_sub (L' := [(23, _), (9, _), (8, _), (0, _), (1, _), (2, _), (3, _)]) (.cons rfl (.cons rfl (.cons rfl (.cons rfl (.cons rfl (.cons rfl (.cons rfl .nil))))))) ?_
  refine wc_condT rfl ?_
  refine wc_seq (wc_region (wl_assign rfl rfl (wl_assign rfl rfl (wl_nil (qs_seq (wc_ret (qs_then_ret ?_)))))))
  refine fin2 (.inr rfl) rfl rfl rfl ?_
  exact ⟨_, rfl, by simp [ReadE, ReadS, *], rfl⟩
 refine wl_guard rfl rfl (decide_eq_false h3) ?_
 refine wl_move rfl rfl ?_
 refine wl_guard rfl rfl (decide_eq_false h3) ?_
 refine wl_lss rfl rfl rfl ?_
 refine wl_pickF rfl (decide_eq_false h3) rfl rfl ?_
 refine wl_nil (qs_seq ?_)
 refine wc_sub (L' := [(23, _), (9, _), (8, _), (0, _), (1, _), (2, _), (3, _)]) (.cons rfl (.cons rfl (.cons rfl (.cons rfl (.cons rfl (.cons rfl (.cons rfl .nil))))))) ?_
 refine wc_condD rfl (fun h4 => ?_) (fun h4 => ?_)
 ·refine wc_seq (wc_region (wl_assign rfl rfl (wl_assign rfl rfl (wl_nil (qs_seq (wc_ret (qs_then_ret ?_)))))))
  refine fin2 (.inr rfl) rfl rfl rfl ?_
  exact ⟨_, rfl, by simp [ReadE, ReadS, *], rfl⟩
 refine wc_skip (qs_seq (wc_seq (wc_region (wl_move rfl rfl (wl_nilCheck rfl rfl ?_)))))
 refine wl_fieldAddr rfl fo_67_0 rfl ?_
 refine wl_load rfl ag_63 (by first | assumption | exact hS.cell 1 rfl rfl) rfl ?_
 refine wl_move rfl rfl ?_
 refine wl_lookup 0 hS keysInt Tryz.underlying63 rfl rfl rfl zr_87 (hg _) rfl ?_
 refine wl_field fv_87_0 rfl rfl rfl ?_
 refine wl_assign rfl rfl (wl_nil (qs_seq ?_))
 refine wc_sub (L' := [(11, _), (9, _), (8, _), (2, _), (3, _)]) (.cons rfl (.cons rfl (.cons rfl (.cons rfl (.cons rfl .nil))))) ?_
 refine wc_seq ?_
 obtain ⟨A, hA⟩ : ∃ A : Nat, min at_ ((D.F f).1.length : Int) = A := ⟨(min at_ ((D.F f).1.length : Int)).toNat, by omega⟩
 refine wc_region (wl_move rfl rfl (wl_move rfl rfl (wl_move rfl rfl ?_)))
 refine wl_lenS Tryz.underlying9 rfl rfl ?_
 refine wl_minI rfl rfl rfl ?_
 refine wl_sliceS A _ Tryz.underlying9 rfl (bndS A _ rfl hA) (bndN _) (by omega) (by omega) rfl ?_
 refine wl_assign rfl rfl (wl_nil (qs_seq ?_))
 refine wc_sub (L' := [(11, _), (9, _), (8, _), (3, _)]) (.cons rfl (.cons rfl (.cons rfl (.cons rfl .nil)))) ?_
 refine wc_seq ?_
 obtain ⟨B, hB⟩ : ∃ B : Nat, min size ((((D.F f).1.take (D.F f).1.length).drop A).length : Int) = B := ⟨(min size ((((D.F f).1.take (D.F f).1.length).drop A).length : Int)).toNat, by omega⟩
 refine wc_region (wl_move rfl rfl (wl_move rfl rfl (wl_move rfl rfl ?_)))
 refine wl_lenS Tryz.underlying9 rfl rfl ?_
 refine wl_minI rfl rfl rfl ?_
 refine wl_sliceS _ B Tryz.underlying9 rfl (bndN _) (bndS B _ rfl hB) (by omega) (by omega) rfl ?_
 refine wl_assign rfl rfl (wl_assign rfl rfl (wl_nil (qs_seq (wc_ret ?_))))
 refine fin2 (.inr rfl) rfl rfl rfl ?_
 exact ⟨_, rfl, read_ok (by assumption) (by omega) (by omega) hA hB, rfl⟩
theorem put3 (s t : Bytes) (a : Nat) (hne : t ≠ []) (hc : max s.length (a + t.length) ≠ a) : splice (bytesV (fillB s (max s.length (a + t.length)))) (0 + a * 1) (bytesV (t.take (max s.length (a + t.length) - a))) = bytesV (putB s a t) := by
  rw [List.take_of_length_le (by omega), bytesV_splice, Nat.zero_add, Nat.mul_one, put2 s t a hne]
theorem put_sp {w : World} {F : Th} (hS : Sat w [F]) (s t : Bytes) (a : Nat) (h1 : s.length ≤ 16777216) (h2 : a + t.length ≤ 33554432) :
    Calls Tryz.prog 53 #[strV s, intV a, strV t] w (Ret fun v w' => v = strV (putB s a t) ∧ Sat w' [F]) := by
 refine calls_enter Tryz.func53 rfl Tryz.ntmps53 rfl ?_
 refine wc_seq (wc_region (wl_assign rfl rfl (wl_nil (qs_seq (wc_seq (wc_seq (wc_region (wl_move rfl rfl ?_))))))))
 refine wl_eqlS rfl rfl rfl ?_
 refine wl_nil (qs_seq ?_)
 refine wc_condD rfl (fun h1 => ?_) (fun h1 => ?_)
 ·have hne : t = [] := h1
  refine wc_seq (wc_region (wl_move rfl rfl (wl_assign rfl rfl (wl_nil (qs_seq (wc_ret (qs_then_ret ?_)))))))
  refine fin1 (.inr rfl) rfl rfl ?_
  exact ⟨_, rfl, by rw [hne, putB_nil], hS⟩
 have hne : t ≠ [] := h1
 refine wc_skip (qs_seq (wc_seq (wc_region (wl_move rfl rfl ?_))))
 refine wl_lenS Tryz.underlying9 rfl rfl ?_
 refine wl_move rfl rfl (wl_move rfl rfl ?_)
 refine wl_lenS Tryz.underlying9 rfl rfl ?_
 refine wl_add rfl rfl (by omega) (by omega) rfl ?_
 refine wl_maxI rfl rfl rfl ?_
 refine wl_make hS (max s.length (a + t.length)) rfl rfl (by omega) Tryz.underlying118 ifo_5 rfl (by omega) (by omega) rfl ?_
 intro b w1 hS1; rw [zeros_made] at hS1
 refine wl_assign rfl rfl (wl_nil (qs_seq ?_))
 refine wc_sub (L' := [(7, _), (6, _), (0, _), (1, _), (2, _)]) (.cons rfl (.cons rfl (.cons rfl (.cons rfl (.cons rfl .nil))))) ?_
 refine wc_seq (wc_region (wl_move rfl rfl (wl_move rfl rfl ?_)))
 refine wl_copyS 0 hS1 rfl rfl rfl rfl Tryz.underlying118 sz_5 (by simp [bytesV]; omega) (put1 s _ (by omega)) rfl ?_
 intro w2 hS2; dsimp only [List.set] at hS2
 refine wl_nil (qs_seq (wc_seq (wc_region (wl_move rfl rfl (wl_move rfl rfl ?_)))))
 refine wl_slice a (max s.length (a + t.length)) Tryz.underlying118 sz_5 rfl (bndS a _ rfl rfl) (bndN _) (by omega) (by omega) rfl ?_
 have hc : max s.length (a + t.length) ≠ a := by have : 0 < t.length := List.length_pos_iff.2 hne; omega
 rw [if_neg hc]
 refine wl_move rfl rfl ?_
 refine wl_copyS 0 hS2 rfl rfl rfl rfl Tryz.underlying118 sz_5 (by simp [bytesV, fillB]; omega) (put3 s t a hne hc) rfl ?_
 intro w3 hS3; dsimp only [List.set] at hS3
 refine wl_nil (qs_seq ?_)
 refine wc_sub (L' := [(7, _), (6, _)]) (.cons rfl (.cons rfl .nil)) ?_
 refine wc_seq (wc_region (wl_move rfl rfl ?_))
 refine wl_strB 0 hS3 (putB s a t) rfl rfl rfl Tryz.underlying118 Tryz.underlying5 Tryz.underlying9 (by rw [List.drop_zero, List.take_of_length_le (by rw [bytesV_length, putB_length s t a hne]; omega)]) (putB_length s t a hne) rfl ?_
 refine wl_assign rfl rfl (wl_nil (qs_seq (wc_ret ?_)))
 refine fin1 (.inr rfl) rfl rfl ?_
 exact ⟨_, rfl, rfl, hS3.tail⟩
end Go.Proofs.YtfmkodmmbgibgaaGreatDoor
/- disk: writing -/
namespace Go.Proofs.YtfmkodmmbgibgaaGreatDoor
open Go.RowKit M
set_option linter.unusedVariables false
theorem secV_length (Q : List (Int × Int)) : (secV Q).length = Q.length * 2 := by
  induction Q with
  | nil => rfl
  | cons p Q ih => simp only [secV, List.flatMap_cons, List.length_append, List.length_cons, List.length_nil] at ih ⊢; omega
theorem secV_snoc (Q : List (Int × Int)) (p : Int × Int) : secV Q ++ [intV p.1, intV p.2] = secV (Q ++ [p]) := by simp [secV]
theorem SaysF_set {g : Int → Option Value} {F : Int → Bytes × Bytes} (h : SaysF g F) (f : Int) (x : Bytes × Bytes) : SaysF (upd g f (some (fileV x))) (setF F f x) := by
  intro k
  by_cases hk : k = f
  · subst hk; simp [upd_self, setF]
  · rw [upd_ne hk, h k]; simp [setF, hk]
theorem pend_step (f : Int) (k : Nat) : ∀ (n : Int) (Q : List (Int × Int)), pend f (k + 1) n Q = (let Q' := pend f k n Q; if (f, n + k) ∈ Q' then Q' else Q' ++ [(f, n + k)]) := by
  induction k with
  | zero => intro n Q; simp [pend]
  | succ k ih =>
    intro n Q
    rw [pend, ih]
    simp only [pend]
    rw [show n + 1 + (k : Int) = n + ((k + 1 : Nat) : Int) by omega]
    rfl
theorem pend_bound (f : Int) (hf : 0 ≤ f ∧ f < 16) : ∀ (k : Nat) (n : Int) (Q : List (Int × Int)), 0 ≤ n → n + k ≤ 262145 → (∀ p ∈ Q, (0 ≤ p.1 ∧ p.1 < 16) ∧ 0 ≤ p.2 ∧ p.2 ≤ 262144) → Q.Nodup → (∀ p ∈ pend f k n Q, (0 ≤ p.1 ∧ p.1 < 16) ∧ 0 ≤ p.2 ∧ p.2 ≤ 262144) ∧ (pend f k n Q).Nodup
  | 0, n, Q, _, _, h1, h2 => ⟨h1, h2⟩
  | k + 1, n, Q, h0, hn, h1, h2 => by
    simp only [pend]
    refine pend_bound f hf k (n + 1) _ (by omega) (by omega) ?_ ?_
    · intro p hp
      split at hp
      · exact h1 p hp
      · rcases List.mem_append.1 hp with hp | hp
        · exact h1 p hp
        · simp only [List.mem_singleton] at hp; subst hp; exact ⟨hf, by simp; omega⟩
    · split
      · exact h2
      · rename_i hn'
        exact List.nodup_append.2 ⟨h2, by simp, by intro a ha b hb; simp only [List.mem_singleton] at hb; subst hb; intro e; subst e; exact hn' ha⟩
/-- no more than 4194320 sectors are pending -/
theorem sec_count {Q : List (Int × Int)} (h : ∀ p ∈ Q, (0 ≤ p.1 ∧ p.1 < 16) ∧ 0 ≤ p.2 ∧ p.2 ≤ 262144) (hn : Q.Nodup) : Q.length ≤ 4194320 := by
  have hm : (Q.map fun p => (p.1 * 262145 + p.2).toNat).Nodup := by
    refine List.pairwise_map.2 (hn.imp_of_mem ?_)
    intro a b ha hb hne e
    apply hne
    have h1 := h a ha; have h2 := h b hb
    have : a.1 * 262145 + a.2 = b.1 * 262145 + b.2 := by omega
    have e1 : a.1 = b.1 := by omega
    have e2 : a.2 = b.2 := by omega
    exact Prod.ext e1 e2
  have hs : ∀ x ∈ Q.map (fun p => (p.1 * 262145 + p.2).toNat), x ∈ List.range 4194320 := by
    intro x hx
    obtain ⟨p, hp, rfl⟩ := List.mem_map.1 hx
    have := h p hp
    simp; omega
  have := List.Nodup.length_le_of_subset hm hs
  simpa using this
theorem may_ok {D : DS} {f : Int} (h : mayE D f = 0) : 0 ≤ f ∧ f < 16 := by
  unfold mayE at h; split at h
  · cases h
  · split at h
    · cases h
    · omega
theorem Dback {w : World} {p bf bs : Nat} {kp qv : Value} {D : DS} {g : Int → Option Value} {F : Th} (hI : DInv D) (hg : SaysF g D.F) (h : Sat w [mapT intK bf g, blkT p (cellsD ⟨bf, bs, qv⟩ kp D), ownT qv D.Q.length 2 (secV D.Q), setT bs D.Q, F]) : Sat w [diskT p kp D, F] :=
  diskT_shut ⟨bf, bs, qv⟩ hI ((filesT_shut g hg h).reorder [1, 0, 2, 3, 4] rfl)
theorem set_val {Q : List (Int × Int)} {gs : Int × Int → Option Value} (hgs : ∀ p, gs p = if p ∈ Q then some (.bool true) else none) (x : Int × Int) : (gs x).getD (.bool false) = .bool (decide (x ∈ Q)) := by
  rw [hgs]; by_cases h : x ∈ Q <;> simp [h]
theorem wfull {w : World} {p bf bs : Nat} {kp qv : Value} {D : DS} {g : Int → Option Value} {F : Th} {f at_ : Int} {s : Bytes} (hI : DInv D) (hg : SaysF g D.F) (hm : mayE D f = 0) (hat : 0 ≤ at_) (hx : 16777216 < at_ ∨ 16777216 - at_ < s.length) (h : Sat w [mapT intK bf g, blkT p (cellsD ⟨bf, bs, qv⟩ kp D), ownT qv D.Q.length 2 (secV D.Q), setT bs D.Q, F]) : Ret (fun v w' => v = intV (writeE D f at_ s) ∧ Sat w' [diskT p kp (writeD D f at_ s), F]) (.returned (intV 6)) w := by
  have e : writeE D f at_ s = 6 := by simp only [writeE]; rw [if_neg (by simp [hm]), if_neg (by omega), if_pos hx]
  exact ⟨_, rfl, by rw [e], by rw [writeD, if_neg (by rw [e]; decide)]; exact Dback hI hg h⟩
theorem wnone {w : World} {p bf bs : Nat} {kp qv : Value} {D : DS} {g : Int → Option Value} {F : Th} {f at_ : Int} {s : Bytes} (hI : DInv D) (hg : SaysF g D.F) (hm : mayE D f = 0) (hat : 0 ≤ at_) (hx : ¬ (16777216 < at_ ∨ 16777216 - at_ < s.length)) (hs : s = []) (h : Sat w [mapT intK bf g, blkT p (cellsD ⟨bf, bs, qv⟩ kp D), ownT qv D.Q.length 2 (secV D.Q), setT bs D.Q, F]) : Ret (fun v w' => v = intV (writeE D f at_ s) ∧ Sat w' [diskT p kp (writeD D f at_ s), F]) (.returned (intV 0)) w := by
  have e : writeE D f at_ s = 0 := by simp only [writeE]; rw [if_neg (by simp [hm]), if_neg (by omega), if_neg hx]
  exact ⟨_, rfl, by rw [e], by rw [writeD, if_pos e, addD, if_pos hs]; exact Dback hI hg h⟩
theorem wstart {w : World} {p bf bs : Nat} {kp qv : Value} {D : DS} {g : Int → Option Value} {F X : Th} {f : Int} {a : Nat} {s : Bytes} (hg : SaysF g D.F) (h : Sat w [X, mapT intK bf (upd g f (some (fileV (putB (D.F f).1 a s, (D.F f).2)))), blkT p (cellsD ⟨bf, bs, qv⟩ kp D), ownT qv D.Q.length 2 (secV D.Q), setT bs D.Q, F]) :
    Sat w [blkT p [.map (some bf), qv, .map (some bs), intV D.lost, .bool D.down, intV D.armed, kp], filesT bf (setF D.F f (putB (D.F f).1 a s, (D.F f).2)), ownT qv (pend f 0 ((a : Int) / 64) D.Q).length 2 (secV (pend f 0 ((a : Int) / 64) D.Q)), setT bs (pend f 0 ((a : Int) / 64) D.Q), F] :=
  (filesT_shut _ (SaysF_set hg f _) h.tail).reorder [1, 0, 2, 3, 4] rfl
theorem wround_old {w : World} {p bf bs : Nat} {C : List Value} {qv : Value} {Q : List (Int × Int)} {G : Int → Bytes × Bytes} {gs : Int × Int → Option Value} {F X : Th} {f n : Int} {j : Nat} (hgs : ∀ p, gs p = if p ∈ pend f j n Q then some (.bool true) else none) (hold : (f, n + j) ∈ pend f j n Q) (h : Sat w [X, mapT pairK bs gs, blkT p C, filesT bf G, ownT qv (pend f j n Q).length 2 (secV (pend f j n Q)), F]) :
    Sat w [blkT p C, filesT bf G, ownT qv (pend f (j + 1) n Q).length 2 (secV (pend f (j + 1) n Q)), setT bs (pend f (j + 1) n Q), F] := by
  rw [pend_step, if_pos hold]
  exact (setT_shut gs hgs h.tail).reorder [1, 2, 3, 0, 4] rfl
theorem wround_new {w : World} {p bf bs : Nat} {C : List Value} {qv : Value} {Q : List (Int × Int)} {G : Int → Bytes × Bytes} {gs : Int × Int → Option Value} {F X Y : Th} {f n : Int} {j : Nat} (hgs : ∀ p, gs p = if p ∈ pend f j n Q then some (.bool true) else none) (hnew : (f, n + j) ∉ pend f j n Q) (h : Sat w [Y, X, mapT pairK bs (upd gs (f, n + j) (some (.bool true))), blkT p C, filesT bf G, ownT qv ((pend f j n Q).length + 1) 2 (secV (pend f j n Q) ++ [intV f, intV (n + j)]), F]) :
    Sat w [blkT p C, filesT bf G, ownT qv (pend f (j + 1) n Q).length 2 (secV (pend f (j + 1) n Q)), setT bs (pend f (j + 1) n Q), F] := by
  rw [pend_step, if_neg hnew, ← secV_snoc, List.length_append]
  refine (setT_shut (Q := pend f j n Q ++ [(f, n + j)]) (upd gs (f, n + j) (some (.bool true))) ?_ h.tail.tail).reorder [1, 2, 3, 0, 4] rfl
  intro x
  by_cases hx : x = (f, n + j)
  · subst hx; simp [upd_self]
  · rw [upd_ne hx, hgs]; simp [hx]
theorem wdone {w : World} {p bf bs N j : Nat} {kp qv : Value} {D : DS} {gs : Int × Int → Option Value} {F : Th} {f : Int} {a : Nat} {s : Bytes} (hI : DInv D) (hm : mayE D f = 0) (hf : 0 ≤ f ∧ f < 16) (hx : ¬ (16777216 < (a : Int) ∨ 16777216 - (a : Int) < s.length)) (hs : s ≠ []) (hput : (putB (D.F f).1 a s).length ≤ 16777216) (hN : N = (((a : Int) + s.length - 1) / 64 - (a : Int) / 64 + 1).toNat) (hj : j ≤ N) (hend : ¬ (a : Int) / 64 + j ≤ ((a : Int) + s.length - 1) / 64)
    (hgs : ∀ p, gs p = if p ∈ pend f j ((a : Int) / 64) D.Q then some (.bool true) else none)
    (h : Sat w [mapT pairK bs gs, blkT p [.map (some bf), qv, .map (some bs), intV D.lost, .bool D.down, intV D.armed, kp], filesT bf (setF D.F f (putB (D.F f).1 a s, (D.F f).2)), ownT qv (pend f j ((a : Int) / 64) D.Q).length 2 (secV (pend f j ((a : Int) / 64) D.Q)), F]) :
    Ret (fun v w' => v = intV (writeE D f a s) ∧ Sat w' [diskT p kp (writeD D f a s), F]) (.returned (intV 0)) w := by
  have hlen : 0 < s.length := List.length_pos_iff.2 hs
  have hjN : j = N := by omega
  subst hjN
  have e : writeE D f a s = 0 := by simp only [writeE]; rw [if_neg (by simp [hm]), if_neg (by omega), if_neg hx]
  have hpb := pend_bound f hf j ((a : Int) / 64) D.Q (by omega) (by omega) hI.secs hI.nodup
  have eD : writeD D f a s = { D with F := setF D.F f (putB (D.F f).1 a s, (D.F f).2), Q := pend f j ((a : Int) / 64) D.Q } := by
    rw [writeD, if_pos e, addD, if_neg hs, hN]; simp
  refine ⟨_, rfl, by rw [e], ?_⟩
  rw [eD]
  refine diskT_shut ⟨bf, bs, qv⟩ ?_ ((setT_shut gs hgs h).reorder [1, 2, 3, 0, 4] rfl)
  refine { hI with now := fun k => ?_, last := fun k => ?_, nodup := hpb.2, secs := hpb.1 }
  · simp only [setF]; split
    · exact hput
    · exact hI.now k
  · simp only [setF]; split
    · exact hI.last f
    · exact hI.last k
set_option maxRecDepth 100000 in
theorem write_sp {w : World} {p : Nat} {kp : Value} {D : DS} {F : Th} (hS : Sat w [diskT p kp D, F]) (f at_ : Int) (s : Bytes) :
    Calls Tryz.prog 55 #[ptrV p 0, intV f, intV at_, strV s] w (Ret fun v w' => v = intV (writeE D f at_ s) ∧ Sat w' [diskT p kp (writeD D f at_ s), F]) := by
 have hS0 := hS
 obtain ⟨⟨bf, bs, qv⟩, hI, hS⟩ := diskT_open hS; dsimp only at hS
 obtain ⟨g, hg, hS⟩ := filesT_open (hS.pull 1 rfl); dsimp only [List.eraseIdx] at hS
 refine calls_enter Tryz.func55 rfl Tryz.ntmps55 rfl ?_
 refine wc_seq (wc_region (wl_assign rfl rfl (wl_nil (qs_seq (wc_seq (wc_seq (wc_region (wl_move rfl rfl (wl_move rfl rfl ?_)))))))))
 refine wl_call cal_60 rfl (may_sp (hS0) f) rfl ?_
 rintro e _ ⟨_, rfl, rfl, rfl⟩; refine ⟨_, rfl, ?_⟩
 refine wl_assign rfl rfl (wl_nil (qs_seq (wc_seq (wc_region (wl_move rfl rfl ?_)))))
 refine wl_neq rfl rfl rfl ?_
 refine wl_nil (qs_seq ?_)
 refine wc_sub (L' := [(17, _), (9, _), (8, _), (0, _), (1, _), (2, _), (3, _)]) (.cons rfl (.cons rfl (.cons rfl (.cons rfl (.cons rfl (.cons rfl (.cons rfl .nil))))))) ?_
 refine wc_condD rfl (fun h2 => ?_) (fun h2 => ?_)
 ·have hm : mayE D f ≠ 0 := h2
  refine wc_seq (wc_region (wl_move rfl rfl (wl_assign rfl rfl (wl_nil (qs_seq (wc_ret (qs_then_ret ?_)))))))
  refine fin1 (.inr rfl) rfl rfl ?_
  exact ⟨_, rfl, by simp [writeE, hm], by rw [show writeD D f at_ s = D by simp [writeD, writeE, hm]]; exact Dback hI hg hS⟩
 have hm : mayE D f = 0 := Decidable.not_not.1 h2
 have hf16 := may_ok hm
 refine wc_skip (qs_seq (wc_seq (wc_block (wc_seq (wc_region (wl_move rfl rfl ?_))))))
 refine wl_lss rfl rfl rfl ?_
 refine wl_assign rfl rfl (wl_nil (qs_seq ?_))
 refine wc_condD rfl (fun h3 => ?_) (fun h3 => ?_)
 ·have hat : at_ < 0 := h3
  refine wc_seq (wc_region (wl_assign rfl rfl (wl_nil (qs_seq (wc_ret (qs_block_ret (qs_then_ret ?_)))))))
  refine fin1 (.inr rfl) rfl rfl ?_
  exact ⟨_, rfl, by simp [writeE, hm, hat], by rw [show writeD D f at_ s = D by simp [writeD, writeE, hm, hat]]; exact Dback hI hg hS⟩
 have hat : 0 ≤ at_ := by omega
 refine wc_seq (wc_region (wl_move rfl rfl ?_))
 refine wl_gtr rfl rfl rfl ?_
 refine wl_move rfl rfl ?_
 refine wl_splitD 25 rfl (fun h4 => ?_) (fun h4 => ?_)
 ·refine wl_unwanted rfl rfl (decide_eq_true h4) rfl ?_
  refine wl_unwanted rfl rfl (decide_eq_true h4) rfl ?_
  refine wl_unwanted rfl rfl (decide_eq_true h4) rfl ?_
  refine wl_unwanted rfl rfl (decide_eq_true h4) rfl ?_
  refine wl_unwanted rfl rfl (decide_eq_true h4) rfl ?_
  refine wl_pickT rfl (decide_eq_true h4) rfl rfl ?_
  refine wl_assign rfl rfl (wl_nil (qs_seq ?_))
  refine wc_sub (L' := [(22, _), (8, _), (0, _), (1, _), (2, _), (3, _)]) (.cons rfl (.cons rfl (.cons rfl (.cons rfl (.cons rfl (.cons rfl .nil)))))) ?_
  refine wc_condT rfl ?_
  refine wc_seq (wc_region (wl_assign rfl rfl (wl_nil (qs_seq (wc_ret (qs_block_ret (qs_then_ret ?_)))))))
  refine fin1 (.inr rfl) rfl rfl ?_
  exact wfull hI hg hm hat (by omega) hS
 refine wl_guard rfl rfl (decide_eq_false h4) ?_
 refine wl_move rfl rfl ?_
 refine wl_guard rfl rfl (decide_eq_false h4) ?_
 refine wl_lenS Tryz.underlying9 rfl rfl ?_
 refine wl_guard rfl rfl (decide_eq_false h4) ?_
 refine wl_move rfl rfl ?_
 refine wl_guard rfl rfl (decide_eq_false h4) ?_
 refine wl_sub' rfl rfl (by omega) (by omega) rfl ?_
 refine wl_guard rfl rfl (decide_eq_false h4) ?_
 refine wl_gtr rfl rfl rfl ?_
 refine wl_pickF rfl (decide_eq_false h4) rfl rfl ?_
 refine wl_assign rfl rfl (wl_nil (qs_seq ?_))
 refine wc_sub (L' := [(22, _), (8, _), (0, _), (1, _), (2, _), (3, _)]) (.cons rfl (.cons rfl (.cons rfl (.cons rfl (.cons rfl (.cons rfl .nil)))))) ?_
 refine wc_condD rfl (fun h5 => ?_) (fun h5 => ?_)
 ·refine wc_seq (wc_region (wl_assign rfl rfl (wl_nil (qs_seq (wc_ret (qs_block_ret (qs_then_ret ?_)))))))
  refine fin1 (.inr rfl) rfl rfl ?_
  exact wfull hI hg hm hat (by omega) hS
 refine wc_seq (wc_region (wl_move rfl rfl ?_))
 refine wl_eqlS rfl rfl rfl ?_
 refine wl_assign rfl rfl (wl_nil (qs_seq ?_))
 refine wc_condD rfl (fun h6 => ?_) (fun h6 => ?_)
 ·have hs0 : s = [] := h6
  refine wc_seq (wc_region (wl_assign rfl rfl (wl_nil (qs_seq (wc_ret (qs_block_ret (qs_then_ret ?_)))))))
  refine fin1 (.inr rfl) rfl rfl ?_
  exact wnone hI hg hm hat (by omega) hs0 hS
 have hs0 : s ≠ [] := h6
 have hlen : 0 < s.length := List.length_pos_iff.2 hs0
 obtain ⟨a, rfl⟩ := Int.eq_ofNat_of_zero_le hat
 have hnow := hI.now f
 refine wc_skip (qs_block_normal (qs_seq (wc_seq (wc_region (wl_move rfl rfl (wl_nilCheck rfl rfl ?_))))))
 refine wl_fieldAddr rfl fo_67_0 rfl ?_
 refine wl_load rfl ag_63 (by first | assumption | exact hS.cell 1 rfl rfl) rfl ?_
 refine wl_move rfl rfl ?_
 refine wl_lookup 0 hS keysInt Tryz.underlying63 rfl rfl rfl zr_87 (hg _) rfl ?_
 refine wl_alloc hS zr_87 rfl rfl ?_
 intro b7 w7 hS7
 first | (refine wl_storeA hS7 rfl rfl sz_87 rfl (by first | rfl | (simp [allOne, Value.oneCell']; done) | assumption | exact hone) (i := 0) rfl (by first | decide | exact Nat.le_of_ble_eq_true rfl | (simp; done) | omega) ?_) | (refine wl_storeA hS7 rfl rfl sz_87 rfl (by first | rfl | (simp [allOne, Value.oneCell']; done) | assumption | exact hone) (i := 2) rfl (by first | decide | exact Nat.le_of_ble_eq_true rfl | (simp; done) | omega) ?_)
 intro w8 hS9; dsimp only [List.set] at hS9
 clear hS7
 refine wl_nil (qs_seq ?_)
 refine wc_sub (L' := [(10, _), (8, _), (0, _), (1, _), (2, _), (3, _)]) (.cons rfl (.cons rfl (.cons rfl (.cons rfl (.cons rfl (.cons rfl .nil)))))) ?_
 refine wc_seq (wc_region ?_)
 refine wl_fieldAddr rfl fo_87_0 rfl ?_
 refine wl_load rfl ag_9 (by first | assumption | exact hS9.cell 0 rfl rfl | exact hS9.cell 2 rfl rfl) rfl ?_
 refine wl_move rfl rfl (wl_move rfl rfl ?_)
 have hC10 := hS9.split [] [false, false, false, false, false, false] rfl; dsimp only [selF, pickA, nthA, List.cons_append, List.nil_append] at hC10
 refine wl_call cal_53 rfl (put_sp hC10 _ s a hnow (by omega)) rfl ?_
 rintro e w10 ⟨_, rfl, rfl, hS10⟩; refine ⟨_, rfl, ?_⟩
 replace hS10 := hS10.join rfl; dsimp only [List.dropLast, List.cons_append, List.nil_append] at hS10; clear hC10
 clear hS9
 refine wl_fieldAddr rfl fo_87_0 rfl ?_
 first | (refine wl_store hS10 rfl rfl sz_9 (by first | rfl | assumption | exact hS10.own_one 3 rfl) (i := 0) rfl (by first | decide | exact Nat.le_of_ble_eq_true rfl | (simp; done) | omega) ?_) | (refine wl_store hS10 rfl rfl sz_9 (by first | rfl | assumption | exact hS10.own_one 3 rfl) (i := 2) rfl (by first | decide | exact Nat.le_of_ble_eq_true rfl | (simp; done) | omega) ?_)
 intro w11 hS12; dsimp only [List.set] at hS12
 clear hS10
 refine wl_nil ?_
 have hput := putB_le (m := 16777216) hnow (show a + s.length ≤ 16777216 by omega)
 refine qs_seq ?_
 refine wc_sub (L' := [(10, _), (8, _), (0, _), (1, _), (2, _), (3, _)]) (.cons rfl (.cons rfl (.cons rfl (.cons rfl (.cons rfl (.cons rfl .nil)))))) ?_
 refine wc_seq ?_
 have hS13 := hS12.drew
 refine wc_draw [0, 1, 2, 3, 4, 5, 6] [6] mix (by kernel_rfl) ?_
 refine vc_p rfl rfl rfl (fun _ => (ev_move rfl)) ?_
 refine vc_p rfl rfl rfl (fun _ => (ev_nilCheck rfl)) ?_
 refine vc_p rfl rfl rfl (fun _ => (ev_fieldAddr rfl fo_67_0)) ?_
 refine vc_q rfl rfl rfl (ev_load rfl ag_63 (by first | assumption | exact hS13.cell 0 rfl rfl | exact hS13.cell 2 rfl rfl)) ?_
 refine vc_p rfl rfl rfl (fun _ => (ev_move rfl)) ?_
 refine vc_q rfl rfl rfl (ev_loadA rfl ag_87 sz_87 (by first | exact hS13.blk 0 rfl | exact hS13.blk 2 rfl) (by first | decide | exact Nat.le_of_ble_eq_true rfl | (simp; done) | omega) rfl) ?_
 refine vc_s rfl rfl rfl rfl rfl rfl ?_
 first | refine wl_mapUpdate 1 hS13 keysInt Tryz.underlying63 rfl rfl rfl rfl ?_
 intro w14 hS14; dsimp only [List.set] at hS14
 clear hS13
 refine vc_e0 (.skip (by kernel_rfl) (.skip (by kernel_rfl) .nil)) ?_
 refine VC.nil (qs_seq ?_)
 refine wc_sub (L' := [(8, _), (0, _), (1, _), (2, _), (3, _)]) (.cons rfl (.cons rfl (.cons rfl (.cons rfl (.cons rfl .nil))))) ?_
 refine wc_seq (wc_seq (wc_region (wl_move rfl rfl ?_)))
 refine wl_quo rfl rfl (by omega) (by omega) (by omega) rfl ?_
 refine wl_assign rfl rfl (wl_nil (qs_seq (wc_block ?_)))
 obtain ⟨N, hN⟩ : ∃ N : Nat, N = (((a : Int) + s.length - 1) / 64 - (a : Int) / 64 + 1).toNat := ⟨_, rfl⟩
 refine wc_loop (fun K0 E0 W0 => ∃ (j : Nat) (qv : Value), K0 = N - j ∧ E0 = [(0, ptrV p 0), (1, intV f), (2, intV (a : Int)), (3, strV s), (11, intV ((a : Int) / 64 + (j : Int)))] ∧ Sat W0 [blkT p [.map (some bf), qv, .map (some bs), intV D.lost, .bool D.down, intV D.armed, kp], filesT bf (setF D.F f (putB (D.F f).1 a s, (D.F f).2)), ownT qv (pend f j ((a : Int) / 64) D.Q).length 2 (secV (pend f j ((a : Int) / 64) D.Q)), setT bs (pend f j ((a : Int) / 64) D.Q), F] ∧ (j ≤ N)) (L0 := [(0, _), (1, _), (2, _), (3, _), (11, _)]) (N) (.cons rfl (.cons rfl (.cons rfl (.cons rfl (.cons rfl .nil))))) ⟨0, qv, by omega, by simp, wstart hg hS14, by omega⟩ ?_
 rintro _ _ w15 ⟨j, qv, rfl, rfl, hS15, hj⟩
 obtain ⟨gs, hgs, hS15⟩ := setT_open (hS15.pull 3 rfl); dsimp only [List.eraseIdx] at hS15
 have hpb := pend_bound f hf16 j ((a : Int) / 64) D.Q (by omega) (by omega) hI.secs hI.nodup
 have hcnt := sec_count hpb.1 hpb.2
 refine wc_seq (wc_seq (wc_region (wl_move rfl rfl (wl_move rfl rfl (wl_move rfl rfl ?_)))))
 refine wl_lenS Tryz.underlying9 rfl rfl ?_
 refine wl_add rfl rfl (by omega) (by omega) rfl ?_
 refine wl_sub' rfl rfl (by omega) (by omega) rfl ?_
 refine wl_quo rfl rfl (by omega) (by omega) (by omega) rfl ?_
 refine wl_leq rfl rfl rfl ?_
 refine wl_nil (qs_seq ?_)
 refine wc_sub (L' := [(62, _), (0, _), (1, _), (2, _), (3, _), (11, _)]) (.cons rfl (.cons rfl (.cons rfl (.cons rfl (.cons rfl (.cons rfl .nil)))))) ?_
 refine wc_condD rfl (fun h16 => ?_) (fun h16 => ?_)
 ·refine wc_skip (qs_seq (wc_seq (wc_block (wc_seq (wc_region (wl_move rfl rfl (wl_move rfl rfl ?_)))))))
  refine wl_buildS rfl pl_85_0_1 asz_85 zr_85 rfl rfl ?_
  refine wl_alloc hS15 zr_85 rfl rfl ?_
  intro b17 w17 hS17
  clear hS15
  first | (refine wl_storeA hS17 rfl rfl sz_85 rfl (by first | rfl | (simp [allOne, Value.oneCell']; done) | assumption | exact hone) (i := 0) rfl (by first | decide | exact Nat.le_of_ble_eq_true rfl | (simp; done) | omega) ?_) | (refine wl_storeA hS17 rfl rfl sz_85 rfl (by first | rfl | (simp [allOne, Value.oneCell']; done) | assumption | exact hone) (i := 2) rfl (by first | decide | exact Nat.le_of_ble_eq_true rfl | (simp; done) | omega) ?_)
  intro w18 hS19; dsimp only [List.set] at hS19
  clear hS17
  refine wl_nil (qs_seq (wc_seq ?_))
  have hS20 := hS19.drew
  refine wc_draw [0, 1, 2, 3, 4, 5, 6] [] mix (by kernel_rfl) ?_
  refine vc_p rfl rfl rfl (fun _ => (ev_move rfl)) ?_
  refine vc_p rfl rfl rfl (fun _ => (ev_nilCheck rfl)) ?_
  refine vc_p rfl rfl rfl (fun _ => (ev_fieldAddr rfl fo_67_2)) ?_
  refine vc_q rfl rfl rfl (ev_load rfl ag_64 (by first | assumption | exact hS20.cell 0 rfl rfl | exact hS20.cell 2 rfl rfl)) ?_
  refine vc_q rfl rfl rfl (ev_loadA rfl ag_85 sz_85 (by first | exact hS20.blk 0 rfl | exact hS20.blk 2 rfl) (by first | decide | exact Nat.le_of_ble_eq_true rfl | (simp; done) | omega) rfl) ?_
  refine vc_q rfl rfl rfl (ev_lookup (k := (f, (a : Int) / 64 + (j : Int))) 1 hS20 keysSec Tryz.underlying64 rfl rfl rfl zr_4 (set_val hgs _)) ?_
  refine vc_p rfl rfl rfl (fun _ => (ev_not rfl)) ?_
  refine VC.nil (qs_seq ?_)
  refine wc_sub (L' := [(74, _), (12, _), (0, _), (1, _), (2, _), (3, _), (11, _)]) (.cons rfl (.cons rfl (.cons rfl (.cons rfl (.cons rfl (.cons rfl (.cons rfl .nil))))))) ?_
  refine wc_cond rfl (fun h21 => ?_) (fun h21 => ?_)
  ·have hnew : (f, (a : Int) / 64 + (j : Int)) ∉ pend f j ((a : Int) / 64) D.Q := by simpa using h21
   have hS22 := hS20.drew
   refine wc_draw [0, 1, 2, 3, 4, 5, 6, 7, 8, 9, 10, 11, 12, 13, 14, 15, 16, 17, 18] [11, 12, 15, 16, 18] mix (by kernel_rfl) ?_
   refine vc_p rfl rfl rfl (fun _ => (ev_move rfl)) ?_
   refine vc_p rfl rfl rfl (fun _ => (ev_move rfl)) ?_
   refine vc_p rfl rfl rfl (fun _ => (ev_nilCheck rfl)) ?_
   refine vc_p rfl rfl rfl (fun _ => (ev_fieldAddr rfl fo_67_2)) ?_
   refine vc_q rfl rfl rfl (ev_load rfl ag_64 (by first | assumption | exact hS22.cell 0 rfl rfl | exact hS22.cell 2 rfl rfl)) ?_
   refine vc_q rfl rfl rfl (ev_loadA rfl ag_85 sz_85 (by first | exact hS22.blk 0 rfl | exact hS22.blk 2 rfl) (by first | decide | exact Nat.le_of_ble_eq_true rfl | (simp; done) | omega) rfl) ?_
   refine vc_p rfl rfl rfl (fun _ => (ev_move rfl)) ?_
   refine vc_p rfl rfl rfl (fun _ => (ev_nilCheck rfl)) ?_
   refine vc_p rfl rfl rfl (fun _ => (ev_fieldAddr rfl fo_67_1)) ?_
   refine vc_q rfl rfl rfl (ev_load rfl ag_65 (by first | assumption | exact hS22.cell 0 rfl rfl | exact hS22.cell 2 rfl rfl)) ?_
   refine vc_q rfl rfl rfl (ev_loadA rfl ag_85 sz_85 (by first | exact hS22.blk 0 rfl | exact hS22.blk 2 rfl) (by first | decide | exact Nat.le_of_ble_eq_true rfl | (simp; done) | omega) rfl) ?_
   refine vc_s rfl rfl rfl rfl rfl rfl ?_
   refine wl_buildSlice hS22 rfl Tryz.underlying65 ifz_85 rfl rfl rfl rfl ?_
   intro b23 w23 hS23
   clear hS22
   refine vc_e (.skip (by kernel_rfl) (.cons (.inl ⟨rfl, (ev_load rfl ag_65 (by first | assumption | exact hS23.cell 1 rfl rfl | exact hS23.cell 3 rfl rfl))⟩) (.cons (.inl ⟨rfl, (ev_loadA rfl ag_85 sz_85 (by first | exact hS23.blk 1 rfl | exact hS23.blk 3 rfl) (by first | decide | exact Nat.le_of_ble_eq_true rfl | (simp; done) | omega) rfl)⟩) (.cons (.inl ⟨rfl, (ev_load rfl ag_64 (by first | assumption | exact hS23.cell 1 rfl rfl | exact hS23.cell 3 rfl rfl))⟩) .nil)))) ?_
   refine vc_s rfl rfl rfl rfl rfl rfl ?_
   first | refine wl_append 0 hS23 rfl rfl rfl Tryz.underlying65 Tryz.underlying65 (by intro k hk; cases hk) ifo_85 rfl (by decide) (lenOf_own hS23 5 rfl) (firstCells_own hS23 5 rfl) (by first | rfl | simp) (by first | rfl | (simp [allOne, Value.oneCell']; done) | assumption | exact hone) (by omega) (by omega) rfl ?_ | refine wl_append 5 hS23 rfl rfl rfl Tryz.underlying65 Tryz.underlying65 (by intro k hk; cases hk) ifo_85 rfl (by decide) (lenOf_own hS23 0 rfl) (firstCells_own hS23 0 rfl) (by first | rfl | simp) (by first | rfl | (simp [allOne, Value.oneCell']; done) | assumption | exact hone) (by omega) (by omega) rfl ?_
   intro v24 w24 hS24; dsimp only [List.set] at hS24
   clear hS23
   have h1v24 : v24.oneCell' = true := by first | exact hS24.own_one 0 rfl | exact hS24.own_one 5 rfl
   refine vc_e (.skip (by kernel_rfl) (.skip (by kernel_rfl) (.cons (.inl ⟨rfl, (ev_loadA rfl ag_85 sz_85 (by first | exact hS24.blk 1 rfl | exact hS24.blk 3 rfl) (by first | decide | exact Nat.le_of_ble_eq_true rfl | (simp; done) | omega) rfl)⟩) (.cons (.inl ⟨rfl, (ev_load rfl ag_64 (by first | assumption | exact hS24.cell 1 rfl rfl | exact hS24.cell 3 rfl rfl))⟩) .nil)))) ?_
   refine vc_p rfl rfl rfl (fun _ => (ev_nilCheck rfl)) ?_
   refine vc_p rfl rfl rfl (fun _ => (ev_fieldAddr rfl fo_67_1)) ?_
   refine vc_s rfl rfl rfl rfl rfl rfl ?_
   first | (refine wl_store hS24 rfl rfl sz_65 (by first | rfl | assumption | exact hS24.own_one 0 rfl | exact hS24.own_one 5 rfl) (i := 1) rfl (by first | decide | exact Nat.le_of_ble_eq_true rfl | (simp; done) | omega) ?_) | (refine wl_store hS24 rfl rfl sz_65 (by first | rfl | assumption | exact hS24.own_one 0 rfl | exact hS24.own_one 5 rfl) (i := 3) rfl (by first | decide | exact Nat.le_of_ble_eq_true rfl | (simp; done) | omega) ?_)
   intro w25 hS26; dsimp only [List.set] at hS26
   clear hS24
   refine vc_e0 (.skip (by kernel_rfl) (.skip (by kernel_rfl) (.cons (.inl ⟨rfl, (ev_loadA rfl ag_85 sz_85 (by first | exact hS26.blk 1 rfl | exact hS26.blk 3 rfl) (by first | decide | exact Nat.le_of_ble_eq_true rfl | (simp; done) | omega) rfl)⟩) (.skip (by kernel_rfl) .nil)))) ?_
   refine vc_s rfl rfl rfl rfl rfl rfl ?_
   refine wl_mapEntry (k := (f, (a : Int) / 64 + (j : Int))) 2 hS26 keysSec Tryz.underlying64 rfl rfl rfl (by rw [hgs, if_neg hnew]) zr_4 rfl ?_
   intro c27 w27 hS27; dsimp only [List.set] at hS27
   clear hS26
   refine vc_e (.skip (by kernel_rfl) (.skip (by kernel_rfl) (.skip (by kernel_rfl) (.skip (by kernel_rfl) .nil)))) ?_
   refine vc_p rfl rfl rfl (fun _ => (ev_extract rfl rfl)) ?_
   refine vc_s rfl rfl rfl rfl rfl rfl ?_
   refine wl_entryStore 2 hS27 keysSec rfl rfl rfl rfl ?_
   intro w28 hS28; dsimp only [List.set] at hS28
   clear hS27
   refine vc_e0 (.skip (by kernel_rfl) (.skip (by kernel_rfl) (.skip (by kernel_rfl) (.skip (by kernel_rfl) .nil)))) ?_
   refine VC.nil (qs_block_normal (qs_seq ?_))
   refine wc_sub (L' := [(0, _), (1, _), (2, _), (3, _), (11, _)]) (.cons rfl (.cons rfl (.cons rfl (.cons rfl (.cons rfl .nil))))) ?_
   refine wc_region (wl_move rfl rfl ?_)
   refine wl_add rfl rfl (by omega) (by omega) rfl ?_
   refine wl_assign rfl rfl (wl_nil ?_)
   exact qs_round (L1 := [(0, ptrV p 0), (1, intV f), (2, intV (a : Int)), (3, strV s), (11, intV ((a : Int) / 64 + ((j + 1 : Nat) : Int)))]) (.cons rfl (.cons rfl (.cons rfl (.cons rfl (.cons rfl .nil))))) (k1 := N - (j + 1)) (by omega) ⟨j + 1, _, by omega, rfl, wround_new hgs hnew hS28, by omega⟩
  have hold : (f, (a : Int) / 64 + (j : Int)) ∈ pend f j ((a : Int) / 64) D.Q := by simpa using h21
  refine wc_skip (qs_block_normal (qs_seq (wc_region (wl_move rfl rfl ?_))))
  refine wl_add rfl rfl (by omega) (by omega) rfl ?_
  refine wl_assign rfl rfl (wl_nil ?_)
  exact qs_round (L1 := [(0, ptrV p 0), (1, intV f), (2, intV (a : Int)), (3, strV s), (11, intV ((a : Int) / 64 + ((j + 1 : Nat) : Int)))]) (.cons rfl (.cons rfl (.cons rfl (.cons rfl (.cons rfl .nil))))) (k1 := N - (j + 1)) (by omega) ⟨j + 1, _, by omega, rfl, wround_old hgs hold hS20, by omega⟩
 refine wc_exit (qs_then_exit (qs_then_exit (qs_block_exit (qs_seq (wc_seq (wc_region (wl_assign rfl rfl (wl_nil (qs_seq (wc_ret ?_))))))))))
 refine fin1 (.inr rfl) rfl rfl ?_
 exact wdone hI hm hf16 (by omega) hs0 hput hN hj (by assumption) hgs hS15
end Go.Proofs.YtfmkodmmbgibgaaGreatDoor
/- disk: deleting from slices and maps -/
namespace Go.Proofs.YtfmkodmmbgibgaaGreatDoor
open Go.RowKit M
set_option linter.unusedVariables false
def cellIs (c : Nat) (f : Int) (w : World) : Prop := w.cell? ⟨c, 0, none⟩ = some (intV f)
theorem sec_at {Q : List (Int × Int)} {j : Nat} {p : Int × Int} (h : Q[j]? = some p) : ((secV Q).drop (j * 2)).take 2 = [intV p.1, intV p.2] := by
  induction Q generalizing j with
  | nil => simp at h
  | cons q Q ih =>
    cases j with
    | zero => simp at h; subst h; simp [secV]
    | succ j =>
      simp at h
      have := ih h
      rw [show (j + 1) * 2 = 2 + j * 2 by omega, ← List.drop_drop]
      simpa [secV] using this
theorem clo1_sp {w : World} {F : Th} (hS : Sat w [F]) {c : Nat} {f : Int} (hc : Ent F (cellIs c f)) (x y : Int) :
    Calls Tryz.prog 97 #[.agg #[intV x, intV y], ptrV c 0] w (Ret fun v w' => v = .bool (decide (x = f)) ∧ Sat w' [F]) := by
 refine calls_enter Tryz.func97 rfl Tryz.ntmps97 rfl ?_
 refine wc_seq (wc_region ?_)
 refine wl_box hS rfl rfl rfl ?_
 intro b1 w1 hS1
 refine wl_assign rfl rfl (wl_nil (qs_seq (wc_seq (wc_region ?_))))
 refine wl_fieldAddr rfl fo_85_0 rfl ?_
 refine wl_load rfl ag_3 (by first | assumption | exact hS1.cell 0 rfl rfl | exact hc.sat hS1 1 rfl) rfl ?_
 refine wl_load rfl ag_3 (by first | assumption | exact hS1.cell 0 rfl rfl | exact hc.sat hS1 1 rfl) rfl ?_
 refine wl_eql rfl rfl rfl ?_
 refine wl_assign rfl rfl (wl_nil (qs_seq (wc_ret ?_)))
 refine fin1 (.inr rfl) rfl rfl ?_
 exact ⟨_, rfl, rfl, hS1.tail⟩
theorem clo2_sp {w : World} {F : Th} (hS : Sat w [F]) {c : Nat} {f : Int} (hc : Ent F (cellIs c f)) (x y : Int) (u : Value) :
    Calls Tryz.prog 99 #[.agg #[intV x, intV y], u, ptrV c 0] w (Ret fun v w' => v = .bool (decide (x = f)) ∧ Sat w' [F]) := by
 refine calls_enter Tryz.func99 rfl Tryz.ntmps99 rfl ?_
 refine wc_seq (wc_region ?_)
 refine wl_box hS rfl rfl rfl ?_
 intro b1 w1 hS1
 refine wl_assign rfl rfl (wl_nil (qs_seq (wc_seq (wc_region ?_))))
 refine wl_fieldAddr rfl fo_85_0 rfl ?_
 refine wl_load rfl ag_3 (by first | assumption | exact hS1.cell 0 rfl rfl | exact hc.sat hS1 1 rfl) rfl ?_
 refine wl_load rfl ag_3 (by first | assumption | exact hS1.cell 0 rfl rfl | exact hc.sat hS1 1 rfl) rfl ?_
 refine wl_eql rfl rfl rfl ?_
 refine wl_assign rfl rfl (wl_nil (qs_seq (wc_ret ?_)))
 refine fin1 (.inr rfl) rfl rfl ?_
 exact ⟨_, rfl, rfl, hS1.tail⟩
theorem index_sp {w : World} {F : Th} {qv : Value} {Q : List (Int × Int)} (hS : Sat w [ownT qv Q.length 2 (secV Q), F]) {c : Nat} {f : Int} (hc : Ent F (cellIs c f)) (hl : Q.length ≤ 4194320) :
    Calls Tryz.prog 119 #[qv, .func (.func 97) #[] #[ptrV c 0]] w (Ret fun v w' => ∃ r : Int, v = intV r ∧ ((r = -1 ∧ ∀ p ∈ Q, p.1 ≠ f) ∨ ∃ (k : Nat) (p : Int × Int), r = k ∧ Q[k]? = some p ∧ p.1 = f ∧ ∀ j q, j < k → Q[j]? = some q → q.1 ≠ f) ∧ Sat w' [ownT qv Q.length 2 (secV Q), F]) := by
 refine calls_enter Tryz.func119 rfl Tryz.ntmps119 rfl ?_
 refine wc_seq (wc_region (wl_assign rfl rfl (wl_nil (qs_seq (wc_seq (wc_seq (wc_region (wl_move rfl rfl ?_))))))))
 first | refine wl_lenL Tryz.underlying65 rfl rfl ?_ | refine wl_lenO 0 hS Tryz.underlying65 rfl rfl rfl ?_
 refine wl_move rfl rfl (wl_nil (qs_seq (wc_block ?_)))
 refine wc_loop (fun K0 E0 W0 => ∃ (k : Nat), K0 = Q.length - k ∧ E0 = [(0, qv), (1, .func (.func 97) #[] #[ptrV c 0]), (7, intV (Q.length : Int)), (8, intV (k : Int))] ∧ Sat W0 [ownT qv Q.length 2 (secV Q), F] ∧ (k ≤ Q.length) ∧ (∀ j p, j < k → Q[j]? = some p → p.1 ≠ f)) (L0 := [(0, _), (1, _), (7, _), (8, _)]) (Q.length) (.cons rfl (.cons rfl (.cons rfl (.cons rfl .nil)))) ⟨0, by omega, rfl, hS, by omega, by omega⟩ ?_
 rintro _ _ w1 ⟨k, rfl, rfl, hS1, hk, hno⟩
 refine wc_seq (wc_region ?_)
 refine wl_lss rfl rfl rfl ?_
 refine wl_nil (qs_seq (wc_seq ?_))
 refine wc_condD rfl (fun h2 => ?_) (fun h2 => ?_)
 ·obtain ⟨p, hp⟩ : ∃ p, Q[k]? = some p := ⟨_, List.getElem?_eq_getElem (by omega)⟩
  refine wc_skip (qs_seq (wc_seq (wc_block (wc_seq (wc_region (wl_move rfl rfl (wl_assign rfl rfl (wl_nil (qs_seq (wc_seq (wc_region (wl_move rfl rfl (wl_move rfl rfl (wl_move rfl rfl ?_))))))))))))))
  refine wl_indexO 0 k hS1 rfl rfl rfl rfl (by omega) es_65 rfl ?_
  intro b cap hv
  refine wl_loadO 0 hS1 rfl hv rfl ag_85 sz_85 (sec_at hp) rfl rfl ?_
  have hC3 := hS1.split [] [false, false] rfl; dsimp only [selF, pickA, nthA, List.cons_append, List.nil_append] at hC3
  refine wl_callV rfl cal_97 rfl (clo1_sp hC3 (hc.starL 1 rfl) _ _) rfl ?_
  rintro e w3 ⟨_, rfl, rfl, hS3⟩; refine ⟨_, rfl, ?_⟩
  replace hS3 := hS3.join rfl; dsimp only [List.dropLast, List.cons_append, List.nil_append] at hS3; clear hC3
  clear hS1
  refine wl_nil (qs_seq ?_)
  refine wc_sub (L' := [(16, _), (5, _), (0, _), (1, _), (7, _), (8, _)]) (.cons rfl (.cons rfl (.cons rfl (.cons rfl (.cons rfl (.cons rfl .nil)))))) ?_
  refine wc_cond rfl (fun h4 => ?_) (fun h4 => ?_)
  ·have heq : p.1 = f := by simpa using h4
   refine wc_seq (wc_region (wl_move rfl rfl (wl_assign rfl rfl (wl_nil (qs_seq (wc_ret (qs_block_ret (qs_then_ret (qs_then_ret (qs_block_ret (qs_then_ret ?_)))))))))))
   refine fin1 (.inr rfl) rfl rfl ?_
   exact ⟨_, rfl, _, rfl, .inr ⟨k, p, rfl, hp, heq, hno⟩, hS3⟩
  have hne : p.1 ≠ f := by simpa using h4
  refine wc_skip (qs_block_normal (qs_seq (wc_region ?_)))
  refine wl_add rfl rfl (by omega) (by omega) rfl ?_
  refine wl_move rfl rfl (wl_nil ?_)
  exact qs_round (L1 := [(0, qv), (1, .func (.func 97) #[] #[ptrV c 0]), (7, intV (Q.length : Int)), (8, intV ((k + 1 : Nat) : Int))]) (.cons rfl (.cons rfl (.cons rfl (.cons rfl .nil)))) (k1 := Q.length - (k + 1)) (by omega) ⟨k + 1, by omega, rfl, hS3, by omega, fun j q hj hq => by by_cases e : j = k; (subst e; rw [hp] at hq; cases hq; exact hne); exact hno j q (by omega) hq⟩
 refine wc_exit (qs_then_exit (qs_then_exit (qs_block_exit (qs_seq (wc_seq (wc_region (wl_assign rfl rfl (wl_nil (qs_seq (wc_ret ?_))))))))))
 refine fin1 (.inr rfl) rfl rfl ?_
 exact ⟨_, rfl, _, rfl, .inl ⟨rfl, fun p hp => by obtain ⟨j, hj⟩ := List.mem_iff_getElem?.1 hp; exact hno j p (by have := (List.getElem?_eq_some_iff.1 hj).1; omega) hj⟩, hS1⟩
end Go.Proofs.YtfmkodmmbgibgaaGreatDoor
