/- laws of disk: the examples -/
import Derived.Test.YtleaahajkncnpaaDi
namespace Go.Proofs.Ytleaahajkncnpaa
open Go.RowKit M
set_option linter.unusedVariables false
theorem down_sp' {w : World} {p : Nat} {kp : Value} {D : DS} {F : Th} (hS : Sat w [diskT p kp D, F]) : Calls Try.prog 13 #[ptrV p 0] w (Ret fun v w' => v = .bool D.down ∧ Sat w' [diskT p kp D, F]) := (down_sp hS).mono fun _ _ h => h.mono fun v w' ⟨h1, h2⟩ => ⟨h1, h2 ▸ hS⟩
theorem size_sp' {w : World} {p : Nat} {kp : Value} {D : DS} {F : Th} (hS : Sat w [diskT p kp D, F]) (f : Int) : Calls Try.prog 15 #[ptrV p 0, intV f] w (Ret fun v w' => v = intV (D.F f).1.length ∧ Sat w' [diskT p kp D, F]) := (size_sp hS f).mono fun _ _ h => h.mono fun v w' ⟨h1, h2⟩ => ⟨h1, h2 ▸ hS⟩
theorem read_sp' {w : World} {p : Nat} {kp : Value} {D : DS} {F : Th} (hS : Sat w [diskT p kp D, F]) (f a n : Int) : Calls Try.prog 19 #[ptrV p 0, intV f, intV a, intV n] w (Ret fun v w' => v = .tuple #[strV (ReadS D f a n), intV (ReadE D f a n)] ∧ Sat w' [diskT p kp D, F]) := (read_sp hS f a n).mono fun _ _ h => h.mono fun v w' ⟨h1, h2⟩ => ⟨h1, h2 ▸ hS⟩
theorem rd_eq {v : Value} {D : DS} {f a n e : Int} {s : Bytes} (h : v = .tuple #[strV (ReadS D f a n), intV (ReadE D f a n)]) (h1 : ReadS D f a n = s) (h2 : ReadE D f a n = e) : v = .tuple #[strV s, intV e] := by rw [h, h1, h2]
def startD (D : DS) : DS := { D with down := false }
theorem ent_nil {F : Th} {D : DS} (h : D.keep = []) : Ent F (RdI (.slice none 0 0) D.keep) := by rw [h]; exact fun _ => RdI_nil _
theorem ent_lit {As : List Th} (i : Nat) {v : Value} {l : List Int} (hl : l.length ≤ 100) (hi : As[i]? = some (ownT v l.length 1 (intsV l))) : Ent (starL As) (RdI v l) := Ent.starL (A := ownT v l.length 1 (intsV l)) (ent_own_RdI (by omega)) i hi
theorem sm0 : WriteE newD 0 0 [97, 98, 99] = 0 := by kernel_rfl
theorem sm1 : SyncE (WriteD newD 0 0 [97, 98, 99]) 0 = 0 := by kernel_rfl
theorem sm2 : WriteE (SyncD (WriteD newD 0 0 [97, 98, 99]) 0) 0 1 [88, 89] = 0 := by kernel_rfl
theorem sm3 : ((crashD (WriteD (SyncD (WriteD newD 0 0 [97, 98, 99]) 0) 0 1 [88, 89]) [1])).down = true := by kernel_rfl
theorem sm4 : ReadS (crashD (WriteD (SyncD (WriteD newD 0 0 [97, 98, 99]) 0) 0 1 [88, 89]) [1]) 0 0 9 = [] := by kernel_rfl
theorem sm5 : ReadE (crashD (WriteD (SyncD (WriteD newD 0 0 [97, 98, 99]) 0) 0 1 [88, 89]) [1]) 0 0 9 = 9 := by kernel_rfl
theorem sm6 : ReadS (startD (crashD (WriteD (SyncD (WriteD newD 0 0 [97, 98, 99]) 0) 0 1 [88, 89]) [1])) 0 0 9 = [97, 88, 89] := by kernel_rfl
theorem sm7 : ReadE (startD (crashD (WriteD (SyncD (WriteD newD 0 0 [97, 98, 99]) 0) 0 1 [88, 89]) [1])) 0 0 9 = 0 := by kernel_rfl
theorem sm8 : ReadS (startD (crashD (WriteD (SyncD (WriteD newD 0 0 [97, 98, 99]) 0) 0 1 [88, 89]) [0])) 0 1 9 = [98, 99] := by kernel_rfl
theorem sm9 : ReadE (startD (crashD (WriteD (SyncD (WriteD newD 0 0 [97, 98, 99]) 0) 0 1 [88, 89]) [0])) 0 1 9 = 0 := by kernel_rfl
theorem sm10 : WriteE (startD (crashD (WriteD (SyncD (WriteD newD 0 0 [97, 98, 99]) 0) 0 1 [88, 89]) [0])) 1 62 [97, 98, 99, 100] = 0 := by kernel_rfl
theorem sm11 : ReadS (startD (crashD (WriteD (startD (crashD (WriteD (SyncD (WriteD newD 0 0 [97, 98, 99]) 0) 0 1 [88, 89]) [0])) 1 62 [97, 98, 99, 100]) [0, 1])) 1 60 100 = [0, 0, 0, 0, 99, 100] := by kernel_rfl
theorem sm12 : ReadE (startD (crashD (WriteD (startD (crashD (WriteD (SyncD (WriteD newD 0 0 [97, 98, 99]) 0) 0 1 [88, 89]) [0])) 1 62 [97, 98, 99, 100]) [0, 1])) 1 60 100 = 0 := by kernel_rfl
theorem sm13 : ((((startD (crashD (WriteD (startD (crashD (WriteD (SyncD (WriteD newD 0 0 [97, 98, 99]) 0) 0 1 [88, 89]) [0])) 1 62 [97, 98, 99, 100]) [0, 1]))).F 1).1.length : Int) = 66 := by kernel_rfl
theorem sm14 : WriteE (startD (crashD (WriteD (startD (crashD (WriteD (SyncD (WriteD newD 0 0 [97, 98, 99]) 0) 0 1 [88, 89]) [0])) 1 62 [97, 98, 99, 100]) [0, 1])) 16 0 [] = 1 := by kernel_rfl
theorem sm15 : WriteE (WriteD (startD (crashD (WriteD (startD (crashD (WriteD (SyncD (WriteD newD 0 0 [97, 98, 99]) 0) 0 1 [88, 89]) [0])) 1 62 [97, 98, 99, 100]) [0, 1])) 16 0 []) 1 16777216 [97] = 6 := by kernel_rfl
set_option maxRecDepth 100000 in
theorem small_sp {w : World} {F : Th} (hS : Sat w [F]) :
    Calls Try.prog 7 #[] w (Ret fun v w' => v = .bool true ∧ Sat w' [F]) := by
  refine calls_enter Try.func7 rfl Try.ntmps7 rfl ?_
  refine wc_seq ?_
  refine wc_region ?_
  refine wl_assign rfl rfl ?_
  refine wl_nil ?_
  refine qs_seq ?_
  refine wc_seq ?_
  refine wc_region ?_
  have hC1 := hS.split [] [false] rfl; dsimp only [selF, pickA, nthA, List.cons_append, List.nil_append] at hC1
  refine wl_call cal_9 rfl (new_sp hC1) rfl ?_
  rintro e w1 ⟨_, rfl, p, rfl, hS1⟩; refine ⟨_, rfl, ?_⟩
  replace hS1 := hS1.join rfl; dsimp only [List.dropLast, List.cons_append, List.nil_append] at hS1; clear hC1
  refine wl_assign rfl rfl ?_
  refine wl_nil ?_
  refine qs_seq ?_
  refine wc_seq ?_
  refine wc_seq ?_
  refine wc_region ?_
  refine wl_move rfl rfl ?_
  refine wl_eqlNil Try.underlying25 rfl rfl rfl ?_
  refine wl_nil ?_
  refine qs_seq ?_
  refine wc_condF rfl ?_
  refine wc_skip ?_
  refine qs_seq ?_
  refine wc_seq ?_
  refine wc_region ?_
  refine wl_move rfl rfl ?_
  have hC2 := hS1.split [0] [true, false] rfl; dsimp only [selF, pickA, nthA, List.cons_append, List.nil_append] at hC2
  refine wl_call cal_26 rfl (Write_sp hC2 (ent_nil (by first | rfl | (simp only [SyncD_keep, WriteD_keep, crashD_keep]; rfl))) 0 0 [97, 98, 99]) rfl ?_
  rintro e w2 ⟨_, rfl, hv2, hS2⟩; refine ⟨_, rfl, ?_⟩
  replace hS2 := hS2.join rfl; dsimp only [List.dropLast, List.cons_append, List.nil_append] at hS2; clear hC2
  clear hS1
  replace hv2 := hv2.trans (congrArg intV sm0); subst hv2
  refine wl_assign rfl rfl ?_
  refine wl_nil ?_
  refine qs_seq ?_
  refine wc_seq ?_
  refine wc_region ?_
  refine wl_move rfl rfl ?_
  have hC3 := hS2.split [0] [true, false] rfl; dsimp only [selF, pickA, nthA, List.cons_append, List.nil_append] at hC3
  refine wl_call cal_18 rfl (Sync_sp hC3 (ent_nil (by first | rfl | (simp only [SyncD_keep, WriteD_keep, crashD_keep]; rfl))) 0) rfl ?_
  rintro e w3 ⟨_, rfl, hv3, hS3⟩; refine ⟨_, rfl, ?_⟩
  replace hS3 := hS3.join rfl; dsimp only [List.dropLast, List.cons_append, List.nil_append] at hS3; clear hC3
  clear hS2
  replace hv3 := hv3.trans (congrArg intV sm1); subst hv3
  refine wl_assign rfl rfl ?_
  refine wl_nil ?_
  refine qs_seq ?_
  refine wc_sub (L' := [(3, _), (2, _), (1, _), (0, _)]) (.cons rfl (.cons rfl (.cons rfl (.cons rfl .nil)))) ?_
  refine wc_seq ?_
  refine wc_region ?_
  refine wl_move rfl rfl ?_
  have hC4 := hS3.split [0] [true, false] rfl; dsimp only [selF, pickA, nthA, List.cons_append, List.nil_append] at hC4
  refine wl_call cal_26 rfl (Write_sp hC4 (ent_nil (by first | rfl | (simp only [SyncD_keep, WriteD_keep, crashD_keep]; rfl))) 0 1 [88, 89]) rfl ?_
  rintro e w4 ⟨_, rfl, hv4, hS4⟩; refine ⟨_, rfl, ?_⟩
  replace hS4 := hS4.join rfl; dsimp only [List.dropLast, List.cons_append, List.nil_append] at hS4; clear hC4
  clear hS3
  replace hv4 := hv4.trans (congrArg intV sm2); subst hv4
  refine wl_nil ?_
  refine qs_seq ?_
  refine wc_seq ?_
  refine wc_region ?_
  refine wl_move rfl rfl ?_
  have hC5 := hS4.split [0] [true, false] rfl; dsimp only [selF, pickA, nthA, List.cons_append, List.nil_append] at hC5
  refine wl_call cal_17 rfl (copy_sp hC5 (ent_nil (by first | rfl | (simp only [SyncD_keep, WriteD_keep, crashD_keep]; rfl)))) rfl ?_
  rintro e w5 ⟨_, rfl, p2, rfl, hS5⟩; refine ⟨_, rfl, ?_⟩
  replace hS5 := hS5.join rfl; dsimp only [List.dropLast, List.cons_append, List.nil_append] at hS5; clear hC5
  clear hS4
  refine wl_assign rfl rfl ?_
  refine wl_nil ?_
  refine qs_seq ?_
  refine wc_seq ?_
  refine wc_seq ?_
  refine wc_region ?_
  refine wl_move rfl rfl ?_
  refine wl_eqlNil Try.underlying25 rfl rfl rfl ?_
  refine wl_nil ?_
  refine qs_seq ?_
  refine wc_sub (L' := [(28, _), (4, _), (3, _), (2, _), (1, _), (0, _)]) (.cons rfl (.cons rfl (.cons rfl (.cons rfl (.cons rfl (.cons rfl .nil)))))) ?_
  refine wc_condF rfl ?_
  refine wc_skip ?_
  refine qs_seq ?_
  refine wc_seq ?_
  refine wc_region ?_
  refine wl_move rfl rfl ?_
  refine wl_buildSlice hS5 rfl Try.underlying31 ifz_3 rfl rfl rfl rfl ?_
  intro b6 w6 hS6
  clear hS5
  have hC7 := hS6.split [2] [false, false, true, false] rfl; dsimp only [selF, pickA, nthA, List.cons_append, List.nil_append] at hC7
  refine wl_call cal_22 rfl (crash_sp hC7 (ent_lit 0 (l := [1]) (by simp) rfl)) rfl ?_
  rintro e w7 ⟨_, rfl, rfl, hS7⟩; refine ⟨_, rfl, ?_⟩
  replace hS7 := hS7.join rfl; dsimp only [List.dropLast, List.cons_append, List.nil_append] at hS7; clear hC7
  clear hS6
  refine wl_nil ?_
  refine qs_seq ?_
  refine wc_seq ?_
  refine wc_region ?_
  refine wl_move rfl rfl ?_
  have hC8 := hS7.split [0] [true, false, false, false] rfl; dsimp only [selF, pickA, nthA, List.cons_append, List.nil_append] at hC8
  refine wl_call cal_13 rfl (down_sp' hC8) rfl ?_
  rintro e w8 ⟨_, rfl, hv8, hS8⟩; refine ⟨_, rfl, ?_⟩
  replace hS8 := hS8.join rfl; dsimp only [List.dropLast, List.cons_append, List.nil_append] at hS8; clear hC8
  clear hS7
  replace hv8 := hv8.trans (congrArg Value.bool sm3); subst hv8
  refine wl_assign rfl rfl ?_
  refine wl_nil ?_
  refine qs_seq ?_
  refine wc_sub (L' := [(5, _), (4, _), (3, _), (2, _), (1, _), (0, _)]) (.cons rfl (.cons rfl (.cons rfl (.cons rfl (.cons rfl (.cons rfl .nil)))))) ?_
  refine wc_seq ?_
  refine wc_region ?_
  refine wl_move rfl rfl ?_
  have hC9 := hS8.split [0] [true, false, false, false] rfl; dsimp only [selF, pickA, nthA, List.cons_append, List.nil_append] at hC9
  refine wl_call cal_19 rfl (read_sp' hC9 0 0 9) rfl ?_
  rintro e w9 ⟨_, rfl, hv9, hS9⟩; refine ⟨_, rfl, ?_⟩
  replace hS9 := hS9.join rfl; dsimp only [List.dropLast, List.cons_append, List.nil_append] at hS9; clear hC9
  clear hS8
  replace hv9 := rd_eq hv9 sm4 sm5; subst hv9
  refine wl_move rfl rfl ?_
  refine wl_extract rfl rfl rfl ?_
  refine wl_extract rfl rfl rfl ?_
  refine wl_assign rfl rfl ?_
  refine wl_assign rfl rfl ?_
  refine wl_nil ?_
  refine qs_seq ?_
  refine wc_sub (L' := [(7, _), (5, _), (4, _), (3, _), (2, _), (1, _), (0, _)]) (.cons rfl (.cons rfl (.cons rfl (.cons rfl (.cons rfl (.cons rfl (.cons rfl .nil))))))) ?_
  refine wc_seq ?_
  refine wc_region ?_
  refine wl_move rfl rfl ?_
  have hC10 := hS9.split [0] [true, false, false, false] rfl; dsimp only [selF, pickA, nthA, List.cons_append, List.nil_append] at hC10
  refine wl_call cal_23 rfl (start_sp hC10) rfl ?_
  rintro e w10 ⟨_, rfl, rfl, hS10⟩; refine ⟨_, rfl, ?_⟩
  replace hS10 := hS10.join rfl; dsimp only [List.dropLast, List.cons_append, List.nil_append] at hS10; clear hC10
  clear hS9
  refine wl_nil ?_
  refine qs_seq ?_
  refine wc_seq ?_
  refine wc_region ?_
  refine wl_move rfl rfl ?_
  have hC11 := hS10.split [0] [true, false, false, false] rfl; dsimp only [selF, pickA, nthA, List.cons_append, List.nil_append] at hC11
  refine wl_call cal_19 rfl (read_sp' hC11 0 0 9) rfl ?_
  rintro e w11 ⟨_, rfl, hv11, hS11⟩; refine ⟨_, rfl, ?_⟩
  replace hS11 := hS11.join rfl; dsimp only [List.dropLast, List.cons_append, List.nil_append] at hS11; clear hC11
  clear hS10
  replace hv11 := rd_eq hv11 sm6 sm7; subst hv11
  refine wl_move rfl rfl ?_
  refine wl_extract rfl rfl rfl ?_
  refine wl_extract rfl rfl rfl ?_
  refine wl_assign rfl rfl ?_
  refine wl_assign rfl rfl ?_
  refine wl_nil ?_
  refine qs_seq ?_
  refine wc_sub (L' := [(9, _), (8, _), (7, _), (5, _), (4, _), (3, _), (2, _), (0, _)]) (.cons rfl (.cons rfl (.cons rfl (.cons rfl (.cons rfl (.cons rfl (.cons rfl (.cons rfl .nil)))))))) ?_
  refine wc_seq ?_
  refine wc_region ?_
  refine wl_move rfl rfl ?_
  refine wl_buildSlice hS11 rfl Try.underlying31 ifz_3 rfl rfl rfl rfl ?_
  intro b12 w12 hS12
  clear hS11
  have hC13 := hS12.split [3] [false, false, false, true, false] rfl; dsimp only [selF, pickA, nthA, List.cons_append, List.nil_append] at hC13
  refine wl_call cal_22 rfl (crash_sp hC13 (ent_lit 0 (l := [0]) (by simp) rfl)) rfl ?_
  rintro e w13 ⟨_, rfl, rfl, hS13⟩; refine ⟨_, rfl, ?_⟩
  replace hS13 := hS13.join rfl; dsimp only [List.dropLast, List.cons_append, List.nil_append] at hS13; clear hC13
  clear hS12
  refine wl_nil ?_
  refine qs_seq ?_
  refine wc_sub (L' := [(9, _), (8, _), (7, _), (5, _), (4, _), (3, _), (2, _), (0, _)]) (.cons rfl (.cons rfl (.cons rfl (.cons rfl (.cons rfl (.cons rfl (.cons rfl (.cons rfl .nil)))))))) ?_
  refine wc_seq ?_
  refine wc_region ?_
  refine wl_move rfl rfl ?_
  have hC14 := hS13.split [0] [true, false, false, false, false] rfl; dsimp only [selF, pickA, nthA, List.cons_append, List.nil_append] at hC14
  refine wl_call cal_23 rfl (start_sp hC14) rfl ?_
  rintro e w14 ⟨_, rfl, rfl, hS14⟩; refine ⟨_, rfl, ?_⟩
  replace hS14 := hS14.join rfl; dsimp only [List.dropLast, List.cons_append, List.nil_append] at hS14; clear hC14
  clear hS13
  refine wl_nil ?_
  refine qs_seq ?_
  refine wc_seq ?_
  refine wc_region ?_
  refine wl_move rfl rfl ?_
  have hC15 := hS14.split [0] [true, false, false, false, false] rfl; dsimp only [selF, pickA, nthA, List.cons_append, List.nil_append] at hC15
  refine wl_call cal_19 rfl (read_sp' hC15 0 1 9) rfl ?_
  rintro e w15 ⟨_, rfl, hv15, hS15⟩; refine ⟨_, rfl, ?_⟩
  replace hS15 := hS15.join rfl; dsimp only [List.dropLast, List.cons_append, List.nil_append] at hS15; clear hC15
  clear hS14
  replace hv15 := rd_eq hv15 sm8 sm9; subst hv15
  refine wl_move rfl rfl ?_
  refine wl_extract rfl rfl rfl ?_
  refine wl_extract rfl rfl rfl ?_
  refine wl_assign rfl rfl ?_
  refine wl_assign rfl rfl ?_
  refine wl_nil ?_
  refine qs_seq ?_
  refine wc_sub (L' := [(11, _), (10, _), (9, _), (8, _), (7, _), (5, _), (4, _), (3, _), (2, _), (0, _)]) (.cons rfl (.cons rfl (.cons rfl (.cons rfl (.cons rfl (.cons rfl (.cons rfl (.cons rfl (.cons rfl (.cons rfl .nil)))))))))) ?_
  refine wc_seq ?_
  refine wc_region ?_
  refine wl_move rfl rfl ?_
  have hC16 := hS15.split [0] [true, false, false, false, false] rfl; dsimp only [selF, pickA, nthA, List.cons_append, List.nil_append] at hC16
  refine wl_call cal_26 rfl (Write_sp hC16 (ent_nil (by first | rfl | (simp only [SyncD_keep, WriteD_keep, crashD_keep]; rfl))) 1 62 [97, 98, 99, 100]) rfl ?_
  rintro e w16 ⟨_, rfl, hv16, hS16⟩; refine ⟨_, rfl, ?_⟩
  replace hS16 := hS16.join rfl; dsimp only [List.dropLast, List.cons_append, List.nil_append] at hS16; clear hC16
  clear hS15
  replace hv16 := hv16.trans (congrArg intV sm10); subst hv16
  refine wl_assign rfl rfl ?_
  refine wl_nil ?_
  refine qs_seq ?_
  refine wc_seq ?_
  refine wc_region ?_
  refine wl_move rfl rfl ?_
  refine wl_buildSlice hS16 rfl Try.underlying31 ifz_3 rfl rfl rfl rfl ?_
  intro b17 w17 hS17
  clear hS16
  have hC18 := hS17.split [1] [false, true, false, false, false, false] rfl; dsimp only [selF, pickA, nthA, List.cons_append, List.nil_append] at hC18
  refine wl_call cal_22 rfl (crash_sp hC18 (ent_lit 0 (l := [0, 1]) (by simp) rfl)) rfl ?_
  rintro e w18 ⟨_, rfl, rfl, hS18⟩; refine ⟨_, rfl, ?_⟩
  replace hS18 := hS18.join rfl; dsimp only [List.dropLast, List.cons_append, List.nil_append] at hS18; clear hC18
  clear hS17
  refine wl_nil ?_
  refine qs_seq ?_
  refine wc_sub (L' := [(12, _), (11, _), (10, _), (9, _), (8, _), (7, _), (5, _), (4, _), (3, _), (2, _), (0, _)]) (.cons rfl (.cons rfl (.cons rfl (.cons rfl (.cons rfl (.cons rfl (.cons rfl (.cons rfl (.cons rfl (.cons rfl (.cons rfl .nil))))))))))) ?_
  refine wc_seq ?_
  refine wc_region ?_
  refine wl_move rfl rfl ?_
  have hC19 := hS18.split [0] [true, false, false, false, false, false] rfl; dsimp only [selF, pickA, nthA, List.cons_append, List.nil_append] at hC19
  refine wl_call cal_23 rfl (start_sp hC19) rfl ?_
  rintro e w19 ⟨_, rfl, rfl, hS19⟩; refine ⟨_, rfl, ?_⟩
  replace hS19 := hS19.join rfl; dsimp only [List.dropLast, List.cons_append, List.nil_append] at hS19; clear hC19
  clear hS18
  refine wl_nil ?_
  refine qs_seq ?_
  refine wc_seq ?_
  refine wc_region ?_
  refine wl_move rfl rfl ?_
  have hC20 := hS19.split [0] [true, false, false, false, false, false] rfl; dsimp only [selF, pickA, nthA, List.cons_append, List.nil_append] at hC20
  refine wl_call cal_19 rfl (read_sp' hC20 1 60 100) rfl ?_
  rintro e w20 ⟨_, rfl, hv20, hS20⟩; refine ⟨_, rfl, ?_⟩
  replace hS20 := hS20.join rfl; dsimp only [List.dropLast, List.cons_append, List.nil_append] at hS20; clear hC20
  clear hS19
  replace hv20 := rd_eq hv20 sm11 sm12; subst hv20
  refine wl_move rfl rfl ?_
  refine wl_extract rfl rfl rfl ?_
  refine wl_extract rfl rfl rfl ?_
  refine wl_assign rfl rfl ?_
  refine wl_assign rfl rfl ?_
  refine wl_nil ?_
  refine qs_seq ?_
  refine wc_sub (L' := [(14, _), (13, _), (12, _), (11, _), (10, _), (9, _), (8, _), (7, _), (5, _), (4, _), (3, _), (2, _), (0, _)]) (.cons rfl (.cons rfl (.cons rfl (.cons rfl (.cons rfl (.cons rfl (.cons rfl (.cons rfl (.cons rfl (.cons rfl (.cons rfl (.cons rfl (.cons rfl .nil))))))))))))) ?_
  refine wc_seq ?_
  refine wc_region ?_
  refine wl_move rfl rfl ?_
  refine wl_eql rfl rfl rfl ?_
  refine wl_move rfl rfl ?_
  refine wl_splitD 70 rfl (fun h21 => ?_) (fun h21 => ?_)
  · skip
    refine wl_guard rfl rfl (decide_eq_true h21) ?_
    refine wl_move rfl rfl ?_
    refine wl_guard rfl rfl (decide_eq_true h21) ?_
    refine wl_eql rfl rfl rfl ?_
    refine wl_pickT rfl (decide_eq_true h21) rfl rfl ?_
    refine wl_move rfl rfl ?_
    refine wl_splitD 74 rfl (fun h22 => ?_) (fun h22 => ?_)
    · skip
      refine wl_guard rfl rfl (decide_eq_true h22) ?_
      refine wl_move rfl rfl ?_
      refine wl_pickT rfl (decide_eq_true h22) rfl rfl ?_
      refine wl_move rfl rfl ?_
      refine wl_split 77 rfl (fun h23 => ?_) (fun h23 => ?_)
      · skip
        refine wl_guard rfl rfl h23 ?_
        refine wl_move rfl rfl ?_
        refine wl_guard rfl rfl h23 ?_
        refine wl_eql rfl rfl rfl ?_
        refine wl_pickT rfl h23 rfl rfl ?_
        refine wl_move rfl rfl ?_
        refine wl_splitD 81 rfl (fun h24 => ?_) (fun h24 => ?_)
        · skip
          refine wl_guard rfl rfl (decide_eq_true h24) ?_
          refine wl_move rfl rfl ?_
          refine wl_guard rfl rfl (decide_eq_true h24) ?_
          refine wl_eqlS rfl rfl rfl ?_
          refine wl_pickT rfl (decide_eq_true h24) rfl rfl ?_
          refine wl_move rfl rfl ?_
          refine wl_splitD 85 rfl (fun h25 => ?_) (fun h25 => ?_)
          · skip
            refine wl_guard rfl rfl (decide_eq_true h25) ?_
            refine wl_move rfl rfl ?_
            refine wl_guard rfl rfl (decide_eq_true h25) ?_
            refine wl_eql rfl rfl rfl ?_
            refine wl_pickT rfl (decide_eq_true h25) rfl rfl ?_
            refine wl_move rfl rfl ?_
            refine wl_splitD 89 rfl (fun h26 => ?_) (fun h26 => ?_)
            · skip
              refine wl_guard rfl rfl (decide_eq_true h26) ?_
              refine wl_move rfl rfl ?_
              refine wl_guard rfl rfl (decide_eq_true h26) ?_
              refine wl_eqlS rfl rfl rfl ?_
              refine wl_pickT rfl (decide_eq_true h26) rfl rfl ?_
              refine wl_move rfl rfl ?_
              refine wl_splitD 93 rfl (fun h27 => ?_) (fun h27 => ?_)
              · skip
                refine wl_guard rfl rfl (decide_eq_true h27) ?_
                refine wl_move rfl rfl ?_
                refine wl_guard rfl rfl (decide_eq_true h27) ?_
                refine wl_eql rfl rfl rfl ?_
                refine wl_pickT rfl (decide_eq_true h27) rfl rfl ?_
                refine wl_move rfl rfl ?_
                refine wl_splitD 97 rfl (fun h28 => ?_) (fun h28 => ?_)
                · skip
                  refine wl_guard rfl rfl (decide_eq_true h28) ?_
                  refine wl_move rfl rfl ?_
                  refine wl_guard rfl rfl (decide_eq_true h28) ?_
                  refine wl_eql rfl rfl rfl ?_
                  refine wl_pickT rfl (decide_eq_true h28) rfl rfl ?_
                  refine wl_assign rfl rfl ?_
                  refine wl_nil ?_
                  refine qs_seq ?_
                  refine wc_sub (L' := [(15, _), (14, _), (13, _), (4, _), (0, _)]) (.cons rfl (.cons rfl (.cons rfl (.cons rfl (.cons rfl .nil))))) ?_
                  refine wc_seq ?_
                  refine wc_region ?_
                  refine wl_move rfl rfl ?_
                  refine wl_move rfl rfl ?_
                  refine wl_splitD 102 rfl (fun h29 => ?_) (fun h29 => ?_)
                  · skip
                    refine wl_guard rfl rfl (decide_eq_true h29) ?_
                    refine wl_move rfl rfl ?_
                    refine wl_guard rfl rfl (decide_eq_true h29) ?_
                    refine wl_eqlS rfl rfl rfl ?_
                    refine wl_pickT rfl (decide_eq_true h29) rfl rfl ?_
                    refine wl_move rfl rfl ?_
                    refine wl_splitD 106 rfl (fun h30 => ?_) (fun h30 => ?_)
                    · skip
                      refine wl_guard rfl rfl (decide_eq_true h30) ?_
                      refine wl_move rfl rfl ?_
                      refine wl_guard rfl rfl (decide_eq_true h30) ?_
                      refine wl_eql rfl rfl rfl ?_
                      refine wl_pickT rfl (decide_eq_true h30) rfl rfl ?_
                      refine wl_move rfl rfl ?_
                      refine wl_splitD 110 rfl (fun h31 => ?_) (fun h31 => ?_)
                      · skip
                        refine wl_guard rfl rfl (decide_eq_true h31) ?_
                        refine wl_move rfl rfl ?_
                        refine wl_guard rfl rfl (decide_eq_true h31) ?_
                        have hC32 := hS20.split [0] [true, false, false, false, false, false] rfl; dsimp only [selF, pickA, nthA, List.cons_append, List.nil_append] at hC32
                        refine wl_call cal_15 rfl (size_sp' hC32 1) rfl ?_
                        rintro e w32 ⟨_, rfl, hv32, hS32⟩; refine ⟨_, rfl, ?_⟩
                        replace hS32 := hS32.join rfl; dsimp only [List.dropLast, List.cons_append, List.nil_append] at hS32; clear hC32
                        clear hS20
                        replace hv32 := hv32.trans (congrArg intV sm13); subst hv32
                        refine wl_guard rfl rfl (decide_eq_true h31) ?_
                        refine wl_eql rfl rfl rfl ?_
                        refine wl_pickT rfl (decide_eq_true h31) rfl rfl ?_
                        refine wl_move rfl rfl ?_
                        refine wl_splitD 115 rfl (fun h33 => ?_) (fun h33 => ?_)
                        · skip
                          refine wl_guard rfl rfl (decide_eq_true h33) ?_
                          refine wl_move rfl rfl ?_
                          refine wl_guard rfl rfl (decide_eq_true h33) ?_
                          have hC34 := hS32.split [0] [true, false, false, false, false, false] rfl; dsimp only [selF, pickA, nthA, List.cons_append, List.nil_append] at hC34
                          refine wl_call cal_26 rfl (Write_sp hC34 (ent_nil (by first | rfl | (simp only [SyncD_keep, WriteD_keep, crashD_keep]; rfl))) 16 0 []) rfl ?_
                          rintro e w34 ⟨_, rfl, hv34, hS34⟩; refine ⟨_, rfl, ?_⟩
                          replace hS34 := hS34.join rfl; dsimp only [List.dropLast, List.cons_append, List.nil_append] at hS34; clear hC34
                          clear hS32
                          replace hv34 := hv34.trans (congrArg intV sm14); subst hv34
                          refine wl_guard rfl rfl (decide_eq_true h33) ?_
                          refine wl_eql rfl rfl rfl ?_
                          refine wl_pickT rfl (decide_eq_true h33) rfl rfl ?_
                          refine wl_move rfl rfl ?_
                          refine wl_splitD 120 rfl (fun h35 => ?_) (fun h35 => ?_)
                          · skip
                            refine wl_guard rfl rfl (decide_eq_true h35) ?_
                            refine wl_move rfl rfl ?_
                            refine wl_guard rfl rfl (decide_eq_true h35) ?_
                            have hC36 := hS34.split [0] [true, false, false, false, false, false] rfl; dsimp only [selF, pickA, nthA, List.cons_append, List.nil_append] at hC36
                            refine wl_call cal_26 rfl (Write_sp hC36 (ent_nil (by first | rfl | (simp only [SyncD_keep, WriteD_keep, crashD_keep]; rfl))) 1 16777216 [97]) rfl ?_
                            rintro e w36 ⟨_, rfl, hv36, hS36⟩; refine ⟨_, rfl, ?_⟩
                            replace hS36 := hS36.join rfl; dsimp only [List.dropLast, List.cons_append, List.nil_append] at hS36; clear hC36
                            clear hS34
                            replace hv36 := hv36.trans (congrArg intV sm15); subst hv36
                            refine wl_guard rfl rfl (decide_eq_true h35) ?_
                            refine wl_eql rfl rfl rfl ?_
                            refine wl_pickT rfl (decide_eq_true h35) rfl rfl ?_
                            refine wl_assign rfl rfl ?_
                            refine wl_nil ?_
                            refine qs_seq ?_
                            refine wc_sub (L' := [(0, _)]) (.cons rfl .nil) ?_
                            refine wc_ret ?_
                            refine fin1 (.inr rfl) rfl rfl ?_
                            exact ⟨_, rfl, by simp, hS36.tail.tail.tail.tail.tail⟩
                          · skip
                            first | exact absurd rfl h35 | cases h35
                        · skip
                          first | exact absurd rfl h33 | cases h33
                      · skip
                        first | exact absurd rfl h31 | cases h31
                    · skip
                      first | exact absurd rfl h30 | cases h30
                  · skip
                    first | exact absurd rfl h29 | cases h29
                · skip
                  first | exact absurd rfl h28 | cases h28
              · skip
                first | exact absurd rfl h27 | cases h27
            · skip
              first | exact absurd rfl h26 | cases h26
          · skip
            first | exact absurd rfl h25 | cases h25
        · skip
          first | exact absurd rfl h24 | cases h24
      · skip
        first | exact absurd rfl h23 | cases h23
    · skip
      first | exact absurd rfl h22 | cases h22
  · skip
    first | exact absurd rfl h21 | cases h21

end Go.Proofs.Ytleaahajkncnpaa
