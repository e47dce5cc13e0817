/- Closed facts of the program: offsets, sizes, zero values. -/
import Derived.Test.YtdkfppcafpjomaaDoorShf
namespace Go.Proofs.YtdkfppcafpjomaaDoor
open Go.RowKit M
theorem ag_3 : aggB Tryd.prog 3 = some false := by kernel_rfl
theorem ag_4 : aggB Tryd.prog 4 = some false := by kernel_rfl
theorem ag_9 : aggB Tryd.prog 9 = some false := by kernel_rfl
theorem ag_22 : aggB Tryd.prog 22 = some false := by kernel_rfl
theorem ag_29 : aggB Tryd.prog 29 = some true := by kernel_rfl
theorem ag_41 : aggB Tryd.prog 41 = some true := by kernel_rfl
theorem ag_50 : aggB Tryd.prog 50 = some false := by kernel_rfl
theorem ag_72 : aggB Tryd.prog 72 = some false := by kernel_rfl
theorem ag_73 : aggB Tryd.prog 73 = some false := by kernel_rfl
theorem asz_29 : allSz Tryd.prog 29 = true := by kernel_rfl
theorem asz_53 : allSz Tryd.prog 53 = true := by kernel_rfl
theorem asz_81 : allSz Tryd.prog 81 = true := by kernel_rfl
theorem cal_7 : callB Tryd.prog 7 = true := by kernel_rfl
theorem cal_8 : callB Tryd.prog 8 = true := by kernel_rfl
theorem cal_9 : callB Tryd.prog 9 = true := by kernel_rfl
theorem cal_10 : callB Tryd.prog 10 = true := by kernel_rfl
theorem cal_11 : callB Tryd.prog 11 = true := by kernel_rfl
theorem cal_12 : callB Tryd.prog 12 = true := by kernel_rfl
theorem cal_13 : callB Tryd.prog 13 = true := by kernel_rfl
theorem cal_14 : callB Tryd.prog 14 = true := by kernel_rfl
theorem cal_15 : callB Tryd.prog 15 = true := by kernel_rfl
theorem cal_16 : callB Tryd.prog 16 = true := by kernel_rfl
theorem cal_17 : callB Tryd.prog 17 = true := by kernel_rfl
theorem cal_18 : callB Tryd.prog 18 = true := by kernel_rfl
theorem cal_19 : callB Tryd.prog 19 = true := by kernel_rfl
theorem cal_20 : callB Tryd.prog 20 = true := by kernel_rfl
theorem cal_21 : callB Tryd.prog 21 = true := by kernel_rfl
theorem cal_22 : callB Tryd.prog 22 = true := by kernel_rfl
theorem cal_23 : callB Tryd.prog 23 = true := by kernel_rfl
theorem cal_24 : callB Tryd.prog 24 = true := by kernel_rfl
theorem cal_25 : callB Tryd.prog 25 = true := by kernel_rfl
theorem cal_26 : callB Tryd.prog 26 = true := by kernel_rfl
theorem cal_27 : callB Tryd.prog 27 = true := by kernel_rfl
theorem cal_28 : callB Tryd.prog 28 = true := by kernel_rfl
theorem cal_29 : callB Tryd.prog 29 = true := by kernel_rfl
theorem cal_30 : callB Tryd.prog 30 = true := by kernel_rfl
theorem cal_31 : callB Tryd.prog 31 = true := by kernel_rfl
theorem cal_32 : callB Tryd.prog 32 = true := by kernel_rfl
theorem cal_33 : callB Tryd.prog 33 = true := by kernel_rfl
theorem cal_34 : callB Tryd.prog 34 = true := by kernel_rfl
theorem cal_35 : callB Tryd.prog 35 = true := by kernel_rfl
theorem cal_36 : callB Tryd.prog 36 = true := by kernel_rfl
theorem cal_37 : callB Tryd.prog 37 = true := by kernel_rfl
theorem cal_38 : callB Tryd.prog 38 = true := by kernel_rfl
theorem cal_39 : callB Tryd.prog 39 = true := by kernel_rfl
theorem cal_40 : callB Tryd.prog 40 = true := by kernel_rfl
theorem cal_41 : callB Tryd.prog 41 = true := by kernel_rfl
theorem cal_42 : callB Tryd.prog 42 = true := by kernel_rfl
theorem cal_43 : callB Tryd.prog 43 = true := by kernel_rfl
theorem cal_44 : callB Tryd.prog 44 = true := by kernel_rfl
theorem cal_45 : callB Tryd.prog 45 = true := by kernel_rfl
theorem cal_46 : callB Tryd.prog 46 = true := by kernel_rfl
theorem cal_47 : callB Tryd.prog 47 = true := by kernel_rfl
theorem cal_48 : callB Tryd.prog 48 = true := by kernel_rfl
theorem cal_49 : callB Tryd.prog 49 = true := by kernel_rfl
theorem cal_51 : callB Tryd.prog 51 = true := by kernel_rfl
theorem cal_52 : callB Tryd.prog 52 = true := by kernel_rfl
theorem cal_54 : callB Tryd.prog 54 = true := by kernel_rfl
theorem cal_57 : callB Tryd.prog 57 = true := by kernel_rfl
theorem cal_68 : callB Tryd.prog 68 = true := by kernel_rfl
theorem cal_101 : callB Tryd.prog 101 = true := by kernel_rfl
theorem cal_102 : callB Tryd.prog 102 = true := by kernel_rfl
theorem es_22 : elemSz Tryd.prog 22 = some 3 := by kernel_rfl
theorem es_35 : elemSz Tryd.prog 35 = some 5 := by kernel_rfl
theorem es_37 : elemSz Tryd.prog 37 = some 1 := by kernel_rfl
theorem es_59 : elemSz Tryd.prog 59 = some 1 := by kernel_rfl
theorem fo_29_0 : fldOff Tryd.prog 29 0 = some 0 := by kernel_rfl
theorem fo_29_1 : fldOff Tryd.prog 29 1 = some 1 := by kernel_rfl
theorem fo_29_2 : fldOff Tryd.prog 29 2 = some 2 := by kernel_rfl
theorem fo_41_0 : fldOff Tryd.prog 41 0 = some 0 := by kernel_rfl
theorem fo_41_1 : fldOff Tryd.prog 41 1 = some 1 := by kernel_rfl
theorem fo_41_2 : fldOff Tryd.prog 41 2 = some 2 := by kernel_rfl
theorem fo_41_3 : fldOff Tryd.prog 41 3 = some 3 := by kernel_rfl
theorem fo_41_4 : fldOff Tryd.prog 41 4 = some 4 := by kernel_rfl
theorem fo_53_0 : fldOff Tryd.prog 53 0 = some 0 := by kernel_rfl
theorem fo_53_2 : fldOff Tryd.prog 53 2 = some 2 := by kernel_rfl
theorem fo_75_0 : fldOff Tryd.prog 75 0 = some 0 := by kernel_rfl
theorem fo_75_1 : fldOff Tryd.prog 75 1 = some 1 := by kernel_rfl
theorem fo_81_0 : fldOff Tryd.prog 81 0 = some 0 := by kernel_rfl
theorem fo_81_1 : fldOff Tryd.prog 81 1 = some 1 := by kernel_rfl
theorem ifo_3 : (Tryd.prog.info? 3).map (fun i => (i.zero, i.size, i.bytes)) = some (some (.int .i64 0), 1, 8) := by kernel_rfl
theorem ifo_5 : (Tryd.prog.info? 5).map (fun i => (i.zero, i.size, i.bytes)) = some (some (.int .u8 0), 1, 1) := by kernel_rfl
theorem ifo_29 : (Tryd.prog.info? 29).map (fun i => (i.zero, i.size, i.bytes)) = some (some (.agg #[(.int .i64 0), (.int .i64 0), (.string ⟨#[]⟩)]), 3, 32) := by kernel_rfl
theorem ifz_3 : (Tryd.prog.info? 3).map (fun i => (i.zero, i.size)) = some (some (.int .i64 0), 1) := by kernel_rfl
theorem ifz_9 : (Tryd.prog.info? 9).map (fun i => (i.zero, i.size)) = some (some (.string ⟨#[]⟩), 1) := by kernel_rfl
theorem ifz_29 : (Tryd.prog.info? 29).map (fun i => (i.zero, i.size)) = some (some (.agg #[(.int .i64 0), (.int .i64 0), (.string ⟨#[]⟩)]), 3) := by kernel_rfl
theorem mix : Tryd.prog.follows .mixedOrders = true := by kernel_rfl
theorem nif_24 : notIface Tryd.prog 24 = true := by kernel_rfl
theorem pl_29_ : structPl Tryd.prog 29 [] = some [] := by kernel_rfl
theorem pl_29_0_1 : structPl Tryd.prog 29 [0, 1] = some [(0, 1), (1, 1)] := by kernel_rfl
theorem pl_29_0_1_2 : structPl Tryd.prog 29 [0, 1, 2] = some [(0, 1), (1, 1), (2, 1)] := by kernel_rfl
theorem pl_29_0_2 : structPl Tryd.prog 29 [0, 2] = some [(0, 1), (2, 1)] := by kernel_rfl
theorem pl_53_0_1_2 : structPl Tryd.prog 53 [0, 1, 2] = some [(0, 1), (1, 1), (2, 1)] := by kernel_rfl
theorem pl_81_0 : structPl Tryd.prog 81 [0] = some [(0, 1)] := by kernel_rfl
theorem sz_4 : szOf Tryd.prog 4 = some 1 := by kernel_rfl
theorem sz_9 : szOf Tryd.prog 9 = some 1 := by kernel_rfl
theorem sz_29 : szOf Tryd.prog 29 = some 3 := by kernel_rfl
theorem sz_41 : szOf Tryd.prog 41 = some 5 := by kernel_rfl
theorem sz_72 : szOf Tryd.prog 72 = some 1 := by kernel_rfl
theorem sz_73 : szOf Tryd.prog 73 = some 1 := by kernel_rfl
theorem zr_9 : zeroOf Tryd.prog 9 = some (some (.string ⟨#[]⟩)) := by kernel_rfl
theorem zr_29 : zeroOf Tryd.prog 29 = some (some (.agg #[(.int .i64 0), (.int .i64 0), (.string ⟨#[]⟩)])) := by kernel_rfl
theorem zr_53 : zeroOf Tryd.prog 53 = some (some (.agg #[(.map none), (.map none), (.map none), (.int .i64 0)])) := by kernel_rfl
theorem zr_75 : zeroOf Tryd.prog 75 = some (some (.agg #[(.pointer none), (.slice none 0 0)])) := by kernel_rfl
theorem zr_81 : zeroOf Tryd.prog 81 = some (some (.agg #[(.string ⟨#[]⟩), (.bool false)])) := by kernel_rfl
end Go.Proofs.YtdkfppcafpjomaaDoor
