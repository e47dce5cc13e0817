/- Closed facts of the program: offsets, sizes, zero values. -/
import Derived.Test.YtdkfppcafpjomaaGreatDoorShf
namespace Go.Proofs.YtdkfppcafpjomaaGreatDoor
open Go.RowKit M
theorem ag_3 : aggB Tryz.prog 3 = some false := by kernel_rfl
theorem ag_4 : aggB Tryz.prog 4 = some false := by kernel_rfl
theorem ag_9 : aggB Tryz.prog 9 = some false := by kernel_rfl
theorem ag_27 : aggB Tryz.prog 27 = some false := by kernel_rfl
theorem ag_34 : aggB Tryz.prog 34 = some false := by kernel_rfl
theorem ag_36 : aggB Tryz.prog 36 = some true := by kernel_rfl
theorem ag_49 : aggB Tryz.prog 49 = some true := by kernel_rfl
theorem ag_56 : aggB Tryz.prog 56 = some false := by kernel_rfl
theorem ag_93 : aggB Tryz.prog 93 = some false := by kernel_rfl
theorem ag_94 : aggB Tryz.prog 94 = some false := by kernel_rfl
theorem asz_30 : allSz Tryz.prog 30 = true := by kernel_rfl
theorem asz_49 : allSz Tryz.prog 49 = true := by kernel_rfl
theorem asz_59 : allSz Tryz.prog 59 = true := by kernel_rfl
theorem asz_90 : allSz Tryz.prog 90 = true := by kernel_rfl
theorem asz_102 : allSz Tryz.prog 102 = true := by kernel_rfl
theorem cal_4 : callB Tryz.prog 4 = true := by kernel_rfl
theorem cal_5 : callB Tryz.prog 5 = true := by kernel_rfl
theorem cal_6 : callB Tryz.prog 6 = true := by kernel_rfl
theorem cal_7 : callB Tryz.prog 7 = true := by kernel_rfl
theorem cal_8 : callB Tryz.prog 8 = true := by kernel_rfl
theorem cal_9 : callB Tryz.prog 9 = true := by kernel_rfl
theorem cal_10 : callB Tryz.prog 10 = true := by kernel_rfl
theorem cal_11 : callB Tryz.prog 11 = true := by kernel_rfl
theorem cal_12 : callB Tryz.prog 12 = true := by kernel_rfl
theorem cal_13 : callB Tryz.prog 13 = true := by kernel_rfl
theorem cal_14 : callB Tryz.prog 14 = true := by kernel_rfl
theorem cal_15 : callB Tryz.prog 15 = true := by kernel_rfl
theorem cal_16 : callB Tryz.prog 16 = true := by kernel_rfl
theorem cal_17 : callB Tryz.prog 17 = true := by kernel_rfl
theorem cal_18 : callB Tryz.prog 18 = true := by kernel_rfl
theorem cal_19 : callB Tryz.prog 19 = true := by kernel_rfl
theorem cal_20 : callB Tryz.prog 20 = true := by kernel_rfl
theorem cal_21 : callB Tryz.prog 21 = true := by kernel_rfl
theorem cal_22 : callB Tryz.prog 22 = true := by kernel_rfl
theorem cal_23 : callB Tryz.prog 23 = true := by kernel_rfl
theorem cal_24 : callB Tryz.prog 24 = true := by kernel_rfl
theorem cal_25 : callB Tryz.prog 25 = true := by kernel_rfl
theorem cal_26 : callB Tryz.prog 26 = true := by kernel_rfl
theorem cal_27 : callB Tryz.prog 27 = true := by kernel_rfl
theorem cal_28 : callB Tryz.prog 28 = true := by kernel_rfl
theorem cal_29 : callB Tryz.prog 29 = true := by kernel_rfl
theorem cal_30 : callB Tryz.prog 30 = true := by kernel_rfl
theorem cal_31 : callB Tryz.prog 31 = true := by kernel_rfl
theorem cal_32 : callB Tryz.prog 32 = true := by kernel_rfl
theorem cal_33 : callB Tryz.prog 33 = true := by kernel_rfl
theorem cal_34 : callB Tryz.prog 34 = true := by kernel_rfl
theorem cal_35 : callB Tryz.prog 35 = true := by kernel_rfl
theorem cal_36 : callB Tryz.prog 36 = true := by kernel_rfl
theorem cal_37 : callB Tryz.prog 37 = true := by kernel_rfl
theorem cal_38 : callB Tryz.prog 38 = true := by kernel_rfl
theorem cal_39 : callB Tryz.prog 39 = true := by kernel_rfl
theorem cal_40 : callB Tryz.prog 40 = true := by kernel_rfl
theorem cal_41 : callB Tryz.prog 41 = true := by kernel_rfl
theorem cal_42 : callB Tryz.prog 42 = true := by kernel_rfl
theorem cal_43 : callB Tryz.prog 43 = true := by kernel_rfl
theorem cal_44 : callB Tryz.prog 44 = true := by kernel_rfl
theorem cal_45 : callB Tryz.prog 45 = true := by kernel_rfl
theorem cal_46 : callB Tryz.prog 46 = true := by kernel_rfl
theorem cal_47 : callB Tryz.prog 47 = true := by kernel_rfl
theorem cal_48 : callB Tryz.prog 48 = true := by kernel_rfl
theorem cal_49 : callB Tryz.prog 49 = true := by kernel_rfl
theorem cal_50 : callB Tryz.prog 50 = true := by kernel_rfl
theorem cal_51 : callB Tryz.prog 51 = true := by kernel_rfl
theorem cal_52 : callB Tryz.prog 52 = true := by kernel_rfl
theorem cal_53 : callB Tryz.prog 53 = true := by kernel_rfl
theorem cal_54 : callB Tryz.prog 54 = true := by kernel_rfl
theorem cal_55 : callB Tryz.prog 55 = true := by kernel_rfl
theorem cal_56 : callB Tryz.prog 56 = true := by kernel_rfl
theorem cal_57 : callB Tryz.prog 57 = true := by kernel_rfl
theorem cal_58 : callB Tryz.prog 58 = true := by kernel_rfl
theorem cal_59 : callB Tryz.prog 59 = true := by kernel_rfl
theorem cal_60 : callB Tryz.prog 60 = true := by kernel_rfl
theorem cal_61 : callB Tryz.prog 61 = true := by kernel_rfl
theorem cal_62 : callB Tryz.prog 62 = true := by kernel_rfl
theorem cal_63 : callB Tryz.prog 63 = true := by kernel_rfl
theorem cal_64 : callB Tryz.prog 64 = true := by kernel_rfl
theorem cal_65 : callB Tryz.prog 65 = true := by kernel_rfl
theorem cal_66 : callB Tryz.prog 66 = true := by kernel_rfl
theorem cal_67 : callB Tryz.prog 67 = true := by kernel_rfl
theorem cal_68 : callB Tryz.prog 68 = true := by kernel_rfl
theorem cal_69 : callB Tryz.prog 69 = true := by kernel_rfl
theorem cal_70 : callB Tryz.prog 70 = true := by kernel_rfl
theorem cal_71 : callB Tryz.prog 71 = true := by kernel_rfl
theorem cal_72 : callB Tryz.prog 72 = true := by kernel_rfl
theorem cal_73 : callB Tryz.prog 73 = true := by kernel_rfl
theorem cal_74 : callB Tryz.prog 74 = true := by kernel_rfl
theorem cal_75 : callB Tryz.prog 75 = true := by kernel_rfl
theorem cal_76 : callB Tryz.prog 76 = true := by kernel_rfl
theorem cal_77 : callB Tryz.prog 77 = true := by kernel_rfl
theorem cal_78 : callB Tryz.prog 78 = true := by kernel_rfl
theorem cal_81 : callB Tryz.prog 81 = true := by kernel_rfl
theorem cal_82 : callB Tryz.prog 82 = true := by kernel_rfl
theorem cal_83 : callB Tryz.prog 83 = true := by kernel_rfl
theorem cal_84 : callB Tryz.prog 84 = true := by kernel_rfl
theorem cal_85 : callB Tryz.prog 85 = true := by kernel_rfl
theorem cal_86 : callB Tryz.prog 86 = true := by kernel_rfl
theorem cal_87 : callB Tryz.prog 87 = true := by kernel_rfl
theorem cal_88 : callB Tryz.prog 88 = true := by kernel_rfl
theorem cal_89 : callB Tryz.prog 89 = true := by kernel_rfl
theorem cal_102 : callB Tryz.prog 102 = true := by kernel_rfl
theorem cal_105 : callB Tryz.prog 105 = true := by kernel_rfl
theorem cal_107 : callB Tryz.prog 107 = true := by kernel_rfl
theorem cal_156 : callB Tryz.prog 156 = true := by kernel_rfl
theorem es_22 : elemSz Tryz.prog 22 = some 5 := by kernel_rfl
theorem es_27 : elemSz Tryz.prog 27 = some 1 := by kernel_rfl
theorem es_34 : elemSz Tryz.prog 34 = some 3 := by kernel_rfl
theorem fo_30_0 : fldOff Tryz.prog 30 0 = some 0 := by kernel_rfl
theorem fo_30_1 : fldOff Tryz.prog 30 1 = some 1 := by kernel_rfl
theorem fo_30_4 : fldOff Tryz.prog 30 4 = some 4 := by kernel_rfl
theorem fo_30_5 : fldOff Tryz.prog 30 5 = some 5 := by kernel_rfl
theorem fo_36_0 : fldOff Tryz.prog 36 0 = some 0 := by kernel_rfl
theorem fo_36_1 : fldOff Tryz.prog 36 1 = some 1 := by kernel_rfl
theorem fo_36_2 : fldOff Tryz.prog 36 2 = some 2 := by kernel_rfl
theorem fo_36_3 : fldOff Tryz.prog 36 3 = some 3 := by kernel_rfl
theorem fo_36_4 : fldOff Tryz.prog 36 4 = some 4 := by kernel_rfl
theorem fo_49_0 : fldOff Tryz.prog 49 0 = some 0 := by kernel_rfl
theorem fo_49_1 : fldOff Tryz.prog 49 1 = some 1 := by kernel_rfl
theorem fo_49_2 : fldOff Tryz.prog 49 2 = some 2 := by kernel_rfl
theorem fo_59_0 : fldOff Tryz.prog 59 0 = some 0 := by kernel_rfl
theorem fo_59_2 : fldOff Tryz.prog 59 2 = some 2 := by kernel_rfl
theorem fo_90_0 : fldOff Tryz.prog 90 0 = some 0 := by kernel_rfl
theorem fo_90_1 : fldOff Tryz.prog 90 1 = some 1 := by kernel_rfl
theorem fo_96_0 : fldOff Tryz.prog 96 0 = some 0 := by kernel_rfl
theorem fo_96_1 : fldOff Tryz.prog 96 1 = some 1 := by kernel_rfl
theorem fo_102_0 : fldOff Tryz.prog 102 0 = some 0 := by kernel_rfl
theorem fo_102_1 : fldOff Tryz.prog 102 1 = some 1 := by kernel_rfl
theorem ifo_5 : (Tryz.prog.info? 5).map (fun i => (i.zero, i.size, i.bytes)) = some (some (.int .u8 0), 1, 1) := by kernel_rfl
theorem ifo_9 : (Tryz.prog.info? 9).map (fun i => (i.zero, i.size, i.bytes)) = some (some (.string ⟨#[]⟩), 1, 16) := by kernel_rfl
theorem ifo_49 : (Tryz.prog.info? 49).map (fun i => (i.zero, i.size, i.bytes)) = some (some (.agg #[(.int .i64 0), (.int .i64 0), (.string ⟨#[]⟩)]), 3, 32) := by kernel_rfl
theorem ifz_5 : (Tryz.prog.info? 5).map (fun i => (i.zero, i.size)) = some (some (.int .u8 0), 1) := by kernel_rfl
theorem ifz_9 : (Tryz.prog.info? 9).map (fun i => (i.zero, i.size)) = some (some (.string ⟨#[]⟩), 1) := by kernel_rfl
theorem ifz_49 : (Tryz.prog.info? 49).map (fun i => (i.zero, i.size)) = some (some (.agg #[(.int .i64 0), (.int .i64 0), (.string ⟨#[]⟩)]), 3) := by kernel_rfl
theorem mix : Tryz.prog.follows .mixedOrders = true := by kernel_rfl
theorem nif_24 : notIface Tryz.prog 24 = true := by kernel_rfl
theorem pl_30_ : structPl Tryz.prog 30 [] = some [] := by kernel_rfl
theorem pl_49_ : structPl Tryz.prog 49 [] = some [] := by kernel_rfl
theorem pl_49_0 : structPl Tryz.prog 49 [0] = some [(0, 1)] := by kernel_rfl
theorem pl_49_0_1 : structPl Tryz.prog 49 [0, 1] = some [(0, 1), (1, 1)] := by kernel_rfl
theorem pl_49_0_1_2 : structPl Tryz.prog 49 [0, 1, 2] = some [(0, 1), (1, 1), (2, 1)] := by kernel_rfl
theorem pl_49_0_2 : structPl Tryz.prog 49 [0, 2] = some [(0, 1), (2, 1)] := by kernel_rfl
theorem pl_59_0_1_2 : structPl Tryz.prog 59 [0, 1, 2] = some [(0, 1), (1, 1), (2, 1)] := by kernel_rfl
theorem pl_90_0 : structPl Tryz.prog 90 [0] = some [(0, 1)] := by kernel_rfl
theorem pl_102_0 : structPl Tryz.prog 102 [0] = some [(0, 1)] := by kernel_rfl
theorem sz_3 : szOf Tryz.prog 3 = some 1 := by kernel_rfl
theorem sz_4 : szOf Tryz.prog 4 = some 1 := by kernel_rfl
theorem sz_9 : szOf Tryz.prog 9 = some 1 := by kernel_rfl
theorem sz_27 : szOf Tryz.prog 27 = some 1 := by kernel_rfl
theorem sz_36 : szOf Tryz.prog 36 = some 5 := by kernel_rfl
theorem sz_49 : szOf Tryz.prog 49 = some 3 := by kernel_rfl
theorem sz_93 : szOf Tryz.prog 93 = some 1 := by kernel_rfl
theorem sz_94 : szOf Tryz.prog 94 = some 1 := by kernel_rfl
theorem zr_9 : zeroOf Tryz.prog 9 = some (some (.string ⟨#[]⟩)) := by kernel_rfl
theorem zr_30 : zeroOf Tryz.prog 30 = some (some (.agg #[(.slice none 0 0), (.slice none 0 0), (.slice none 0 0), (.slice none 0 0), (.slice none 0 0), (.slice none 0 0), (.int .i64 0)])) := by kernel_rfl
theorem zr_49 : zeroOf Tryz.prog 49 = some (some (.agg #[(.int .i64 0), (.int .i64 0), (.string ⟨#[]⟩)])) := by kernel_rfl
theorem zr_59 : zeroOf Tryz.prog 59 = some (some (.agg #[(.map none), (.map none), (.map none), (.int .i64 0)])) := by kernel_rfl
theorem zr_90 : zeroOf Tryz.prog 90 = some (some (.agg #[(.string ⟨#[]⟩), (.bool false)])) := by kernel_rfl
theorem zr_96 : zeroOf Tryz.prog 96 = some (some (.agg #[(.pointer none), (.slice none 0 0)])) := by kernel_rfl
theorem zr_102 : zeroOf Tryz.prog 102 = some (some (.agg #[(.string ⟨#[]⟩), (.bool false)])) := by kernel_rfl
end Go.Proofs.YtdkfppcafpjomaaGreatDoor
