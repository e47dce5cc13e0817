/- Closed facts of the program: offsets, sizes, zero values. -/
import Derived.Test.YtcbdclhoekokpaaGreatDoorRow
namespace Go.Proofs.YtcbdclhoekokpaaGreatDoor
open Go.RowKit M
theorem ag_3 : aggB Tryz.prog 3 = some false := by kernel_rfl
theorem ag_4 : aggB Tryz.prog 4 = some false := by kernel_rfl
theorem ag_9 : aggB Tryz.prog 9 = some false := by kernel_rfl
theorem ag_29 : aggB Tryz.prog 29 = some true := by kernel_rfl
theorem ag_30 : aggB Tryz.prog 30 = some false := by kernel_rfl
theorem ag_31 : aggB Tryz.prog 31 = some false := by kernel_rfl
theorem ag_33 : aggB Tryz.prog 33 = some true := by kernel_rfl
theorem ag_34 : aggB Tryz.prog 34 = some true := by kernel_rfl
theorem ag_36 : aggB Tryz.prog 36 = some true := by kernel_rfl
theorem ag_38 : aggB Tryz.prog 38 = some true := by kernel_rfl
theorem ag_40 : aggB Tryz.prog 40 = some true := by kernel_rfl
theorem ag_77 : aggB Tryz.prog 77 = some false := by kernel_rfl
theorem ag_78 : aggB Tryz.prog 78 = some false := by kernel_rfl
theorem ag_89 : aggB Tryz.prog 89 = some true := by kernel_rfl
theorem ag_90 : aggB Tryz.prog 90 = some false := by kernel_rfl
theorem ag_93 : aggB Tryz.prog 93 = some false := by kernel_rfl
theorem ag_98 : aggB Tryz.prog 98 = some false := by kernel_rfl
theorem ag_99 : aggB Tryz.prog 99 = some false := by kernel_rfl
theorem asz_36 : allSz Tryz.prog 36 = true := by kernel_rfl
theorem asz_38 : allSz Tryz.prog 38 = true := by kernel_rfl
theorem asz_64 : allSz Tryz.prog 64 = true := by kernel_rfl
theorem asz_80 : allSz Tryz.prog 80 = true := by kernel_rfl
theorem asz_89 : allSz Tryz.prog 89 = true := by kernel_rfl
theorem asz_128 : allSz Tryz.prog 128 = true := by kernel_rfl
theorem asz_141 : allSz Tryz.prog 141 = true := by kernel_rfl
theorem cal_8 : callB Tryz.prog 8 = true := by kernel_rfl
theorem cal_9 : callB Tryz.prog 9 = true := by kernel_rfl
theorem cal_10 : callB Tryz.prog 10 = true := by kernel_rfl
theorem cal_11 : callB Tryz.prog 11 = true := by kernel_rfl
theorem cal_12 : callB Tryz.prog 12 = true := by kernel_rfl
theorem cal_13 : callB Tryz.prog 13 = true := by kernel_rfl
theorem cal_14 : callB Tryz.prog 14 = true := by kernel_rfl
theorem cal_15 : callB Tryz.prog 15 = true := by kernel_rfl
theorem cal_16 : callB Tryz.prog 16 = true := by kernel_rfl
theorem cal_17 : callB Tryz.prog 17 = true := by kernel_rfl
theorem cal_18 : callB Tryz.prog 18 = true := by kernel_rfl
theorem cal_19 : callB Tryz.prog 19 = true := by kernel_rfl
theorem cal_20 : callB Tryz.prog 20 = true := by kernel_rfl
theorem cal_21 : callB Tryz.prog 21 = true := by kernel_rfl
theorem cal_22 : callB Tryz.prog 22 = true := by kernel_rfl
theorem cal_23 : callB Tryz.prog 23 = true := by kernel_rfl
theorem cal_24 : callB Tryz.prog 24 = true := by kernel_rfl
theorem cal_25 : callB Tryz.prog 25 = true := by kernel_rfl
theorem cal_26 : callB Tryz.prog 26 = true := by kernel_rfl
theorem cal_27 : callB Tryz.prog 27 = true := by kernel_rfl
theorem cal_28 : callB Tryz.prog 28 = true := by kernel_rfl
theorem cal_29 : callB Tryz.prog 29 = true := by kernel_rfl
theorem cal_30 : callB Tryz.prog 30 = true := by kernel_rfl
theorem cal_31 : callB Tryz.prog 31 = true := by kernel_rfl
theorem cal_32 : callB Tryz.prog 32 = true := by kernel_rfl
theorem cal_33 : callB Tryz.prog 33 = true := by kernel_rfl
theorem cal_34 : callB Tryz.prog 34 = true := by kernel_rfl
theorem cal_35 : callB Tryz.prog 35 = true := by kernel_rfl
theorem cal_36 : callB Tryz.prog 36 = true := by kernel_rfl
theorem cal_37 : callB Tryz.prog 37 = true := by kernel_rfl
theorem cal_38 : callB Tryz.prog 38 = true := by kernel_rfl
theorem cal_39 : callB Tryz.prog 39 = true := by kernel_rfl
theorem cal_40 : callB Tryz.prog 40 = true := by kernel_rfl
theorem cal_41 : callB Tryz.prog 41 = true := by kernel_rfl
theorem cal_42 : callB Tryz.prog 42 = true := by kernel_rfl
theorem cal_43 : callB Tryz.prog 43 = true := by kernel_rfl
theorem cal_44 : callB Tryz.prog 44 = true := by kernel_rfl
theorem cal_45 : callB Tryz.prog 45 = true := by kernel_rfl
theorem cal_46 : callB Tryz.prog 46 = true := by kernel_rfl
theorem cal_47 : callB Tryz.prog 47 = true := by kernel_rfl
theorem cal_48 : callB Tryz.prog 48 = true := by kernel_rfl
theorem cal_49 : callB Tryz.prog 49 = true := by kernel_rfl
theorem cal_50 : callB Tryz.prog 50 = true := by kernel_rfl
theorem cal_51 : callB Tryz.prog 51 = true := by kernel_rfl
theorem cal_52 : callB Tryz.prog 52 = true := by kernel_rfl
theorem cal_53 : callB Tryz.prog 53 = true := by kernel_rfl
theorem cal_54 : callB Tryz.prog 54 = true := by kernel_rfl
theorem cal_55 : callB Tryz.prog 55 = true := by kernel_rfl
theorem cal_56 : callB Tryz.prog 56 = true := by kernel_rfl
theorem cal_57 : callB Tryz.prog 57 = true := by kernel_rfl
theorem cal_58 : callB Tryz.prog 58 = true := by kernel_rfl
theorem cal_59 : callB Tryz.prog 59 = true := by kernel_rfl
theorem cal_60 : callB Tryz.prog 60 = true := by kernel_rfl
theorem cal_61 : callB Tryz.prog 61 = true := by kernel_rfl
theorem cal_62 : callB Tryz.prog 62 = true := by kernel_rfl
theorem cal_63 : callB Tryz.prog 63 = true := by kernel_rfl
theorem cal_64 : callB Tryz.prog 64 = true := by kernel_rfl
theorem cal_65 : callB Tryz.prog 65 = true := by kernel_rfl
theorem cal_66 : callB Tryz.prog 66 = true := by kernel_rfl
theorem cal_67 : callB Tryz.prog 67 = true := by kernel_rfl
theorem cal_68 : callB Tryz.prog 68 = true := by kernel_rfl
theorem cal_69 : callB Tryz.prog 69 = true := by kernel_rfl
theorem cal_70 : callB Tryz.prog 70 = true := by kernel_rfl
theorem cal_71 : callB Tryz.prog 71 = true := by kernel_rfl
theorem cal_72 : callB Tryz.prog 72 = true := by kernel_rfl
theorem cal_73 : callB Tryz.prog 73 = true := by kernel_rfl
theorem cal_74 : callB Tryz.prog 74 = true := by kernel_rfl
theorem cal_75 : callB Tryz.prog 75 = true := by kernel_rfl
theorem cal_76 : callB Tryz.prog 76 = true := by kernel_rfl
theorem cal_77 : callB Tryz.prog 77 = true := by kernel_rfl
theorem cal_78 : callB Tryz.prog 78 = true := by kernel_rfl
theorem cal_79 : callB Tryz.prog 79 = true := by kernel_rfl
theorem cal_80 : callB Tryz.prog 80 = true := by kernel_rfl
theorem cal_81 : callB Tryz.prog 81 = true := by kernel_rfl
theorem cal_82 : callB Tryz.prog 82 = true := by kernel_rfl
theorem cal_83 : callB Tryz.prog 83 = true := by kernel_rfl
theorem cal_84 : callB Tryz.prog 84 = true := by kernel_rfl
theorem cal_85 : callB Tryz.prog 85 = true := by kernel_rfl
theorem cal_86 : callB Tryz.prog 86 = true := by kernel_rfl
theorem cal_87 : callB Tryz.prog 87 = true := by kernel_rfl
theorem cal_88 : callB Tryz.prog 88 = true := by kernel_rfl
theorem cal_89 : callB Tryz.prog 89 = true := by kernel_rfl
theorem cal_90 : callB Tryz.prog 90 = true := by kernel_rfl
theorem cal_91 : callB Tryz.prog 91 = true := by kernel_rfl
theorem cal_92 : callB Tryz.prog 92 = true := by kernel_rfl
theorem cal_93 : callB Tryz.prog 93 = true := by kernel_rfl
theorem cal_94 : callB Tryz.prog 94 = true := by kernel_rfl
theorem cal_95 : callB Tryz.prog 95 = true := by kernel_rfl
theorem cal_96 : callB Tryz.prog 96 = true := by kernel_rfl
theorem cal_97 : callB Tryz.prog 97 = true := by kernel_rfl
theorem cal_100 : callB Tryz.prog 100 = true := by kernel_rfl
theorem cal_101 : callB Tryz.prog 101 = true := by kernel_rfl
theorem cal_102 : callB Tryz.prog 102 = true := by kernel_rfl
theorem cal_103 : callB Tryz.prog 103 = true := by kernel_rfl
theorem cal_104 : callB Tryz.prog 104 = true := by kernel_rfl
theorem cal_105 : callB Tryz.prog 105 = true := by kernel_rfl
theorem cal_110 : callB Tryz.prog 110 = true := by kernel_rfl
theorem cal_111 : callB Tryz.prog 111 = true := by kernel_rfl
theorem cal_112 : callB Tryz.prog 112 = true := by kernel_rfl
theorem cal_115 : callB Tryz.prog 115 = true := by kernel_rfl
theorem cal_116 : callB Tryz.prog 116 = true := by kernel_rfl
theorem cal_117 : callB Tryz.prog 117 = true := by kernel_rfl
theorem cal_118 : callB Tryz.prog 118 = true := by kernel_rfl
theorem cal_119 : callB Tryz.prog 119 = true := by kernel_rfl
theorem cal_120 : callB Tryz.prog 120 = true := by kernel_rfl
theorem cal_122 : callB Tryz.prog 122 = true := by kernel_rfl
theorem cal_123 : callB Tryz.prog 123 = true := by kernel_rfl
theorem cal_124 : callB Tryz.prog 124 = true := by kernel_rfl
theorem cal_141 : callB Tryz.prog 141 = true := by kernel_rfl
theorem cal_142 : callB Tryz.prog 142 = true := by kernel_rfl
theorem cal_146 : callB Tryz.prog 146 = true := by kernel_rfl
theorem es_22 : elemSz Tryz.prog 22 = some 62 := by kernel_rfl
theorem es_30 : elemSz Tryz.prog 30 = some 6 := by kernel_rfl
theorem es_31 : elemSz Tryz.prog 31 = some 1 := by kernel_rfl
theorem es_46 : elemSz Tryz.prog 46 = some 1 := by kernel_rfl
theorem es_53 : elemSz Tryz.prog 53 = some 61 := by kernel_rfl
theorem es_92 : elemSz Tryz.prog 92 = some 1 := by kernel_rfl
theorem fo_29_0 : fldOff Tryz.prog 29 0 = some 0 := by kernel_rfl
theorem fo_29_1 : fldOff Tryz.prog 29 1 = some 8 := by kernel_rfl
theorem fo_33_0 : fldOff Tryz.prog 33 0 = some 0 := by kernel_rfl
theorem fo_33_1 : fldOff Tryz.prog 33 1 = some 1 := by kernel_rfl
theorem fo_36_0 : fldOff Tryz.prog 36 0 = some 0 := by kernel_rfl
theorem fo_36_1 : fldOff Tryz.prog 36 1 = some 1 := by kernel_rfl
theorem fo_36_2 : fldOff Tryz.prog 36 2 = some 2 := by kernel_rfl
theorem fo_38_0 : fldOff Tryz.prog 38 0 = some 0 := by kernel_rfl
theorem fo_38_1 : fldOff Tryz.prog 38 1 = some 1 := by kernel_rfl
theorem fo_38_2 : fldOff Tryz.prog 38 2 = some 2 := by kernel_rfl
theorem fo_38_3 : fldOff Tryz.prog 38 3 = some 3 := by kernel_rfl
theorem fo_38_4 : fldOff Tryz.prog 38 4 = some 4 := by kernel_rfl
theorem fo_38_5 : fldOff Tryz.prog 38 5 = some 5 := by kernel_rfl
theorem fo_38_6 : fldOff Tryz.prog 38 6 = some 6 := by kernel_rfl
theorem fo_38_7 : fldOff Tryz.prog 38 7 = some 7 := by kernel_rfl
theorem fo_38_8 : fldOff Tryz.prog 38 8 = some 8 := by kernel_rfl
theorem fo_38_9 : fldOff Tryz.prog 38 9 = some 9 := by kernel_rfl
theorem fo_38_10 : fldOff Tryz.prog 38 10 = some 10 := by kernel_rfl
theorem fo_38_11 : fldOff Tryz.prog 38 11 = some 19 := by kernel_rfl
theorem fo_38_12 : fldOff Tryz.prog 38 12 = some 20 := by kernel_rfl
theorem fo_38_13 : fldOff Tryz.prog 38 13 = some 21 := by kernel_rfl
theorem fo_38_14 : fldOff Tryz.prog 38 14 = some 22 := by kernel_rfl
theorem fo_38_15 : fldOff Tryz.prog 38 15 = some 23 := by kernel_rfl
theorem fo_38_16 : fldOff Tryz.prog 38 16 = some 24 := by kernel_rfl
theorem fo_38_17 : fldOff Tryz.prog 38 17 = some 56 := by kernel_rfl
theorem fo_38_18 : fldOff Tryz.prog 38 18 = some 59 := by kernel_rfl
theorem fo_38_19 : fldOff Tryz.prog 38 19 = some 60 := by kernel_rfl
theorem fo_40_0 : fldOff Tryz.prog 40 0 = some 0 := by kernel_rfl
theorem fo_40_1 : fldOff Tryz.prog 40 1 = some 1 := by kernel_rfl
theorem fo_64_0 : fldOff Tryz.prog 64 0 = some 0 := by kernel_rfl
theorem fo_64_1 : fldOff Tryz.prog 64 1 = some 1 := by kernel_rfl
theorem fo_80_0 : fldOff Tryz.prog 80 0 = some 0 := by kernel_rfl
theorem fo_80_1 : fldOff Tryz.prog 80 1 = some 1 := by kernel_rfl
theorem fo_89_0 : fldOff Tryz.prog 89 0 = some 0 := by kernel_rfl
theorem fo_89_1 : fldOff Tryz.prog 89 1 = some 1 := by kernel_rfl
theorem fo_89_2 : fldOff Tryz.prog 89 2 = some 2 := by kernel_rfl
theorem fo_89_3 : fldOff Tryz.prog 89 3 = some 3 := by kernel_rfl
theorem fo_89_4 : fldOff Tryz.prog 89 4 = some 4 := by kernel_rfl
theorem fo_89_5 : fldOff Tryz.prog 89 5 = some 5 := by kernel_rfl
theorem fo_101_0 : fldOff Tryz.prog 101 0 = some 0 := by kernel_rfl
theorem fo_101_1 : fldOff Tryz.prog 101 1 = some 1 := by kernel_rfl
theorem fo_128_0 : fldOff Tryz.prog 128 0 = some 0 := by kernel_rfl
theorem fo_128_1 : fldOff Tryz.prog 128 1 = some 1 := by kernel_rfl
theorem fo_141_0 : fldOff Tryz.prog 141 0 = some 0 := by kernel_rfl
theorem fo_141_1 : fldOff Tryz.prog 141 1 = some 1 := by kernel_rfl
theorem ifo_3 : (Tryz.prog.info? 3).map (fun i => (i.zero, i.size, i.bytes)) = some (some (.int .i64 0), 1, 8) := by kernel_rfl
theorem ifo_5 : (Tryz.prog.info? 5).map (fun i => (i.zero, i.size, i.bytes)) = some (some (.int .u8 0), 1, 1) := by kernel_rfl
theorem ifo_9 : (Tryz.prog.info? 9).map (fun i => (i.zero, i.size, i.bytes)) = some (some (.string ⟨#[]⟩), 1, 16) := by kernel_rfl
theorem ifo_38 : (Tryz.prog.info? 38).map (fun i => (i.zero, i.size, i.bytes)) = some (some (.agg #[(.int .i64 0), (.int .i64 0), (.int .i64 0), (.int .i64 0), (.int .i64 0), (.int .i64 0), (.int .i64 0), (.int .i64 0), (.int .i64 0), (.int .i64 0), (.int .i64 0), (.int .i64 0), (.int .i64 0), (.int .i64 0), (.int .i64 0), (.int .i64 0), (.int .i64 0), (.int .i64 0), (.int .i64 0), (.slice none 0 0), (.slice none 0 0), (.string ⟨#[]⟩), (.int .i64 0), (.int .i64 0), (.int .i64 0), (.bool false), (.int .i64 0), (.bool false), (.int .i64 0), (.bool false), (.int .i64 0), (.bool false), (.int .i64 0), (.bool false), (.int .i64 0), (.bool false), (.int .i64 0), (.bool false), (.int .i64 0), (.bool false), (.int .i64 0), (.bool false), (.int .i64 0), (.bool false), (.int .i64 0), (.bool false), (.int .i64 0), (.bool false), (.int .i64 0), (.bool false), (.int .i64 0), (.bool false), (.int .i64 0), (.bool false), (.int .i64 0), (.bool false), (.int .i64 0), (.int .i64 0), (.int .i64 0), (.int .i64 0), (.string ⟨#[]⟩)]), 61, 536) := by kernel_rfl
theorem ifo_89 : (Tryz.prog.info? 89).map (fun i => (i.zero, i.size, i.bytes)) = some (some (.agg #[(.int .i64 0), (.int .i64 0), (.string ⟨#[]⟩), (.int .i64 0), (.bool false), (.bool false)]), 6, 48) := by kernel_rfl
theorem ifz_3 : (Tryz.prog.info? 3).map (fun i => (i.zero, i.size)) = some (some (.int .i64 0), 1) := by kernel_rfl
theorem ifz_5 : (Tryz.prog.info? 5).map (fun i => (i.zero, i.size)) = some (some (.int .u8 0), 1) := by kernel_rfl
theorem ifz_9 : (Tryz.prog.info? 9).map (fun i => (i.zero, i.size)) = some (some (.string ⟨#[]⟩), 1) := by kernel_rfl
theorem ifz_38 : (Tryz.prog.info? 38).map (fun i => (i.zero, i.size)) = some (some (.agg #[(.int .i64 0), (.int .i64 0), (.int .i64 0), (.int .i64 0), (.int .i64 0), (.int .i64 0), (.int .i64 0), (.int .i64 0), (.int .i64 0), (.int .i64 0), (.int .i64 0), (.int .i64 0), (.int .i64 0), (.int .i64 0), (.int .i64 0), (.int .i64 0), (.int .i64 0), (.int .i64 0), (.int .i64 0), (.slice none 0 0), (.slice none 0 0), (.string ⟨#[]⟩), (.int .i64 0), (.int .i64 0), (.int .i64 0), (.bool false), (.int .i64 0), (.bool false), (.int .i64 0), (.bool false), (.int .i64 0), (.bool false), (.int .i64 0), (.bool false), (.int .i64 0), (.bool false), (.int .i64 0), (.bool false), (.int .i64 0), (.bool false), (.int .i64 0), (.bool false), (.int .i64 0), (.bool false), (.int .i64 0), (.bool false), (.int .i64 0), (.bool false), (.int .i64 0), (.bool false), (.int .i64 0), (.bool false), (.int .i64 0), (.bool false), (.int .i64 0), (.bool false), (.int .i64 0), (.int .i64 0), (.int .i64 0), (.int .i64 0), (.string ⟨#[]⟩)]), 61) := by kernel_rfl
theorem ifz_89 : (Tryz.prog.info? 89).map (fun i => (i.zero, i.size)) = some (some (.agg #[(.int .i64 0), (.int .i64 0), (.string ⟨#[]⟩), (.int .i64 0), (.bool false), (.bool false)]), 6) := by kernel_rfl
theorem ifz_93 : (Tryz.prog.info? 93).map (fun i => (i.zero, i.size)) = some (some (.pointer none), 1) := by kernel_rfl
theorem mix : Tryz.prog.follows .mixedOrders = true := by kernel_rfl
theorem nif_25 : notIface Tryz.prog 25 = true := by kernel_rfl
theorem pl_36_0_1_2 : structPl Tryz.prog 36 [0, 1, 2] = some [(0, 1), (1, 1), (2, 1)] := by kernel_rfl
theorem pl_38_ : structPl Tryz.prog 38 [] = some [] := by kernel_rfl
theorem pl_38_0_1 : structPl Tryz.prog 38 [0, 1] = some [(0, 1), (1, 1)] := by kernel_rfl
theorem pl_38_0_1_2_3_4_5_6_7_8_9 : structPl Tryz.prog 38 [0, 1, 2, 3, 4, 5, 6, 7, 8, 9] = some [(0, 1), (1, 1), (2, 1), (3, 1), (4, 1), (5, 1), (6, 1), (7, 1), (8, 1), (9, 1)] := by kernel_rfl
theorem pl_38_0_1_5 : structPl Tryz.prog 38 [0, 1, 5] = some [(0, 1), (1, 1), (5, 1)] := by kernel_rfl
theorem pl_64_ : structPl Tryz.prog 64 [] = some [] := by kernel_rfl
theorem pl_80_0_1_2 : structPl Tryz.prog 80 [0, 1, 2] = some [(0, 1), (1, 1), (2, 1)] := by kernel_rfl
theorem pl_89_0_1 : structPl Tryz.prog 89 [0, 1] = some [(0, 1), (1, 1)] := by kernel_rfl
theorem pl_89_0_1_2 : structPl Tryz.prog 89 [0, 1, 2] = some [(0, 1), (1, 1), (2, 1)] := by kernel_rfl
theorem pl_128_0 : structPl Tryz.prog 128 [0] = some [(0, 1)] := by kernel_rfl
theorem pl_141_0 : structPl Tryz.prog 141 [0] = some [(0, 1)] := by kernel_rfl
theorem sz_3 : szOf Tryz.prog 3 = some 1 := by kernel_rfl
theorem sz_4 : szOf Tryz.prog 4 = some 1 := by kernel_rfl
theorem sz_9 : szOf Tryz.prog 9 = some 1 := by kernel_rfl
theorem sz_29 : szOf Tryz.prog 29 = some 9 := by kernel_rfl
theorem sz_30 : szOf Tryz.prog 30 = some 1 := by kernel_rfl
theorem sz_31 : szOf Tryz.prog 31 = some 1 := by kernel_rfl
theorem sz_33 : szOf Tryz.prog 33 = some 2 := by kernel_rfl
theorem sz_34 : szOf Tryz.prog 34 = some 32 := by kernel_rfl
theorem sz_36 : szOf Tryz.prog 36 = some 3 := by kernel_rfl
theorem sz_38 : szOf Tryz.prog 38 = some 61 := by kernel_rfl
theorem sz_40 : szOf Tryz.prog 40 = some 62 := by kernel_rfl
theorem sz_89 : szOf Tryz.prog 89 = some 6 := by kernel_rfl
theorem sz_90 : szOf Tryz.prog 90 = some 1 := by kernel_rfl
theorem sz_98 : szOf Tryz.prog 98 = some 1 := by kernel_rfl
theorem sz_99 : szOf Tryz.prog 99 = some 1 := by kernel_rfl
theorem zr_4 : zeroOf Tryz.prog 4 = some (some (.bool false)) := by kernel_rfl
theorem zr_9 : zeroOf Tryz.prog 9 = some (some (.string ⟨#[]⟩)) := by kernel_rfl
theorem zr_33 : zeroOf Tryz.prog 33 = some (some (.agg #[(.int .i64 0), (.bool false)])) := by kernel_rfl
theorem zr_36 : zeroOf Tryz.prog 36 = some (some (.agg #[(.int .i64 0), (.int .i64 0), (.int .i64 0)])) := by kernel_rfl
theorem zr_38 : zeroOf Tryz.prog 38 = some (some (.agg #[(.int .i64 0), (.int .i64 0), (.int .i64 0), (.int .i64 0), (.int .i64 0), (.int .i64 0), (.int .i64 0), (.int .i64 0), (.int .i64 0), (.int .i64 0), (.int .i64 0), (.int .i64 0), (.int .i64 0), (.int .i64 0), (.int .i64 0), (.int .i64 0), (.int .i64 0), (.int .i64 0), (.int .i64 0), (.slice none 0 0), (.slice none 0 0), (.string ⟨#[]⟩), (.int .i64 0), (.int .i64 0), (.int .i64 0), (.bool false), (.int .i64 0), (.bool false), (.int .i64 0), (.bool false), (.int .i64 0), (.bool false), (.int .i64 0), (.bool false), (.int .i64 0), (.bool false), (.int .i64 0), (.bool false), (.int .i64 0), (.bool false), (.int .i64 0), (.bool false), (.int .i64 0), (.bool false), (.int .i64 0), (.bool false), (.int .i64 0), (.bool false), (.int .i64 0), (.bool false), (.int .i64 0), (.bool false), (.int .i64 0), (.bool false), (.int .i64 0), (.bool false), (.int .i64 0), (.int .i64 0), (.int .i64 0), (.int .i64 0), (.string ⟨#[]⟩)])) := by kernel_rfl
theorem zr_64 : zeroOf Tryz.prog 64 = some (some (.agg #[(.slice none 0 0), (.slice none 0 0), (.slice none 0 0), (.slice none 0 0), (.slice none 0 0), (.slice none 0 0), (.int .i64 0)])) := by kernel_rfl
theorem zr_80 : zeroOf Tryz.prog 80 = some (some (.agg #[(.map none), (.map none), (.map none), (.int .i64 0)])) := by kernel_rfl
theorem zr_89 : zeroOf Tryz.prog 89 = some (some (.agg #[(.int .i64 0), (.int .i64 0), (.string ⟨#[]⟩), (.int .i64 0), (.bool false), (.bool false)])) := by kernel_rfl
theorem zr_90 : zeroOf Tryz.prog 90 = some (some (.pointer none)) := by kernel_rfl
theorem zr_101 : zeroOf Tryz.prog 101 = some (some (.agg #[(.pointer none), (.slice none 0 0)])) := by kernel_rfl
theorem zr_128 : zeroOf Tryz.prog 128 = some (some (.agg #[(.string ⟨#[]⟩), (.bool false)])) := by kernel_rfl
theorem zr_141 : zeroOf Tryz.prog 141 = some (some (.agg #[(.string ⟨#[]⟩), (.bool false)])) := by kernel_rfl
end Go.Proofs.YtcbdclhoekokpaaGreatDoor
