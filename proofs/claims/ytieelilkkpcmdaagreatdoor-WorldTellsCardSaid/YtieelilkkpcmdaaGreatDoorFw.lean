/- Closed facts of the program: offsets, sizes, zero values. -/
import Derived.Test.YtieelilkkpcmdaaGreatDoorShf
namespace Go.Proofs.YtieelilkkpcmdaaGreatDoor
open Go.RowKit M
theorem ag_3 : aggB Tryz.prog 3 = some false := by kernel_rfl
theorem ag_5 : aggB Tryz.prog 5 = some false := by kernel_rfl
theorem ag_9 : aggB Tryz.prog 9 = some false := by kernel_rfl
theorem ag_28 : aggB Tryz.prog 28 = some false := by kernel_rfl
theorem ag_29 : aggB Tryz.prog 29 = some false := by kernel_rfl
theorem ag_34 : aggB Tryz.prog 34 = some true := by kernel_rfl
theorem ag_60 : aggB Tryz.prog 60 = some false := by kernel_rfl
theorem ag_61 : aggB Tryz.prog 61 = some false := by kernel_rfl
theorem ag_69 : aggB Tryz.prog 69 = some false := by kernel_rfl
theorem ag_71 : aggB Tryz.prog 71 = some false := by kernel_rfl
theorem ag_79 : aggB Tryz.prog 79 = some false := by kernel_rfl
theorem ag_81 : aggB Tryz.prog 81 = some false := by kernel_rfl
theorem ag_87 : aggB Tryz.prog 87 = some true := by kernel_rfl
theorem asz_31 : allSz Tryz.prog 31 = true := by kernel_rfl
theorem asz_63 : allSz Tryz.prog 63 = true := by kernel_rfl
theorem asz_119 : allSz Tryz.prog 119 = true := by kernel_rfl
theorem asz_122 : allSz Tryz.prog 122 = true := by kernel_rfl
theorem cal_5 : callB Tryz.prog 5 = true := by kernel_rfl
theorem cal_6 : callB Tryz.prog 6 = true := by kernel_rfl
theorem cal_7 : callB Tryz.prog 7 = true := by kernel_rfl
theorem cal_8 : callB Tryz.prog 8 = true := by kernel_rfl
theorem cal_9 : callB Tryz.prog 9 = true := by kernel_rfl
theorem cal_10 : callB Tryz.prog 10 = true := by kernel_rfl
theorem cal_11 : callB Tryz.prog 11 = true := by kernel_rfl
theorem cal_12 : callB Tryz.prog 12 = true := by kernel_rfl
theorem cal_13 : callB Tryz.prog 13 = true := by kernel_rfl
theorem cal_14 : callB Tryz.prog 14 = true := by kernel_rfl
theorem cal_15 : callB Tryz.prog 15 = true := by kernel_rfl
theorem cal_16 : callB Tryz.prog 16 = true := by kernel_rfl
theorem cal_17 : callB Tryz.prog 17 = true := by kernel_rfl
theorem cal_18 : callB Tryz.prog 18 = true := by kernel_rfl
theorem cal_19 : callB Tryz.prog 19 = true := by kernel_rfl
theorem cal_20 : callB Tryz.prog 20 = true := by kernel_rfl
theorem cal_21 : callB Tryz.prog 21 = true := by kernel_rfl
theorem cal_22 : callB Tryz.prog 22 = true := by kernel_rfl
theorem cal_23 : callB Tryz.prog 23 = true := by kernel_rfl
theorem cal_24 : callB Tryz.prog 24 = true := by kernel_rfl
theorem cal_25 : callB Tryz.prog 25 = true := by kernel_rfl
theorem cal_26 : callB Tryz.prog 26 = true := by kernel_rfl
theorem cal_27 : callB Tryz.prog 27 = true := by kernel_rfl
theorem cal_28 : callB Tryz.prog 28 = true := by kernel_rfl
theorem cal_29 : callB Tryz.prog 29 = true := by kernel_rfl
theorem cal_30 : callB Tryz.prog 30 = true := by kernel_rfl
theorem cal_31 : callB Tryz.prog 31 = true := by kernel_rfl
theorem cal_32 : callB Tryz.prog 32 = true := by kernel_rfl
theorem cal_33 : callB Tryz.prog 33 = true := by kernel_rfl
theorem cal_34 : callB Tryz.prog 34 = true := by kernel_rfl
theorem cal_35 : callB Tryz.prog 35 = true := by kernel_rfl
theorem cal_36 : callB Tryz.prog 36 = true := by kernel_rfl
theorem cal_37 : callB Tryz.prog 37 = true := by kernel_rfl
theorem cal_38 : callB Tryz.prog 38 = true := by kernel_rfl
theorem cal_39 : callB Tryz.prog 39 = true := by kernel_rfl
theorem cal_40 : callB Tryz.prog 40 = true := by kernel_rfl
theorem cal_41 : callB Tryz.prog 41 = true := by kernel_rfl
theorem cal_42 : callB Tryz.prog 42 = true := by kernel_rfl
theorem cal_43 : callB Tryz.prog 43 = true := by kernel_rfl
theorem cal_44 : callB Tryz.prog 44 = true := by kernel_rfl
theorem cal_45 : callB Tryz.prog 45 = true := by kernel_rfl
theorem cal_46 : callB Tryz.prog 46 = true := by kernel_rfl
theorem cal_47 : callB Tryz.prog 47 = true := by kernel_rfl
theorem cal_48 : callB Tryz.prog 48 = true := by kernel_rfl
theorem cal_49 : callB Tryz.prog 49 = true := by kernel_rfl
theorem cal_50 : callB Tryz.prog 50 = true := by kernel_rfl
theorem cal_51 : callB Tryz.prog 51 = true := by kernel_rfl
theorem cal_52 : callB Tryz.prog 52 = true := by kernel_rfl
theorem cal_53 : callB Tryz.prog 53 = true := by kernel_rfl
theorem cal_54 : callB Tryz.prog 54 = true := by kernel_rfl
theorem cal_55 : callB Tryz.prog 55 = true := by kernel_rfl
theorem cal_56 : callB Tryz.prog 56 = true := by kernel_rfl
theorem cal_57 : callB Tryz.prog 57 = true := by kernel_rfl
theorem cal_58 : callB Tryz.prog 58 = true := by kernel_rfl
theorem cal_59 : callB Tryz.prog 59 = true := by kernel_rfl
theorem cal_60 : callB Tryz.prog 60 = true := by kernel_rfl
theorem cal_61 : callB Tryz.prog 61 = true := by kernel_rfl
theorem cal_62 : callB Tryz.prog 62 = true := by kernel_rfl
theorem cal_63 : callB Tryz.prog 63 = true := by kernel_rfl
theorem cal_64 : callB Tryz.prog 64 = true := by kernel_rfl
theorem cal_65 : callB Tryz.prog 65 = true := by kernel_rfl
theorem cal_66 : callB Tryz.prog 66 = true := by kernel_rfl
theorem cal_67 : callB Tryz.prog 67 = true := by kernel_rfl
theorem cal_68 : callB Tryz.prog 68 = true := by kernel_rfl
theorem cal_69 : callB Tryz.prog 69 = true := by kernel_rfl
theorem cal_70 : callB Tryz.prog 70 = true := by kernel_rfl
theorem cal_71 : callB Tryz.prog 71 = true := by kernel_rfl
theorem cal_72 : callB Tryz.prog 72 = true := by kernel_rfl
theorem cal_73 : callB Tryz.prog 73 = true := by kernel_rfl
theorem cal_74 : callB Tryz.prog 74 = true := by kernel_rfl
theorem cal_75 : callB Tryz.prog 75 = true := by kernel_rfl
theorem cal_76 : callB Tryz.prog 76 = true := by kernel_rfl
theorem cal_81 : callB Tryz.prog 81 = true := by kernel_rfl
theorem cal_82 : callB Tryz.prog 82 = true := by kernel_rfl
theorem cal_84 : callB Tryz.prog 84 = true := by kernel_rfl
theorem cal_87 : callB Tryz.prog 87 = true := by kernel_rfl
theorem cal_88 : callB Tryz.prog 88 = true := by kernel_rfl
theorem cal_89 : callB Tryz.prog 89 = true := by kernel_rfl
theorem cal_90 : callB Tryz.prog 90 = true := by kernel_rfl
theorem cal_96 : callB Tryz.prog 96 = true := by kernel_rfl
theorem cal_108 : callB Tryz.prog 108 = true := by kernel_rfl
theorem cal_109 : callB Tryz.prog 109 = true := by kernel_rfl
theorem cal_110 : callB Tryz.prog 110 = true := by kernel_rfl
theorem cal_112 : callB Tryz.prog 112 = true := by kernel_rfl
theorem cal_113 : callB Tryz.prog 113 = true := by kernel_rfl
theorem es_22 : elemSz Tryz.prog 22 = some 6 := by kernel_rfl
theorem es_28 : elemSz Tryz.prog 28 = some 1 := by kernel_rfl
theorem es_29 : elemSz Tryz.prog 29 = some 1 := by kernel_rfl
theorem es_46 : elemSz Tryz.prog 46 = some 3 := by kernel_rfl
theorem es_69 : elemSz Tryz.prog 69 = some 1 := by kernel_rfl
theorem fo_31_0 : fldOff Tryz.prog 31 0 = some 0 := by kernel_rfl
theorem fo_31_1 : fldOff Tryz.prog 31 1 = some 1 := by kernel_rfl
theorem fo_31_2 : fldOff Tryz.prog 31 2 = some 2 := by kernel_rfl
theorem fo_31_3 : fldOff Tryz.prog 31 3 = some 3 := by kernel_rfl
theorem fo_31_4 : fldOff Tryz.prog 31 4 = some 4 := by kernel_rfl
theorem fo_31_5 : fldOff Tryz.prog 31 5 = some 5 := by kernel_rfl
theorem fo_31_6 : fldOff Tryz.prog 31 6 = some 6 := by kernel_rfl
theorem fo_34_0 : fldOff Tryz.prog 34 0 = some 0 := by kernel_rfl
theorem fo_34_1 : fldOff Tryz.prog 34 1 = some 1 := by kernel_rfl
theorem fo_34_2 : fldOff Tryz.prog 34 2 = some 2 := by kernel_rfl
theorem fo_34_3 : fldOff Tryz.prog 34 3 = some 3 := by kernel_rfl
theorem fo_34_4 : fldOff Tryz.prog 34 4 = some 4 := by kernel_rfl
theorem fo_34_5 : fldOff Tryz.prog 34 5 = some 5 := by kernel_rfl
theorem fo_49_0 : fldOff Tryz.prog 49 0 = some 0 := by kernel_rfl
theorem fo_49_1 : fldOff Tryz.prog 49 1 = some 1 := by kernel_rfl
theorem fo_49_2 : fldOff Tryz.prog 49 2 = some 2 := by kernel_rfl
theorem fo_63_0 : fldOff Tryz.prog 63 0 = some 0 := by kernel_rfl
theorem fo_63_1 : fldOff Tryz.prog 63 1 = some 1 := by kernel_rfl
theorem fo_63_2 : fldOff Tryz.prog 63 2 = some 2 := by kernel_rfl
theorem fo_63_3 : fldOff Tryz.prog 63 3 = some 3 := by kernel_rfl
theorem fo_73_0 : fldOff Tryz.prog 73 0 = some 0 := by kernel_rfl
theorem fo_73_1 : fldOff Tryz.prog 73 1 = some 1 := by kernel_rfl
theorem fo_119_0 : fldOff Tryz.prog 119 0 = some 0 := by kernel_rfl
theorem fo_119_1 : fldOff Tryz.prog 119 1 = some 1 := by kernel_rfl
theorem fo_122_0 : fldOff Tryz.prog 122 0 = some 0 := by kernel_rfl
theorem fo_122_1 : fldOff Tryz.prog 122 1 = some 1 := by kernel_rfl
theorem ifo_3 : (Tryz.prog.info? 3).map (fun i => (i.zero, i.size, i.bytes)) = some (some (.int .i64 0), 1, 8) := by kernel_rfl
theorem ifo_5 : (Tryz.prog.info? 5).map (fun i => (i.zero, i.size, i.bytes)) = some (some (.int .u8 0), 1, 1) := by kernel_rfl
theorem ifo_9 : (Tryz.prog.info? 9).map (fun i => (i.zero, i.size, i.bytes)) = some (some (.string ⟨#[]⟩), 1, 16) := by kernel_rfl
theorem ifo_69 : (Tryz.prog.info? 69).map (fun i => (i.zero, i.size, i.bytes)) = some (some (.slice none 0 0), 1, 24) := by kernel_rfl
theorem ifz_3 : (Tryz.prog.info? 3).map (fun i => (i.zero, i.size)) = some (some (.int .i64 0), 1) := by kernel_rfl
theorem ifz_5 : (Tryz.prog.info? 5).map (fun i => (i.zero, i.size)) = some (some (.int .u8 0), 1) := by kernel_rfl
theorem ifz_9 : (Tryz.prog.info? 9).map (fun i => (i.zero, i.size)) = some (some (.string ⟨#[]⟩), 1) := by kernel_rfl
theorem ifz_69 : (Tryz.prog.info? 69).map (fun i => (i.zero, i.size)) = some (some (.slice none 0 0), 1) := by kernel_rfl
theorem mix : Tryz.prog.follows .mixedOrders = true := by kernel_rfl
theorem nif_25 : notIface Tryz.prog 25 = true := by kernel_rfl
theorem nif_79 : notIface Tryz.prog 79 = true := by kernel_rfl
theorem pl_31_ : structPl Tryz.prog 31 [] = some [] := by kernel_rfl
theorem pl_63_0_1_2 : structPl Tryz.prog 63 [0, 1, 2] = some [(0, 1), (1, 1), (2, 1)] := by kernel_rfl
theorem pl_119_0 : structPl Tryz.prog 119 [0] = some [(0, 1)] := by kernel_rfl
theorem pl_122_0 : structPl Tryz.prog 122 [0] = some [(0, 1)] := by kernel_rfl
theorem sz_3 : szOf Tryz.prog 3 = some 1 := by kernel_rfl
theorem sz_4 : szOf Tryz.prog 4 = some 1 := by kernel_rfl
theorem sz_5 : szOf Tryz.prog 5 = some 1 := by kernel_rfl
theorem sz_9 : szOf Tryz.prog 9 = some 1 := by kernel_rfl
theorem sz_28 : szOf Tryz.prog 28 = some 1 := by kernel_rfl
theorem sz_29 : szOf Tryz.prog 29 = some 1 := by kernel_rfl
theorem sz_34 : szOf Tryz.prog 34 = some 6 := by kernel_rfl
theorem sz_69 : szOf Tryz.prog 69 = some 1 := by kernel_rfl
theorem sz_71 : szOf Tryz.prog 71 = some 1 := by kernel_rfl
theorem sz_81 : szOf Tryz.prog 81 = some 1 := by kernel_rfl
theorem sz_87 : szOf Tryz.prog 87 = some 64 := by kernel_rfl
theorem zr_9 : zeroOf Tryz.prog 9 = some (some (.string ⟨#[]⟩)) := by kernel_rfl
theorem zr_31 : zeroOf Tryz.prog 31 = some (some (.agg #[(.slice none 0 0), (.slice none 0 0), (.slice none 0 0), (.slice none 0 0), (.slice none 0 0), (.slice none 0 0), (.int .i64 0)])) := by kernel_rfl
theorem zr_63 : zeroOf Tryz.prog 63 = some (some (.agg #[(.map none), (.map none), (.map none), (.int .i64 0)])) := by kernel_rfl
theorem zr_73 : zeroOf Tryz.prog 73 = some (some (.agg #[(.pointer none), (.slice none 0 0)])) := by kernel_rfl
theorem zr_79 : zeroOf Tryz.prog 79 = some (some (.map none)) := by kernel_rfl
theorem zr_119 : zeroOf Tryz.prog 119 = some (some (.agg #[(.string ⟨#[]⟩), (.bool false)])) := by kernel_rfl
theorem zr_122 : zeroOf Tryz.prog 122 = some (some (.agg #[(.string ⟨#[]⟩), (.bool false)])) := by kernel_rfl
end Go.Proofs.YtieelilkkpcmdaaGreatDoor
