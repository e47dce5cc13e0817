/- Closed facts of the program: offsets, sizes, zero values. -/
import Derived.Test.YtieelilkkpcmdaaDoorShf
namespace Go.Proofs.YtieelilkkpcmdaaDoor
open Go.RowKit M
theorem ag_3 : aggB Tryd.prog 3 = some false := by kernel_rfl
theorem ag_4 : aggB Tryd.prog 4 = some false := by kernel_rfl
theorem ag_5 : aggB Tryd.prog 5 = some false := by kernel_rfl
theorem ag_9 : aggB Tryd.prog 9 = some false := by kernel_rfl
theorem ag_24 : aggB Tryd.prog 24 = some true := by kernel_rfl
theorem ag_40 : aggB Tryd.prog 40 = some false := by kernel_rfl
theorem ag_55 : aggB Tryd.prog 55 = some true := by kernel_rfl
theorem ag_65 : aggB Tryd.prog 65 = some false := by kernel_rfl
theorem ag_66 : aggB Tryd.prog 66 = some false := by kernel_rfl
theorem ag_71 : aggB Tryd.prog 71 = some true := by kernel_rfl
theorem ag_72 : aggB Tryd.prog 72 = some false := by kernel_rfl
theorem ag_73 : aggB Tryd.prog 73 = some false := by kernel_rfl
theorem ag_74 : aggB Tryd.prog 74 = some false := by kernel_rfl
theorem ag_78 : aggB Tryd.prog 78 = some false := by kernel_rfl
theorem asz_55 : allSz Tryd.prog 55 = true := by kernel_rfl
theorem asz_68 : allSz Tryd.prog 68 = true := by kernel_rfl
theorem asz_126 : allSz Tryd.prog 126 = true := by kernel_rfl
theorem cal_9 : callB Tryd.prog 9 = true := by kernel_rfl
theorem cal_10 : callB Tryd.prog 10 = true := by kernel_rfl
theorem cal_11 : callB Tryd.prog 11 = true := by kernel_rfl
theorem cal_12 : callB Tryd.prog 12 = true := by kernel_rfl
theorem cal_13 : callB Tryd.prog 13 = true := by kernel_rfl
theorem cal_14 : callB Tryd.prog 14 = true := by kernel_rfl
theorem cal_15 : callB Tryd.prog 15 = true := by kernel_rfl
theorem cal_16 : callB Tryd.prog 16 = true := by kernel_rfl
theorem cal_17 : callB Tryd.prog 17 = true := by kernel_rfl
theorem cal_18 : callB Tryd.prog 18 = true := by kernel_rfl
theorem cal_19 : callB Tryd.prog 19 = true := by kernel_rfl
theorem cal_20 : callB Tryd.prog 20 = true := by kernel_rfl
theorem cal_21 : callB Tryd.prog 21 = true := by kernel_rfl
theorem cal_22 : callB Tryd.prog 22 = true := by kernel_rfl
theorem cal_23 : callB Tryd.prog 23 = true := by kernel_rfl
theorem cal_24 : callB Tryd.prog 24 = true := by kernel_rfl
theorem cal_25 : callB Tryd.prog 25 = true := by kernel_rfl
theorem cal_26 : callB Tryd.prog 26 = true := by kernel_rfl
theorem cal_27 : callB Tryd.prog 27 = true := by kernel_rfl
theorem cal_28 : callB Tryd.prog 28 = true := by kernel_rfl
theorem cal_29 : callB Tryd.prog 29 = true := by kernel_rfl
theorem cal_30 : callB Tryd.prog 30 = true := by kernel_rfl
theorem cal_31 : callB Tryd.prog 31 = true := by kernel_rfl
theorem cal_32 : callB Tryd.prog 32 = true := by kernel_rfl
theorem cal_33 : callB Tryd.prog 33 = true := by kernel_rfl
theorem cal_34 : callB Tryd.prog 34 = true := by kernel_rfl
theorem cal_35 : callB Tryd.prog 35 = true := by kernel_rfl
theorem cal_36 : callB Tryd.prog 36 = true := by kernel_rfl
theorem cal_37 : callB Tryd.prog 37 = true := by kernel_rfl
theorem cal_38 : callB Tryd.prog 38 = true := by kernel_rfl
theorem cal_39 : callB Tryd.prog 39 = true := by kernel_rfl
theorem cal_40 : callB Tryd.prog 40 = true := by kernel_rfl
theorem cal_41 : callB Tryd.prog 41 = true := by kernel_rfl
theorem cal_42 : callB Tryd.prog 42 = true := by kernel_rfl
theorem cal_43 : callB Tryd.prog 43 = true := by kernel_rfl
theorem cal_44 : callB Tryd.prog 44 = true := by kernel_rfl
theorem cal_45 : callB Tryd.prog 45 = true := by kernel_rfl
theorem cal_46 : callB Tryd.prog 46 = true := by kernel_rfl
theorem cal_47 : callB Tryd.prog 47 = true := by kernel_rfl
theorem cal_48 : callB Tryd.prog 48 = true := by kernel_rfl
theorem cal_49 : callB Tryd.prog 49 = true := by kernel_rfl
theorem cal_50 : callB Tryd.prog 50 = true := by kernel_rfl
theorem cal_51 : callB Tryd.prog 51 = true := by kernel_rfl
theorem cal_52 : callB Tryd.prog 52 = true := by kernel_rfl
theorem cal_53 : callB Tryd.prog 53 = true := by kernel_rfl
theorem cal_54 : callB Tryd.prog 54 = true := by kernel_rfl
theorem cal_55 : callB Tryd.prog 55 = true := by kernel_rfl
theorem cal_56 : callB Tryd.prog 56 = true := by kernel_rfl
theorem cal_57 : callB Tryd.prog 57 = true := by kernel_rfl
theorem cal_58 : callB Tryd.prog 58 = true := by kernel_rfl
theorem cal_59 : callB Tryd.prog 59 = true := by kernel_rfl
theorem cal_60 : callB Tryd.prog 60 = true := by kernel_rfl
theorem cal_61 : callB Tryd.prog 61 = true := by kernel_rfl
theorem cal_62 : callB Tryd.prog 62 = true := by kernel_rfl
theorem cal_63 : callB Tryd.prog 63 = true := by kernel_rfl
theorem cal_64 : callB Tryd.prog 64 = true := by kernel_rfl
theorem cal_65 : callB Tryd.prog 65 = true := by kernel_rfl
theorem cal_66 : callB Tryd.prog 66 = true := by kernel_rfl
theorem cal_73 : callB Tryd.prog 73 = true := by kernel_rfl
theorem cal_76 : callB Tryd.prog 76 = true := by kernel_rfl
theorem cal_77 : callB Tryd.prog 77 = true := by kernel_rfl
theorem cal_78 : callB Tryd.prog 78 = true := by kernel_rfl
theorem cal_79 : callB Tryd.prog 79 = true := by kernel_rfl
theorem cal_95 : callB Tryd.prog 95 = true := by kernel_rfl
theorem cal_96 : callB Tryd.prog 96 = true := by kernel_rfl
theorem cal_97 : callB Tryd.prog 97 = true := by kernel_rfl
theorem cal_98 : callB Tryd.prog 98 = true := by kernel_rfl
theorem es_22 : elemSz Tryd.prog 22 = some 6 := by kernel_rfl
theorem es_40 : elemSz Tryd.prog 40 = some 1 := by kernel_rfl
theorem es_44 : elemSz Tryd.prog 44 = some 3 := by kernel_rfl
theorem es_52 : elemSz Tryd.prog 52 = some 6 := by kernel_rfl
theorem fo_24_0 : fldOff Tryd.prog 24 0 = some 0 := by kernel_rfl
theorem fo_24_1 : fldOff Tryd.prog 24 1 = some 1 := by kernel_rfl
theorem fo_24_2 : fldOff Tryd.prog 24 2 = some 2 := by kernel_rfl
theorem fo_24_3 : fldOff Tryd.prog 24 3 = some 3 := by kernel_rfl
theorem fo_24_4 : fldOff Tryd.prog 24 4 = some 4 := by kernel_rfl
theorem fo_24_5 : fldOff Tryd.prog 24 5 = some 5 := by kernel_rfl
theorem fo_47_0 : fldOff Tryd.prog 47 0 = some 0 := by kernel_rfl
theorem fo_47_1 : fldOff Tryd.prog 47 1 = some 1 := by kernel_rfl
theorem fo_47_2 : fldOff Tryd.prog 47 2 = some 2 := by kernel_rfl
theorem fo_55_0 : fldOff Tryd.prog 55 0 = some 0 := by kernel_rfl
theorem fo_55_1 : fldOff Tryd.prog 55 1 = some 1 := by kernel_rfl
theorem fo_55_2 : fldOff Tryd.prog 55 2 = some 2 := by kernel_rfl
theorem fo_55_3 : fldOff Tryd.prog 55 3 = some 3 := by kernel_rfl
theorem fo_55_4 : fldOff Tryd.prog 55 4 = some 4 := by kernel_rfl
theorem fo_68_0 : fldOff Tryd.prog 68 0 = some 0 := by kernel_rfl
theorem fo_68_1 : fldOff Tryd.prog 68 1 = some 1 := by kernel_rfl
theorem fo_68_2 : fldOff Tryd.prog 68 2 = some 2 := by kernel_rfl
theorem fo_68_3 : fldOff Tryd.prog 68 3 = some 3 := by kernel_rfl
theorem fo_76_0 : fldOff Tryd.prog 76 0 = some 0 := by kernel_rfl
theorem fo_76_1 : fldOff Tryd.prog 76 1 = some 1 := by kernel_rfl
theorem fo_126_0 : fldOff Tryd.prog 126 0 = some 0 := by kernel_rfl
theorem fo_126_1 : fldOff Tryd.prog 126 1 = some 1 := by kernel_rfl
theorem ifo_3 : (Tryd.prog.info? 3).map (fun i => (i.zero, i.size, i.bytes)) = some (some (.int .i64 0), 1, 8) := by kernel_rfl
theorem ifo_5 : (Tryd.prog.info? 5).map (fun i => (i.zero, i.size, i.bytes)) = some (some (.int .u8 0), 1, 1) := by kernel_rfl
theorem ifo_9 : (Tryd.prog.info? 9).map (fun i => (i.zero, i.size, i.bytes)) = some (some (.string ⟨#[]⟩), 1, 16) := by kernel_rfl
theorem ifo_24 : (Tryd.prog.info? 24).map (fun i => (i.zero, i.size, i.bytes)) = some (some (.agg #[(.int .i64 0), (.string ⟨#[]⟩), (.string ⟨#[]⟩), (.int .i64 0), (.int .i64 0), (.int .i64 0)]), 6, 64) := by kernel_rfl
theorem ifo_55 : (Tryd.prog.info? 55).map (fun i => (i.zero, i.size, i.bytes)) = some (some (.agg #[(.int .i64 0), (.int .i64 0), (.string ⟨#[]⟩), (.int .i64 0), (.bool false), (.bool false)]), 6, 48) := by kernel_rfl
theorem ifz_3 : (Tryd.prog.info? 3).map (fun i => (i.zero, i.size)) = some (some (.int .i64 0), 1) := by kernel_rfl
theorem ifz_9 : (Tryd.prog.info? 9).map (fun i => (i.zero, i.size)) = some (some (.string ⟨#[]⟩), 1) := by kernel_rfl
theorem ifz_24 : (Tryd.prog.info? 24).map (fun i => (i.zero, i.size)) = some (some (.agg #[(.int .i64 0), (.string ⟨#[]⟩), (.string ⟨#[]⟩), (.int .i64 0), (.int .i64 0), (.int .i64 0)]), 6) := by kernel_rfl
theorem ifz_55 : (Tryd.prog.info? 55).map (fun i => (i.zero, i.size)) = some (some (.agg #[(.int .i64 0), (.int .i64 0), (.string ⟨#[]⟩), (.int .i64 0), (.bool false), (.bool false)]), 6) := by kernel_rfl
theorem mix : Tryd.prog.follows .mixedOrders = true := by kernel_rfl
theorem nif_26 : notIface Tryd.prog 26 = true := by kernel_rfl
theorem nif_65 : notIface Tryd.prog 65 = true := by kernel_rfl
theorem nif_72 : notIface Tryd.prog 72 = true := by kernel_rfl
theorem pl_55_ : structPl Tryd.prog 55 [] = some [] := by kernel_rfl
theorem pl_68_0_1_2 : structPl Tryd.prog 68 [0, 1, 2] = some [(0, 1), (1, 1), (2, 1)] := by kernel_rfl
theorem pl_68_0_1_2_3 : structPl Tryd.prog 68 [0, 1, 2, 3] = some [(0, 1), (1, 1), (2, 1), (3, 1)] := by kernel_rfl
theorem pl_126_0 : structPl Tryd.prog 126 [0] = some [(0, 1)] := by kernel_rfl
theorem sz_3 : szOf Tryd.prog 3 = some 1 := by kernel_rfl
theorem sz_4 : szOf Tryd.prog 4 = some 1 := by kernel_rfl
theorem sz_5 : szOf Tryd.prog 5 = some 1 := by kernel_rfl
theorem sz_9 : szOf Tryd.prog 9 = some 1 := by kernel_rfl
theorem sz_24 : szOf Tryd.prog 24 = some 6 := by kernel_rfl
theorem sz_40 : szOf Tryd.prog 40 = some 1 := by kernel_rfl
theorem sz_55 : szOf Tryd.prog 55 = some 6 := by kernel_rfl
theorem sz_71 : szOf Tryd.prog 71 = some 64 := by kernel_rfl
theorem sz_73 : szOf Tryd.prog 73 = some 1 := by kernel_rfl
theorem sz_74 : szOf Tryd.prog 74 = some 1 := by kernel_rfl
theorem sz_78 : szOf Tryd.prog 78 = some 1 := by kernel_rfl
theorem zr_9 : zeroOf Tryd.prog 9 = some (some (.string ⟨#[]⟩)) := by kernel_rfl
theorem zr_55 : zeroOf Tryd.prog 55 = some (some (.agg #[(.int .i64 0), (.int .i64 0), (.string ⟨#[]⟩), (.int .i64 0), (.bool false), (.bool false)])) := by kernel_rfl
theorem zr_68 : zeroOf Tryd.prog 68 = some (some (.agg #[(.map none), (.map none), (.map none), (.int .i64 0)])) := by kernel_rfl
theorem zr_72 : zeroOf Tryd.prog 72 = some (some (.map none)) := by kernel_rfl
theorem zr_76 : zeroOf Tryd.prog 76 = some (some (.agg #[(.pointer none), (.slice none 0 0)])) := by kernel_rfl
theorem zr_126 : zeroOf Tryd.prog 126 = some (some (.agg #[(.string ⟨#[]⟩), (.bool false)])) := by kernel_rfl
end Go.Proofs.YtieelilkkpcmdaaDoor
