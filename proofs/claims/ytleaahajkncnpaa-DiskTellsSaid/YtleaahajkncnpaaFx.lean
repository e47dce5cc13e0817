/- Closed facts of the program: offsets, sizes, zero values. -/
import Derived.Test.YtleaahajkncnpaaDk
namespace Go.Proofs.Ytleaahajkncnpaa
open Go.RowKit M
theorem ag_3 : aggB Try.prog 3 = some false := by kernel_rfl
theorem ag_4 : aggB Try.prog 4 = some false := by kernel_rfl
theorem ag_9 : aggB Try.prog 9 = some false := by kernel_rfl
theorem ag_31 : aggB Try.prog 31 = some false := by kernel_rfl
theorem ag_33 : aggB Try.prog 33 = some true := by kernel_rfl
theorem ag_49 : aggB Try.prog 49 = some false := by kernel_rfl
theorem ag_50 : aggB Try.prog 50 = some false := by kernel_rfl
theorem ag_51 : aggB Try.prog 51 = some false := by kernel_rfl
theorem ag_53 : aggB Try.prog 53 = some true := by kernel_rfl
theorem ag_60 : aggB Try.prog 60 = some true := by kernel_rfl
theorem ag_67 : aggB Try.prog 67 = some true := by kernel_rfl
theorem asz_53 : allSz Try.prog 53 = true := by kernel_rfl
theorem asz_60 : allSz Try.prog 60 = true := by kernel_rfl
theorem asz_67 : allSz Try.prog 67 = true := by kernel_rfl
theorem cal_7 : callB Try.prog 7 = true := by kernel_rfl
theorem cal_8 : callB Try.prog 8 = true := by kernel_rfl
theorem cal_9 : callB Try.prog 9 = true := by kernel_rfl
theorem cal_11 : callB Try.prog 11 = true := by kernel_rfl
theorem cal_13 : callB Try.prog 13 = true := by kernel_rfl
theorem cal_15 : callB Try.prog 15 = true := by kernel_rfl
theorem cal_17 : callB Try.prog 17 = true := by kernel_rfl
theorem cal_18 : callB Try.prog 18 = true := by kernel_rfl
theorem cal_19 : callB Try.prog 19 = true := by kernel_rfl
theorem cal_21 : callB Try.prog 21 = true := by kernel_rfl
theorem cal_22 : callB Try.prog 22 = true := by kernel_rfl
theorem cal_23 : callB Try.prog 23 = true := by kernel_rfl
theorem cal_24 : callB Try.prog 24 = true := by kernel_rfl
theorem cal_26 : callB Try.prog 26 = true := by kernel_rfl
theorem cal_27 : callB Try.prog 27 = true := by kernel_rfl
theorem cal_28 : callB Try.prog 28 = true := by kernel_rfl
theorem cal_37 : callB Try.prog 37 = true := by kernel_rfl
theorem cal_38 : callB Try.prog 38 = true := by kernel_rfl
theorem cal_39 : callB Try.prog 39 = true := by kernel_rfl
theorem cal_40 : callB Try.prog 40 = true := by kernel_rfl
theorem cal_41 : callB Try.prog 41 = true := by kernel_rfl
theorem cal_42 : callB Try.prog 42 = true := by kernel_rfl
theorem cal_44 : callB Try.prog 44 = true := by kernel_rfl
theorem cal_45 : callB Try.prog 45 = true := by kernel_rfl
theorem cal_46 : callB Try.prog 46 = true := by kernel_rfl
theorem cal_53 : callB Try.prog 53 = true := by kernel_rfl
theorem cal_54 : callB Try.prog 54 = true := by kernel_rfl
theorem cal_55 : callB Try.prog 55 = true := by kernel_rfl
theorem cal_56 : callB Try.prog 56 = true := by kernel_rfl
theorem cal_60 : callB Try.prog 60 = true := by kernel_rfl
theorem es_22 : elemSz Try.prog 22 = some 5 := by kernel_rfl
theorem es_31 : elemSz Try.prog 31 = some 1 := by kernel_rfl
theorem es_51 : elemSz Try.prog 51 = some 2 := by kernel_rfl
theorem fo_33_0 : fldOff Try.prog 33 0 = some 0 := by kernel_rfl
theorem fo_33_1 : fldOff Try.prog 33 1 = some 1 := by kernel_rfl
theorem fo_33_2 : fldOff Try.prog 33 2 = some 2 := by kernel_rfl
theorem fo_33_3 : fldOff Try.prog 33 3 = some 3 := by kernel_rfl
theorem fo_33_4 : fldOff Try.prog 33 4 = some 4 := by kernel_rfl
theorem fo_53_0 : fldOff Try.prog 53 0 = some 0 := by kernel_rfl
theorem fo_53_1 : fldOff Try.prog 53 1 = some 1 := by kernel_rfl
theorem fo_53_2 : fldOff Try.prog 53 2 = some 2 := by kernel_rfl
theorem fo_53_3 : fldOff Try.prog 53 3 = some 3 := by kernel_rfl
theorem fo_53_4 : fldOff Try.prog 53 4 = some 4 := by kernel_rfl
theorem fo_53_5 : fldOff Try.prog 53 5 = some 5 := by kernel_rfl
theorem fo_53_6 : fldOff Try.prog 53 6 = some 6 := by kernel_rfl
theorem fo_60_0 : fldOff Try.prog 60 0 = some 0 := by kernel_rfl
theorem fo_60_1 : fldOff Try.prog 60 1 = some 1 := by kernel_rfl
theorem fo_67_0 : fldOff Try.prog 67 0 = some 0 := by kernel_rfl
theorem fo_67_1 : fldOff Try.prog 67 1 = some 1 := by kernel_rfl
theorem fv_60_0 : fldVal Try.prog 60 0 = some (0, none) := by kernel_rfl
theorem ifo_3 : (Try.prog.info? 3).map (fun i => (i.zero, i.size, i.bytes)) = some (some (.int .i64 0), 1, 8) := by kernel_rfl
theorem ifo_5 : (Try.prog.info? 5).map (fun i => (i.zero, i.size, i.bytes)) = some (some (.int .u8 0), 1, 1) := by kernel_rfl
theorem ifo_67 : (Try.prog.info? 67).map (fun i => (i.zero, i.size, i.bytes)) = some (some (.agg #[(.int .i64 0), (.int .i64 0)]), 2, 16) := by kernel_rfl
theorem ifz_3 : (Try.prog.info? 3).map (fun i => (i.zero, i.size)) = some (some (.int .i64 0), 1) := by kernel_rfl
theorem ifz_67 : (Try.prog.info? 67).map (fun i => (i.zero, i.size)) = some (some (.agg #[(.int .i64 0), (.int .i64 0)]), 2) := by kernel_rfl
theorem mix : Try.prog.follows .mixedOrders = true := by kernel_rfl
theorem nif_49 : notIface Try.prog 49 = true := by kernel_rfl
theorem nif_50 : notIface Try.prog 50 = true := by kernel_rfl
theorem pl_53_0_2 : structPl Try.prog 53 [0, 2] = some [(0, 1), (2, 1)] := by kernel_rfl
theorem pl_60_0_1 : structPl Try.prog 60 [0, 1] = some [(0, 1), (1, 1)] := by kernel_rfl
theorem pl_67_0_1 : structPl Try.prog 67 [0, 1] = some [(0, 1), (1, 1)] := by kernel_rfl
theorem sz_3 : szOf Try.prog 3 = some 1 := by kernel_rfl
theorem sz_4 : szOf Try.prog 4 = some 1 := by kernel_rfl
theorem sz_5 : szOf Try.prog 5 = some 1 := by kernel_rfl
theorem sz_9 : szOf Try.prog 9 = some 1 := by kernel_rfl
theorem sz_31 : szOf Try.prog 31 = some 1 := by kernel_rfl
theorem sz_33 : szOf Try.prog 33 = some 5 := by kernel_rfl
theorem sz_49 : szOf Try.prog 49 = some 1 := by kernel_rfl
theorem sz_50 : szOf Try.prog 50 = some 1 := by kernel_rfl
theorem sz_51 : szOf Try.prog 51 = some 1 := by kernel_rfl
theorem sz_53 : szOf Try.prog 53 = some 7 := by kernel_rfl
theorem sz_60 : szOf Try.prog 60 = some 2 := by kernel_rfl
theorem sz_67 : szOf Try.prog 67 = some 2 := by kernel_rfl
theorem zr_4 : zeroOf Try.prog 4 = some (some (.bool false)) := by kernel_rfl
theorem zr_53 : zeroOf Try.prog 53 = some (some (.agg #[(.map none), (.slice none 0 0), (.map none), (.int .i64 0), (.bool false), (.int .i64 0), (.slice none 0 0)])) := by kernel_rfl
theorem zr_60 : zeroOf Try.prog 60 = some (some (.agg #[(.string ⟨#[]⟩), (.string ⟨#[]⟩)])) := by kernel_rfl
theorem zr_67 : zeroOf Try.prog 67 = some (some (.agg #[(.int .i64 0), (.int .i64 0)])) := by kernel_rfl
end Go.Proofs.Ytleaahajkncnpaa
