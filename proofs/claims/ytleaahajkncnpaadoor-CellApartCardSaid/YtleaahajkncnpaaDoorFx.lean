/- Closed facts of the program: offsets, sizes, zero values. -/
import Derived.Test.YtleaahajkncnpaaDoorDk
namespace Go.Proofs.YtleaahajkncnpaaDoor
open Go.RowKit M
theorem ag_3 : aggB Tryd.prog 3 = some false := by kernel_rfl
theorem ag_4 : aggB Tryd.prog 4 = some false := by kernel_rfl
theorem ag_9 : aggB Tryd.prog 9 = some false := by kernel_rfl
theorem ag_39 : aggB Tryd.prog 39 = some false := by kernel_rfl
theorem ag_57 : aggB Tryd.prog 57 = some false := by kernel_rfl
theorem ag_58 : aggB Tryd.prog 58 = some false := by kernel_rfl
theorem ag_59 : aggB Tryd.prog 59 = some false := by kernel_rfl
theorem ag_78 : aggB Tryd.prog 78 = some true := by kernel_rfl
theorem ag_80 : aggB Tryd.prog 80 = some true := by kernel_rfl
theorem asz_61 : allSz Tryd.prog 61 = true := by kernel_rfl
theorem asz_78 : allSz Tryd.prog 78 = true := by kernel_rfl
theorem asz_80 : allSz Tryd.prog 80 = true := by kernel_rfl
theorem cal_22 : callB Tryd.prog 22 = true := by kernel_rfl
theorem cal_34 : callB Tryd.prog 34 = true := by kernel_rfl
theorem cal_35 : callB Tryd.prog 35 = true := by kernel_rfl
theorem cal_43 : callB Tryd.prog 43 = true := by kernel_rfl
theorem cal_44 : callB Tryd.prog 44 = true := by kernel_rfl
theorem cal_47 : callB Tryd.prog 47 = true := by kernel_rfl
theorem cal_52 : callB Tryd.prog 52 = true := by kernel_rfl
theorem cal_54 : callB Tryd.prog 54 = true := by kernel_rfl
theorem cal_55 : callB Tryd.prog 55 = true := by kernel_rfl
theorem cal_56 : callB Tryd.prog 56 = true := by kernel_rfl
theorem cal_57 : callB Tryd.prog 57 = true := by kernel_rfl
theorem cal_58 : callB Tryd.prog 58 = true := by kernel_rfl
theorem es_39 : elemSz Tryd.prog 39 = some 1 := by kernel_rfl
theorem es_59 : elemSz Tryd.prog 59 = some 2 := by kernel_rfl
theorem fo_61_0 : fldOff Tryd.prog 61 0 = some 0 := by kernel_rfl
theorem fo_61_1 : fldOff Tryd.prog 61 1 = some 1 := by kernel_rfl
theorem fo_61_2 : fldOff Tryd.prog 61 2 = some 2 := by kernel_rfl
theorem fo_61_3 : fldOff Tryd.prog 61 3 = some 3 := by kernel_rfl
theorem fo_61_4 : fldOff Tryd.prog 61 4 = some 4 := by kernel_rfl
theorem fo_61_5 : fldOff Tryd.prog 61 5 = some 5 := by kernel_rfl
theorem fo_61_6 : fldOff Tryd.prog 61 6 = some 6 := by kernel_rfl
theorem fo_78_0 : fldOff Tryd.prog 78 0 = some 0 := by kernel_rfl
theorem fo_78_1 : fldOff Tryd.prog 78 1 = some 1 := by kernel_rfl
theorem fo_80_0 : fldOff Tryd.prog 80 0 = some 0 := by kernel_rfl
theorem fo_80_1 : fldOff Tryd.prog 80 1 = some 1 := by kernel_rfl
theorem fv_80_0 : fldVal Tryd.prog 80 0 = some (0, none) := by kernel_rfl
theorem ifo_3 : (Tryd.prog.info? 3).map (fun i => (i.zero, i.size, i.bytes)) = some (some (.int .i64 0), 1, 8) := by kernel_rfl
theorem ifo_5 : (Tryd.prog.info? 5).map (fun i => (i.zero, i.size, i.bytes)) = some (some (.int .u8 0), 1, 1) := by kernel_rfl
theorem ifo_78 : (Tryd.prog.info? 78).map (fun i => (i.zero, i.size, i.bytes)) = some (some (.agg #[(.int .i64 0), (.int .i64 0)]), 2, 16) := by kernel_rfl
theorem ifz_3 : (Tryd.prog.info? 3).map (fun i => (i.zero, i.size)) = some (some (.int .i64 0), 1) := by kernel_rfl
theorem ifz_78 : (Tryd.prog.info? 78).map (fun i => (i.zero, i.size)) = some (some (.agg #[(.int .i64 0), (.int .i64 0)]), 2) := by kernel_rfl
theorem mix : Tryd.prog.follows .mixedOrders = true := by kernel_rfl
theorem pl_61_0_2 : structPl Tryd.prog 61 [0, 2] = some [(0, 1), (2, 1)] := by kernel_rfl
theorem pl_78_0_1 : structPl Tryd.prog 78 [0, 1] = some [(0, 1), (1, 1)] := by kernel_rfl
theorem pl_80_0_1 : structPl Tryd.prog 80 [0, 1] = some [(0, 1), (1, 1)] := by kernel_rfl
theorem sz_3 : szOf Tryd.prog 3 = some 1 := by kernel_rfl
theorem sz_4 : szOf Tryd.prog 4 = some 1 := by kernel_rfl
theorem sz_5 : szOf Tryd.prog 5 = some 1 := by kernel_rfl
theorem sz_9 : szOf Tryd.prog 9 = some 1 := by kernel_rfl
theorem sz_39 : szOf Tryd.prog 39 = some 1 := by kernel_rfl
theorem sz_58 : szOf Tryd.prog 58 = some 1 := by kernel_rfl
theorem sz_59 : szOf Tryd.prog 59 = some 1 := by kernel_rfl
theorem sz_78 : szOf Tryd.prog 78 = some 2 := by kernel_rfl
theorem sz_80 : szOf Tryd.prog 80 = some 2 := by kernel_rfl
theorem zr_4 : zeroOf Tryd.prog 4 = some (some (.bool false)) := by kernel_rfl
theorem zr_61 : zeroOf Tryd.prog 61 = some (some (.agg #[(.map none), (.slice none 0 0), (.map none), (.int .i64 0), (.bool false), (.int .i64 0), (.slice none 0 0)])) := by kernel_rfl
theorem zr_78 : zeroOf Tryd.prog 78 = some (some (.agg #[(.int .i64 0), (.int .i64 0)])) := by kernel_rfl
theorem zr_80 : zeroOf Tryd.prog 80 = some (some (.agg #[(.string ⟨#[]⟩), (.string ⟨#[]⟩)])) := by kernel_rfl
end Go.Proofs.YtleaahajkncnpaaDoor
