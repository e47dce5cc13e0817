/- Closed facts of the program: offsets, sizes, zero values. -/
import Derived.Test.YtleaahajkncnpaaDoorFr
namespace Go.Proofs.YtleaahajkncnpaaDoor
open Go.RowKit M
theorem ag_23 : aggB Tryd.prog 23 = some false := by kernel_rfl
theorem ag_25 : aggB Tryd.prog 25 = some false := by kernel_rfl
theorem asz_70 : allSz Tryd.prog 70 = true := by kernel_rfl
theorem asz_74 : allSz Tryd.prog 74 = true := by kernel_rfl
theorem cal_8 : callB Tryd.prog 8 = true := by kernel_rfl
theorem cal_9 : callB Tryd.prog 9 = true := by kernel_rfl
theorem cal_10 : callB Tryd.prog 10 = true := by kernel_rfl
theorem cal_11 : callB Tryd.prog 11 = true := by kernel_rfl
theorem cal_12 : callB Tryd.prog 12 = true := by kernel_rfl
theorem cal_13 : callB Tryd.prog 13 = true := by kernel_rfl
theorem cal_14 : callB Tryd.prog 14 = true := by kernel_rfl
theorem cal_15 : callB Tryd.prog 15 = true := by kernel_rfl
theorem cal_16 : callB Tryd.prog 16 = true := by kernel_rfl
theorem cal_18 : callB Tryd.prog 18 = true := by kernel_rfl
theorem cal_23 : callB Tryd.prog 23 = true := by kernel_rfl
theorem cal_31 : callB Tryd.prog 31 = true := by kernel_rfl
theorem cal_32 : callB Tryd.prog 32 = true := by kernel_rfl
theorem cal_40 : callB Tryd.prog 40 = true := by kernel_rfl
theorem cal_41 : callB Tryd.prog 41 = true := by kernel_rfl
theorem cal_42 : callB Tryd.prog 42 = true := by kernel_rfl
theorem cal_45 : callB Tryd.prog 45 = true := by kernel_rfl
theorem es_38 : elemSz Tryd.prog 38 = some 4 := by kernel_rfl
theorem es_51 : elemSz Tryd.prog 51 = some 1 := by kernel_rfl
theorem fo_42_1 : fldOff Tryd.prog 42 1 = some 1 := by kernel_rfl
theorem fo_42_3 : fldOff Tryd.prog 42 3 = some 3 := by kernel_rfl
theorem fo_70_0 : fldOff Tryd.prog 70 0 = some 0 := by kernel_rfl
theorem fo_70_1 : fldOff Tryd.prog 70 1 = some 1 := by kernel_rfl
theorem fo_70_2 : fldOff Tryd.prog 70 2 = some 2 := by kernel_rfl
theorem fo_70_3 : fldOff Tryd.prog 70 3 = some 3 := by kernel_rfl
theorem fo_70_4 : fldOff Tryd.prog 70 4 = some 4 := by kernel_rfl
theorem fo_74_0 : fldOff Tryd.prog 74 0 = some 0 := by kernel_rfl
theorem fo_74_1 : fldOff Tryd.prog 74 1 = some 1 := by kernel_rfl
theorem fo_74_2 : fldOff Tryd.prog 74 2 = some 2 := by kernel_rfl
theorem fo_74_3 : fldOff Tryd.prog 74 3 = some 3 := by kernel_rfl
theorem fo_74_4 : fldOff Tryd.prog 74 4 = some 4 := by kernel_rfl
theorem pl_70_0_1 : structPl Tryd.prog 70 [0, 1] = some [(0, 1), (1, 1)] := by kernel_rfl
theorem pl_74_0_1 : structPl Tryd.prog 74 [0, 1] = some [(0, 1), (1, 1)] := by kernel_rfl
theorem zr_70 : zeroOf Tryd.prog 70 = some (some (.agg #[(.pointer none), (.int .i64 0), (.int .i64 0), (.string ⟨#[]⟩), (.bool false)])) := by kernel_rfl
theorem zr_74 : zeroOf Tryd.prog 74 = some (some (.agg #[(.pointer none), (.int .i64 0), (.int .i64 0), (.string ⟨#[]⟩), (.bool false)])) := by kernel_rfl
end Go.Proofs.YtleaahajkncnpaaDoor
