/- Closed facts of the program: offsets, sizes, zero values. -/
import Derived.Test.YtleaahajkncnpaaDoorFr
namespace Go.Proofs.YtleaahajkncnpaaDoor
open Go.RowKit M
theorem ag_23 : aggB Tryd.prog 23 = some false := by kernel_rfl
theorem ag_25 : aggB Tryd.prog 25 = some false := by kernel_rfl
theorem ag_42 : aggB Tryd.prog 42 = some true := by kernel_rfl
theorem asz_42 : allSz Tryd.prog 42 = true := by kernel_rfl
theorem asz_70 : allSz Tryd.prog 70 = true := by kernel_rfl
theorem asz_74 : allSz Tryd.prog 74 = true := by kernel_rfl
theorem cal_8 : callB Tryd.prog 8 = true := by kernel_rfl
theorem cal_9 : callB Tryd.prog 9 = true := by kernel_rfl
theorem cal_10 : callB Tryd.prog 10 = true := by kernel_rfl
theorem cal_11 : callB Tryd.prog 11 = true := by kernel_rfl
theorem cal_12 : callB Tryd.prog 12 = true := by kernel_rfl
theorem cal_13 : callB Tryd.prog 13 = true := by kernel_rfl
theorem cal_14 : callB Tryd.prog 14 = true := by kernel_rfl
theorem cal_15 : callB Tryd.prog 15 = true := by kernel_rfl
theorem cal_16 : callB Tryd.prog 16 = true := by kernel_rfl
theorem cal_17 : callB Tryd.prog 17 = true := by kernel_rfl
theorem cal_18 : callB Tryd.prog 18 = true := by kernel_rfl
theorem cal_19 : callB Tryd.prog 19 = true := by kernel_rfl
theorem cal_20 : callB Tryd.prog 20 = true := by kernel_rfl
theorem cal_21 : callB Tryd.prog 21 = true := by kernel_rfl
theorem cal_23 : callB Tryd.prog 23 = true := by kernel_rfl
theorem cal_24 : callB Tryd.prog 24 = true := by kernel_rfl
theorem cal_25 : callB Tryd.prog 25 = true := by kernel_rfl
theorem cal_26 : callB Tryd.prog 26 = true := by kernel_rfl
theorem cal_27 : callB Tryd.prog 27 = true := by kernel_rfl
theorem cal_29 : callB Tryd.prog 29 = true := by kernel_rfl
theorem cal_30 : callB Tryd.prog 30 = true := by kernel_rfl
theorem cal_31 : callB Tryd.prog 31 = true := by kernel_rfl
theorem cal_32 : callB Tryd.prog 32 = true := by kernel_rfl
theorem cal_33 : callB Tryd.prog 33 = true := by kernel_rfl
theorem cal_40 : callB Tryd.prog 40 = true := by kernel_rfl
theorem cal_41 : callB Tryd.prog 41 = true := by kernel_rfl
theorem cal_42 : callB Tryd.prog 42 = true := by kernel_rfl
theorem cal_45 : callB Tryd.prog 45 = true := by kernel_rfl
theorem es_38 : elemSz Tryd.prog 38 = some 4 := by kernel_rfl
theorem es_51 : elemSz Tryd.prog 51 = some 1 := by kernel_rfl
theorem fo_42_0 : fldOff Tryd.prog 42 0 = some 0 := by kernel_rfl
theorem fo_42_1 : fldOff Tryd.prog 42 1 = some 1 := by kernel_rfl
theorem fo_42_2 : fldOff Tryd.prog 42 2 = some 2 := by kernel_rfl
theorem fo_42_3 : fldOff Tryd.prog 42 3 = some 3 := by kernel_rfl
theorem fo_70_0 : fldOff Tryd.prog 70 0 = some 0 := by kernel_rfl
theorem fo_70_1 : fldOff Tryd.prog 70 1 = some 1 := by kernel_rfl
theorem fo_70_2 : fldOff Tryd.prog 70 2 = some 2 := by kernel_rfl
theorem fo_70_3 : fldOff Tryd.prog 70 3 = some 3 := by kernel_rfl
theorem fo_70_4 : fldOff Tryd.prog 70 4 = some 4 := by kernel_rfl
theorem fo_74_0 : fldOff Tryd.prog 74 0 = some 0 := by kernel_rfl
theorem fo_74_1 : fldOff Tryd.prog 74 1 = some 1 := by kernel_rfl
theorem fo_74_2 : fldOff Tryd.prog 74 2 = some 2 := by kernel_rfl
theorem fo_74_3 : fldOff Tryd.prog 74 3 = some 3 := by kernel_rfl
theorem fo_74_4 : fldOff Tryd.prog 74 4 = some 4 := by kernel_rfl
theorem ifo_9 : (Tryd.prog.info? 9).map (fun i => (i.zero, i.size, i.bytes)) = some (some (.string ⟨#[]⟩), 1, 16) := by kernel_rfl
theorem ifz_9 : (Tryd.prog.info? 9).map (fun i => (i.zero, i.size)) = some (some (.string ⟨#[]⟩), 1) := by kernel_rfl
theorem pl_42_0_3 : structPl Tryd.prog 42 [0, 3] = some [(0, 1), (3, 1)] := by kernel_rfl
theorem pl_70_0_1 : structPl Tryd.prog 70 [0, 1] = some [(0, 1), (1, 1)] := by kernel_rfl
theorem pl_74_0_1 : structPl Tryd.prog 74 [0, 1] = some [(0, 1), (1, 1)] := by kernel_rfl
theorem sz_42 : szOf Tryd.prog 42 = some 4 := by kernel_rfl
theorem zr_42 : zeroOf Tryd.prog 42 = some (some (.agg #[(.int .i64 0), (.string ⟨#[]⟩), (.int .i64 0), (.slice none 0 0)])) := by kernel_rfl
theorem zr_70 : zeroOf Tryd.prog 70 = some (some (.agg #[(.pointer none), (.int .i64 0), (.int .i64 0), (.string ⟨#[]⟩), (.bool false)])) := by kernel_rfl
theorem zr_74 : zeroOf Tryd.prog 74 = some (some (.agg #[(.pointer none), (.int .i64 0), (.int .i64 0), (.string ⟨#[]⟩), (.bool false)])) := by kernel_rfl
end Go.Proofs.YtleaahajkncnpaaDoor
