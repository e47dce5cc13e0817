/- Closed facts of the program: offsets, sizes, zero values. -/
import Derived.Test.YtleaahajkncnpaaDoorRf3
import Derived.Test.YtleaahajkncnpaaDoorFx
namespace Go.Proofs.YtleaahajkncnpaaDoor
open Go.RowKit M
theorem ag_62 : aggB Tryd.prog 62 = some false := by kernel_rfl
theorem ag_63 : aggB Tryd.prog 63 = some false := by kernel_rfl
theorem ag_84 : aggB Tryd.prog 84 = some true := by kernel_rfl
theorem ag_86 : aggB Tryd.prog 86 = some true := by kernel_rfl
theorem asz_65 : allSz Tryd.prog 65 = true := by kernel_rfl
theorem asz_84 : allSz Tryd.prog 84 = true := by kernel_rfl
theorem asz_86 : allSz Tryd.prog 86 = true := by kernel_rfl
theorem cal_28 : callB Tryd.prog 28 = true := by kernel_rfl
theorem cal_36 : callB Tryd.prog 36 = true := by kernel_rfl
theorem cal_37 : callB Tryd.prog 37 = true := by kernel_rfl
theorem cal_38 : callB Tryd.prog 38 = true := by kernel_rfl
theorem cal_39 : callB Tryd.prog 39 = true := by kernel_rfl
theorem cal_46 : callB Tryd.prog 46 = true := by kernel_rfl
theorem cal_48 : callB Tryd.prog 48 = true := by kernel_rfl
theorem cal_49 : callB Tryd.prog 49 = true := by kernel_rfl
theorem cal_50 : callB Tryd.prog 50 = true := by kernel_rfl
theorem cal_51 : callB Tryd.prog 51 = true := by kernel_rfl
theorem cal_53 : callB Tryd.prog 53 = true := by kernel_rfl
theorem es_46 : elemSz Tryd.prog 46 = some 1 := by kernel_rfl
theorem es_62 : elemSz Tryd.prog 62 = some 3 := by kernel_rfl
theorem es_63 : elemSz Tryd.prog 63 = some 2 := by kernel_rfl
theorem fo_65_0 : fldOff Tryd.prog 65 0 = some 0 := by kernel_rfl
theorem fo_65_1 : fldOff Tryd.prog 65 1 = some 1 := by kernel_rfl
theorem fo_65_2 : fldOff Tryd.prog 65 2 = some 2 := by kernel_rfl
theorem fo_65_3 : fldOff Tryd.prog 65 3 = some 3 := by kernel_rfl
theorem fo_65_4 : fldOff Tryd.prog 65 4 = some 4 := by kernel_rfl
theorem fo_65_5 : fldOff Tryd.prog 65 5 = some 5 := by kernel_rfl
theorem fo_84_0 : fldOff Tryd.prog 84 0 = some 0 := by kernel_rfl
theorem fo_84_1 : fldOff Tryd.prog 84 1 = some 1 := by kernel_rfl
theorem fo_86_0 : fldOff Tryd.prog 86 0 = some 0 := by kernel_rfl
theorem fo_86_1 : fldOff Tryd.prog 86 1 = some 1 := by kernel_rfl
theorem fo_86_2 : fldOff Tryd.prog 86 2 = some 2 := by kernel_rfl
theorem fv_86_1 : fldVal Tryd.prog 86 1 = some (1, none) := by kernel_rfl
theorem ifo_84 : (Tryd.prog.info? 84).map (fun i => (i.zero, i.size, i.bytes)) = some (some (.agg #[(.int .i64 0), (.int .i64 0)]), 2, 16) := by kernel_rfl
theorem ifo_86 : (Tryd.prog.info? 86).map (fun i => (i.zero, i.size, i.bytes)) = some (some (.agg #[(.int .i64 0), (.string ⟨#[]⟩), (.string ⟨#[]⟩)]), 3, 40) := by kernel_rfl
theorem ifz_5 : (Tryd.prog.info? 5).map (fun i => (i.zero, i.size)) = some (some (.int .u8 0), 1) := by kernel_rfl
theorem ifz_84 : (Tryd.prog.info? 84).map (fun i => (i.zero, i.size)) = some (some (.agg #[(.int .i64 0), (.int .i64 0)]), 2) := by kernel_rfl
theorem ifz_86 : (Tryd.prog.info? 86).map (fun i => (i.zero, i.size)) = some (some (.agg #[(.int .i64 0), (.string ⟨#[]⟩), (.string ⟨#[]⟩)]), 3) := by kernel_rfl
theorem pl_65_ : structPl Tryd.prog 65 [] = some [] := by kernel_rfl
theorem pl_84_0_1 : structPl Tryd.prog 84 [0, 1] = some [(0, 1), (1, 1)] := by kernel_rfl
theorem pl_86_0 : structPl Tryd.prog 86 [0] = some [(0, 1)] := by kernel_rfl
theorem pl_86_0_1_2 : structPl Tryd.prog 86 [0, 1, 2] = some [(0, 1), (1, 1), (2, 1)] := by kernel_rfl
theorem sz_62 : szOf Tryd.prog 62 = some 1 := by kernel_rfl
theorem sz_63 : szOf Tryd.prog 63 = some 1 := by kernel_rfl
theorem sz_84 : szOf Tryd.prog 84 = some 2 := by kernel_rfl
theorem sz_86 : szOf Tryd.prog 86 = some 3 := by kernel_rfl
theorem zr_65 : zeroOf Tryd.prog 65 = some (some (.agg #[(.slice none 0 0), (.slice none 0 0), (.int .i64 0), (.bool false), (.int .i64 0), (.slice none 0 0)])) := by kernel_rfl
theorem zr_84 : zeroOf Tryd.prog 84 = some (some (.agg #[(.int .i64 0), (.int .i64 0)])) := by kernel_rfl
theorem zr_86 : zeroOf Tryd.prog 86 = some (some (.agg #[(.int .i64 0), (.string ⟨#[]⟩), (.string ⟨#[]⟩)])) := by kernel_rfl
end Go.Proofs.YtleaahajkncnpaaDoor
