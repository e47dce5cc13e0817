/- Closed facts of the program: offsets, sizes, zero values. -/
import Derived.Test.YtleaahajkncnpaaRf3
import Derived.Test.YtleaahajkncnpaaFx
namespace Go.Proofs.Ytleaahajkncnpaa
open Go.RowKit M
theorem ag_54 : aggB Try.prog 54 = some false := by kernel_rfl
theorem ag_55 : aggB Try.prog 55 = some false := by kernel_rfl
theorem ag_62 : aggB Try.prog 62 = some true := by kernel_rfl
theorem ag_75 : aggB Try.prog 75 = some true := by kernel_rfl
theorem asz_57 : allSz Try.prog 57 = true := by kernel_rfl
theorem asz_62 : allSz Try.prog 62 = true := by kernel_rfl
theorem asz_75 : allSz Try.prog 75 = true := by kernel_rfl
theorem cal_33 : callB Try.prog 33 = true := by kernel_rfl
theorem cal_36 : callB Try.prog 36 = true := by kernel_rfl
theorem cal_43 : callB Try.prog 43 = true := by kernel_rfl
theorem cal_47 : callB Try.prog 47 = true := by kernel_rfl
theorem cal_48 : callB Try.prog 48 = true := by kernel_rfl
theorem cal_49 : callB Try.prog 49 = true := by kernel_rfl
theorem cal_50 : callB Try.prog 50 = true := by kernel_rfl
theorem cal_51 : callB Try.prog 51 = true := by kernel_rfl
theorem cal_57 : callB Try.prog 57 = true := by kernel_rfl
theorem cal_58 : callB Try.prog 58 = true := by kernel_rfl
theorem cal_59 : callB Try.prog 59 = true := by kernel_rfl
theorem es_54 : elemSz Try.prog 54 = some 3 := by kernel_rfl
theorem es_55 : elemSz Try.prog 55 = some 2 := by kernel_rfl
theorem es_82 : elemSz Try.prog 82 = some 1 := by kernel_rfl
theorem fo_57_0 : fldOff Try.prog 57 0 = some 0 := by kernel_rfl
theorem fo_57_1 : fldOff Try.prog 57 1 = some 1 := by kernel_rfl
theorem fo_57_2 : fldOff Try.prog 57 2 = some 2 := by kernel_rfl
theorem fo_57_3 : fldOff Try.prog 57 3 = some 3 := by kernel_rfl
theorem fo_57_4 : fldOff Try.prog 57 4 = some 4 := by kernel_rfl
theorem fo_57_5 : fldOff Try.prog 57 5 = some 5 := by kernel_rfl
theorem fo_62_0 : fldOff Try.prog 62 0 = some 0 := by kernel_rfl
theorem fo_62_1 : fldOff Try.prog 62 1 = some 1 := by kernel_rfl
theorem fo_62_2 : fldOff Try.prog 62 2 = some 2 := by kernel_rfl
theorem fo_75_0 : fldOff Try.prog 75 0 = some 0 := by kernel_rfl
theorem fo_75_1 : fldOff Try.prog 75 1 = some 1 := by kernel_rfl
theorem fv_62_1 : fldVal Try.prog 62 1 = some (1, none) := by kernel_rfl
theorem ifo_62 : (Try.prog.info? 62).map (fun i => (i.zero, i.size, i.bytes)) = some (some (.agg #[(.int .i64 0), (.string ⟨#[]⟩), (.string ⟨#[]⟩)]), 3, 40) := by kernel_rfl
theorem ifo_75 : (Try.prog.info? 75).map (fun i => (i.zero, i.size, i.bytes)) = some (some (.agg #[(.int .i64 0), (.int .i64 0)]), 2, 16) := by kernel_rfl
theorem ifz_5 : (Try.prog.info? 5).map (fun i => (i.zero, i.size)) = some (some (.int .u8 0), 1) := by kernel_rfl
theorem ifz_62 : (Try.prog.info? 62).map (fun i => (i.zero, i.size)) = some (some (.agg #[(.int .i64 0), (.string ⟨#[]⟩), (.string ⟨#[]⟩)]), 3) := by kernel_rfl
theorem ifz_75 : (Try.prog.info? 75).map (fun i => (i.zero, i.size)) = some (some (.agg #[(.int .i64 0), (.int .i64 0)]), 2) := by kernel_rfl
theorem pl_57_ : structPl Try.prog 57 [] = some [] := by kernel_rfl
theorem pl_62_0 : structPl Try.prog 62 [0] = some [(0, 1)] := by kernel_rfl
theorem pl_62_0_1_2 : structPl Try.prog 62 [0, 1, 2] = some [(0, 1), (1, 1), (2, 1)] := by kernel_rfl
theorem pl_75_0_1 : structPl Try.prog 75 [0, 1] = some [(0, 1), (1, 1)] := by kernel_rfl
theorem sz_54 : szOf Try.prog 54 = some 1 := by kernel_rfl
theorem sz_55 : szOf Try.prog 55 = some 1 := by kernel_rfl
theorem sz_62 : szOf Try.prog 62 = some 3 := by kernel_rfl
theorem sz_75 : szOf Try.prog 75 = some 2 := by kernel_rfl
theorem zr_57 : zeroOf Try.prog 57 = some (some (.agg #[(.slice none 0 0), (.slice none 0 0), (.int .i64 0), (.bool false), (.int .i64 0), (.slice none 0 0)])) := by kernel_rfl
theorem zr_62 : zeroOf Try.prog 62 = some (some (.agg #[(.int .i64 0), (.string ⟨#[]⟩), (.string ⟨#[]⟩)])) := by kernel_rfl
theorem zr_75 : zeroOf Try.prog 75 = some (some (.agg #[(.int .i64 0), (.int .i64 0)])) := by kernel_rfl
end Go.Proofs.Ytleaahajkncnpaa
