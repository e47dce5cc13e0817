/- Closed facts of the program: offsets, sizes, zero values. -/
import Derived.Test.YtleaahajkncnpaaFr
namespace Go.Proofs.Ytleaahajkncnpaa
open Go.RowKit M
theorem cal_10 : callB Try.prog 10 = true := by kernel_rfl
theorem cal_12 : callB Try.prog 12 = true := by kernel_rfl
theorem cal_14 : callB Try.prog 14 = true := by kernel_rfl
theorem cal_16 : callB Try.prog 16 = true := by kernel_rfl
theorem cal_20 : callB Try.prog 20 = true := by kernel_rfl
theorem cal_29 : callB Try.prog 29 = true := by kernel_rfl
theorem cal_30 : callB Try.prog 30 = true := by kernel_rfl
theorem cal_31 : callB Try.prog 31 = true := by kernel_rfl
theorem cal_32 : callB Try.prog 32 = true := by kernel_rfl
theorem cal_34 : callB Try.prog 34 = true := by kernel_rfl
theorem cal_35 : callB Try.prog 35 = true := by kernel_rfl
end Go.Proofs.Ytleaahajkncnpaa
