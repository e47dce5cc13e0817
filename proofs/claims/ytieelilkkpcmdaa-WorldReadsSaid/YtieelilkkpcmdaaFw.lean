/- Closed facts of the program: offsets, sizes, zero values. -/
import Derived.Test.YtieelilkkpcmdaaShf
namespace Go.Proofs.Ytieelilkkpcmdaa
open Go.RowKit M
theorem ag_3 : aggB Try.prog 3 = some false := by kernel_rfl
theorem ag_5 : aggB Try.prog 5 = some false := by kernel_rfl
theorem ag_9 : aggB Try.prog 9 = some false := by kernel_rfl
theorem ag_41 : aggB Try.prog 41 = some true := by kernel_rfl
theorem ag_45 : aggB Try.prog 45 = some false := by kernel_rfl
theorem ag_46 : aggB Try.prog 46 = some false := by kernel_rfl
theorem ag_53 : aggB Try.prog 53 = some false := by kernel_rfl
theorem ag_54 : aggB Try.prog 54 = some false := by kernel_rfl
theorem ag_59 : aggB Try.prog 59 = some true := by kernel_rfl
theorem asz_56 : allSz Try.prog 56 = true := by kernel_rfl
theorem cal_4 : callB Try.prog 4 = true := by kernel_rfl
theorem cal_5 : callB Try.prog 5 = true := by kernel_rfl
theorem cal_6 : callB Try.prog 6 = true := by kernel_rfl
theorem cal_7 : callB Try.prog 7 = true := by kernel_rfl
theorem cal_8 : callB Try.prog 8 = true := by kernel_rfl
theorem cal_9 : callB Try.prog 9 = true := by kernel_rfl
theorem cal_10 : callB Try.prog 10 = true := by kernel_rfl
theorem cal_11 : callB Try.prog 11 = true := by kernel_rfl
theorem cal_12 : callB Try.prog 12 = true := by kernel_rfl
theorem cal_13 : callB Try.prog 13 = true := by kernel_rfl
theorem cal_14 : callB Try.prog 14 = true := by kernel_rfl
theorem cal_15 : callB Try.prog 15 = true := by kernel_rfl
theorem cal_16 : callB Try.prog 16 = true := by kernel_rfl
theorem cal_17 : callB Try.prog 17 = true := by kernel_rfl
theorem cal_18 : callB Try.prog 18 = true := by kernel_rfl
theorem cal_19 : callB Try.prog 19 = true := by kernel_rfl
theorem cal_20 : callB Try.prog 20 = true := by kernel_rfl
theorem cal_21 : callB Try.prog 21 = true := by kernel_rfl
theorem cal_22 : callB Try.prog 22 = true := by kernel_rfl
theorem cal_23 : callB Try.prog 23 = true := by kernel_rfl
theorem cal_24 : callB Try.prog 24 = true := by kernel_rfl
theorem cal_25 : callB Try.prog 25 = true := by kernel_rfl
theorem cal_26 : callB Try.prog 26 = true := by kernel_rfl
theorem cal_27 : callB Try.prog 27 = true := by kernel_rfl
theorem cal_28 : callB Try.prog 28 = true := by kernel_rfl
theorem cal_29 : callB Try.prog 29 = true := by kernel_rfl
theorem cal_30 : callB Try.prog 30 = true := by kernel_rfl
theorem cal_31 : callB Try.prog 31 = true := by kernel_rfl
theorem es_22 : elemSz Try.prog 22 = some 6 := by kernel_rfl
theorem es_35 : elemSz Try.prog 35 = some 1 := by kernel_rfl
theorem fo_41_0 : fldOff Try.prog 41 0 = some 0 := by kernel_rfl
theorem fo_41_1 : fldOff Try.prog 41 1 = some 1 := by kernel_rfl
theorem fo_41_2 : fldOff Try.prog 41 2 = some 2 := by kernel_rfl
theorem fo_41_3 : fldOff Try.prog 41 3 = some 3 := by kernel_rfl
theorem fo_41_4 : fldOff Try.prog 41 4 = some 4 := by kernel_rfl
theorem fo_41_5 : fldOff Try.prog 41 5 = some 5 := by kernel_rfl
theorem fo_48_0 : fldOff Try.prog 48 0 = some 0 := by kernel_rfl
theorem fo_48_1 : fldOff Try.prog 48 1 = some 1 := by kernel_rfl
theorem fo_56_0 : fldOff Try.prog 56 0 = some 0 := by kernel_rfl
theorem fo_56_1 : fldOff Try.prog 56 1 = some 1 := by kernel_rfl
theorem fo_56_2 : fldOff Try.prog 56 2 = some 2 := by kernel_rfl
theorem fo_56_3 : fldOff Try.prog 56 3 = some 3 := by kernel_rfl
theorem ifo_5 : (Try.prog.info? 5).map (fun i => (i.zero, i.size, i.bytes)) = some (some (.int .u8 0), 1, 1) := by kernel_rfl
theorem ifo_9 : (Try.prog.info? 9).map (fun i => (i.zero, i.size, i.bytes)) = some (some (.string ⟨#[]⟩), 1, 16) := by kernel_rfl
theorem ifz_5 : (Try.prog.info? 5).map (fun i => (i.zero, i.size)) = some (some (.int .u8 0), 1) := by kernel_rfl
theorem ifz_9 : (Try.prog.info? 9).map (fun i => (i.zero, i.size)) = some (some (.string ⟨#[]⟩), 1) := by kernel_rfl
theorem mix : Try.prog.follows .mixedOrders = true := by kernel_rfl
theorem nif_24 : notIface Try.prog 24 = true := by kernel_rfl
theorem nif_60 : notIface Try.prog 60 = true := by kernel_rfl
theorem pl_56_0_1_2 : structPl Try.prog 56 [0, 1, 2] = some [(0, 1), (1, 1), (2, 1)] := by kernel_rfl
theorem sz_3 : szOf Try.prog 3 = some 1 := by kernel_rfl
theorem sz_5 : szOf Try.prog 5 = some 1 := by kernel_rfl
theorem sz_41 : szOf Try.prog 41 = some 6 := by kernel_rfl
theorem sz_45 : szOf Try.prog 45 = some 1 := by kernel_rfl
theorem sz_46 : szOf Try.prog 46 = some 1 := by kernel_rfl
theorem sz_59 : szOf Try.prog 59 = some 64 := by kernel_rfl
theorem zr_9 : zeroOf Try.prog 9 = some (some (.string ⟨#[]⟩)) := by kernel_rfl
theorem zr_48 : zeroOf Try.prog 48 = some (some (.agg #[(.pointer none), (.slice none 0 0)])) := by kernel_rfl
theorem zr_56 : zeroOf Try.prog 56 = some (some (.agg #[(.map none), (.map none), (.map none), (.int .i64 0)])) := by kernel_rfl
theorem zr_60 : zeroOf Try.prog 60 = some (some (.map none)) := by kernel_rfl
end Go.Proofs.Ytieelilkkpcmdaa
