/- Closed facts of the program: offsets, sizes, zero values. -/
import Derived.Test.YtgnhfhhmipcgcaaDoorShf
namespace Go.Proofs.YtgnhfhhmipcgcaaDoor
open Go.RowKit M
theorem ag_3 : aggB Tryd.prog 3 = some false := by kernel_rfl
theorem ag_4 : aggB Tryd.prog 4 = some false := by kernel_rfl
theorem ag_9 : aggB Tryd.prog 9 = some false := by kernel_rfl
theorem ag_31 : aggB Tryd.prog 31 = some true := by kernel_rfl
theorem ag_39 : aggB Tryd.prog 39 = some true := by kernel_rfl
theorem ag_45 : aggB Tryd.prog 45 = some false := by kernel_rfl
theorem asz_39 : allSz Tryd.prog 39 = true := by kernel_rfl
theorem asz_48 : allSz Tryd.prog 48 = true := by kernel_rfl
theorem asz_67 : allSz Tryd.prog 67 = true := by kernel_rfl
theorem cal_5 : callB Tryd.prog 5 = true := by kernel_rfl
theorem cal_6 : callB Tryd.prog 6 = true := by kernel_rfl
theorem cal_7 : callB Tryd.prog 7 = true := by kernel_rfl
theorem cal_8 : callB Tryd.prog 8 = true := by kernel_rfl
theorem cal_9 : callB Tryd.prog 9 = true := by kernel_rfl
theorem cal_10 : callB Tryd.prog 10 = true := by kernel_rfl
theorem cal_11 : callB Tryd.prog 11 = true := by kernel_rfl
theorem cal_12 : callB Tryd.prog 12 = true := by kernel_rfl
theorem cal_13 : callB Tryd.prog 13 = true := by kernel_rfl
theorem cal_14 : callB Tryd.prog 14 = true := by kernel_rfl
theorem cal_15 : callB Tryd.prog 15 = true := by kernel_rfl
theorem cal_16 : callB Tryd.prog 16 = true := by kernel_rfl
theorem cal_17 : callB Tryd.prog 17 = true := by kernel_rfl
theorem cal_18 : callB Tryd.prog 18 = true := by kernel_rfl
theorem cal_19 : callB Tryd.prog 19 = true := by kernel_rfl
theorem cal_20 : callB Tryd.prog 20 = true := by kernel_rfl
theorem cal_21 : callB Tryd.prog 21 = true := by kernel_rfl
theorem cal_22 : callB Tryd.prog 22 = true := by kernel_rfl
theorem cal_23 : callB Tryd.prog 23 = true := by kernel_rfl
theorem cal_24 : callB Tryd.prog 24 = true := by kernel_rfl
theorem cal_25 : callB Tryd.prog 25 = true := by kernel_rfl
theorem cal_26 : callB Tryd.prog 26 = true := by kernel_rfl
theorem cal_27 : callB Tryd.prog 27 = true := by kernel_rfl
theorem cal_28 : callB Tryd.prog 28 = true := by kernel_rfl
theorem cal_29 : callB Tryd.prog 29 = true := by kernel_rfl
theorem cal_30 : callB Tryd.prog 30 = true := by kernel_rfl
theorem cal_31 : callB Tryd.prog 31 = true := by kernel_rfl
theorem cal_32 : callB Tryd.prog 32 = true := by kernel_rfl
theorem cal_33 : callB Tryd.prog 33 = true := by kernel_rfl
theorem cal_34 : callB Tryd.prog 34 = true := by kernel_rfl
theorem cal_39 : callB Tryd.prog 39 = true := by kernel_rfl
theorem cal_47 : callB Tryd.prog 47 = true := by kernel_rfl
theorem cal_53 : callB Tryd.prog 53 = true := by kernel_rfl
theorem cal_80 : callB Tryd.prog 80 = true := by kernel_rfl
theorem cal_81 : callB Tryd.prog 81 = true := by kernel_rfl
theorem cal_82 : callB Tryd.prog 82 = true := by kernel_rfl
theorem cal_83 : callB Tryd.prog 83 = true := by kernel_rfl
theorem cal_84 : callB Tryd.prog 84 = true := by kernel_rfl
theorem cal_85 : callB Tryd.prog 85 = true := by kernel_rfl
theorem es_22 : elemSz Tryd.prog 22 = some 5 := by kernel_rfl
theorem fo_31_0 : fldOff Tryd.prog 31 0 = some 0 := by kernel_rfl
theorem fo_31_1 : fldOff Tryd.prog 31 1 = some 1 := by kernel_rfl
theorem fo_31_2 : fldOff Tryd.prog 31 2 = some 2 := by kernel_rfl
theorem fo_31_3 : fldOff Tryd.prog 31 3 = some 3 := by kernel_rfl
theorem fo_31_4 : fldOff Tryd.prog 31 4 = some 4 := by kernel_rfl
theorem fo_39_0 : fldOff Tryd.prog 39 0 = some 0 := by kernel_rfl
theorem fo_39_1 : fldOff Tryd.prog 39 1 = some 1 := by kernel_rfl
theorem fo_39_2 : fldOff Tryd.prog 39 2 = some 2 := by kernel_rfl
theorem fo_48_0 : fldOff Tryd.prog 48 0 = some 0 := by kernel_rfl
theorem fo_67_0 : fldOff Tryd.prog 67 0 = some 0 := by kernel_rfl
theorem fo_67_1 : fldOff Tryd.prog 67 1 = some 1 := by kernel_rfl
theorem ifo_9 : (Tryd.prog.info? 9).map (fun i => (i.zero, i.size, i.bytes)) = some (some (.string ⟨#[]⟩), 1, 16) := by kernel_rfl
theorem ifz_9 : (Tryd.prog.info? 9).map (fun i => (i.zero, i.size)) = some (some (.string ⟨#[]⟩), 1) := by kernel_rfl
theorem mix : Tryd.prog.follows .mixedOrders = true := by kernel_rfl
theorem nif_25 : notIface Tryd.prog 25 = true := by kernel_rfl
theorem pl_39_ : structPl Tryd.prog 39 [] = some [] := by kernel_rfl
theorem pl_39_0_1_2 : structPl Tryd.prog 39 [0, 1, 2] = some [(0, 1), (1, 1), (2, 1)] := by kernel_rfl
theorem pl_48_0_1_2 : structPl Tryd.prog 48 [0, 1, 2] = some [(0, 1), (1, 1), (2, 1)] := by kernel_rfl
theorem pl_67_0 : structPl Tryd.prog 67 [0] = some [(0, 1)] := by kernel_rfl
theorem sz_3 : szOf Tryd.prog 3 = some 1 := by kernel_rfl
theorem sz_4 : szOf Tryd.prog 4 = some 1 := by kernel_rfl
theorem sz_9 : szOf Tryd.prog 9 = some 1 := by kernel_rfl
theorem sz_31 : szOf Tryd.prog 31 = some 5 := by kernel_rfl
theorem sz_39 : szOf Tryd.prog 39 = some 3 := by kernel_rfl
theorem zr_9 : zeroOf Tryd.prog 9 = some (some (.string ⟨#[]⟩)) := by kernel_rfl
theorem zr_31 : zeroOf Tryd.prog 31 = some (some (.agg #[(.int .i64 0), (.string ⟨#[]⟩), (.bool false), (.int .i64 0), (.string ⟨#[]⟩)])) := by kernel_rfl
theorem zr_39 : zeroOf Tryd.prog 39 = some (some (.agg #[(.string ⟨#[]⟩), (.int .i64 0), (.int .i64 0)])) := by kernel_rfl
theorem zr_48 : zeroOf Tryd.prog 48 = some (some (.agg #[(.map none), (.map none), (.map none), (.int .i64 0)])) := by kernel_rfl
theorem zr_67 : zeroOf Tryd.prog 67 = some (some (.agg #[(.string ⟨#[]⟩), (.bool false)])) := by kernel_rfl
end Go.Proofs.YtgnhfhhmipcgcaaDoor
