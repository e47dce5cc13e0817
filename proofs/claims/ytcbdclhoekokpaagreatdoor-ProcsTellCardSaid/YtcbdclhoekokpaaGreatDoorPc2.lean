/- procs: Bytes -/
import Derived.Test.YtcbdclhoekokpaaGreatDoorPc1
namespace Go.Proofs.YtcbdclhoekokpaaGreatDoor
open Go.RowKit M
set_option linter.unusedVariables false
def hq (x : ProcD) (j : Nat) : Int := x.hs.getD j 0
def tq (x : ProcD) (j : Nat) : Int := x.ts.getD j 0
/-- a record's cells: av and fv are the slices of its areas and descriptors -/
def procV (x : ProcD) (av fv : Value) : List Value := [intV (hq x 0), intV (hq x 1), intV (hq x 2), intV (hq x 3), intV (hq x 4), intV (hq x 5), intV (hq x 6), intV (hq x 7), intV (hq x 8), intV (hq x 9), intV (hq x 10), intV (hq x 11), intV (hq x 12), intV (hq x 13), intV (hq x 14), intV (hq x 15), intV (hq x 16), intV (hq x 17), intV (hq x 18), av, fv, strV x.cwd, intV (tq x 0), intV (tq x 1), intV (tq x 2), .bool (decide (tq x 3 = 1)), intV (tq x 4), .bool (decide (tq x 5 = 1)), intV (tq x 6), .bool (decide (tq x 7 = 1)), intV (tq x 8), .bool (decide (tq x 9 = 1)), intV (tq x 10), .bool (decide (tq x 11 = 1)), intV (tq x 12), .bool (decide (tq x 13 = 1)), intV (tq x 14), .bool (decide (tq x 15 = 1)), intV (tq x 16), .bool (decide (tq x 17 = 1)), intV (tq x 18), .bool (decide (tq x 19 = 1)), intV (tq x 20), .bool (decide (tq x 21 = 1)), intV (tq x 22), .bool (decide (tq x 23 = 1)), intV (tq x 24), .bool (decide (tq x 25 = 1)), intV (tq x 26), .bool (decide (tq x 27 = 1)), intV (tq x 28), .bool (decide (tq x 29 = 1)), intV (tq x 30), .bool (decide (tq x 31 = 1)), intV (tq x 32), .bool (decide (tq x 33 = 1)), intV (tq x 34), intV (tq x 35), intV (tq x 36), intV (tq x 37), strV x.shl]
def arV6 (y : ArD) : List Value := [intV y.a, intV y.n, strV y.o, intV y.f, .bool y.sh, .bool y.wr]
def arC : RowC ArD := ⟨arV6, 6, by decide, fun _ => rfl, fun _ => rfl⟩
theorem getD_in {l : List Int} (h : ∀ n ∈ l, inI n) (j : Nat) : inI (l.getD j 0) := by
  rw [List.getD_eq_getElem?_getD]
  cases hj : l[j]? with
  | none => show inI 0; unfold inI; omega
  | some n => exact h n (List.mem_of_getElem? hj)
theorem hq_in {x : ProcD} (h : WFR x) (j : Nat) : inI (hq x j) := getD_in h.hi j
theorem tq_in {x : ProcD} (h : WFR x) (j : Nat) : inI (tq x j) := getD_in h.ti j
theorem all_hq {x : ProcD} (h : WFR x) (js : List Nat) : ∀ n ∈ js.map (hq x), inI n := fun n hn => by
  obtain ⟨j, _, rfl⟩ := List.mem_map.1 hn; exact hq_in h j
theorem all_tq {x : ProcD} (h : WFR x) (js : List Nat) : ∀ n ∈ js.map (tq x), inI n := fun n hn => by
  obtain ⟨j, _, rfl⟩ := List.mem_map.1 hn; exact tq_in h j
theorem list_getD {l : List Int} {n : Nat} (h : l.length = n) : l = (List.range n).map fun j => l.getD j 0 := by
  apply List.ext_getElem?
  intro i
  rw [List.getElem?_map]
  by_cases hi : i < n
  · rw [List.getElem?_range hi, List.getElem?_eq_getElem (by omega)]
    simp [List.getD_eq_getElem?_getD, List.getElem?_eq_getElem (show i < l.length by omega)]
  · rw [List.getElem?_eq_none (by omega), List.getElem?_eq_none (by simp; omega)]; rfl
theorem hs_all {x : ProcD} (h : WFR x) : encIs ([0, 1, 2, 3, 4, 5, 6, 7, 8, 9].map (hq x)) ++ encIs ([10, 11, 12, 13, 14, 15, 16, 17].map (hq x)) ++ encIs ([18].map (hq x)) = encIs x.hs := by
  have e : x.hs = [0, 1, 2, 3, 4, 5, 6, 7, 8, 9, 10, 11, 12, 13, 14, 15, 16, 17, 18].map (hq x) := list_getD h.hl
  conv => rhs; rw [e]
  simp [encIs, List.append_assoc]
theorem ts_all {x : ProcD} (h : WFR x) : encIs ((List.range 34).map (tq x)) ++ encIs ([34, 35, 36, 37].map (tq x)) = encIs x.ts := by
  have e : x.ts = (List.range 34 ++ [34, 35, 36, 37]).map (tq x) := list_getD h.tl
  conv => rhs; rw [e]
  simp [encIs]
theorem ts_two {x : ProcD} (h : WFR x) {i : Nat} (hi : i < 16) : encIs ((List.range (2 + 2 * (i + 1))).map (tq x)) = encIs ((List.range (2 + 2 * i)).map (tq x)) ++ encIs [tq x (2 + 2 * i), bitN (decide (tq x (3 + 2 * i) = 1))] := by
  have hf := h.fl
  unfold flagsOk at hf
  rw [List.all_eq_true] at hf
  have h1 := bit_fl (hf i (List.mem_range.2 hi))
  have h2 : (x.ts[3 + 2 * i]?).getD 0 = tq x (3 + 2 * i) := by unfold tq; rw [List.getD_eq_getElem?_getD]
  rw [h2] at h1
  rw [h1, show 2 + 2 * (i + 1) = 2 + 2 * i + 1 + 1 by omega, List.range_succ, List.range_succ, show 2 + 2 * i + 1 = 3 + 2 * i by omega]
  simp [encIs]
theorem reg_at (x : ProcD) (av fv : Value) : ∀ (i : Nat) (y : Int), ([10, 11, 12, 13, 14, 15, 16, 17].map (hq x))[i]? = some y → (procV x av fv)[10 + i]? = some (intV y)
  | 0, y, h => by cases h; rfl
  | 1, y, h => by cases h; rfl
  | 2, y, h => by cases h; rfl
  | 3, y, h => by cases h; rfl
  | 4, y, h => by cases h; rfl
  | 5, y, h => by cases h; rfl
  | 6, y, h => by cases h; rfl
  | 7, y, h => by cases h; rfl
  | _ + 8, _, h => by simp at h
def actU (x : ProcD) (j : Nat) : List Value := [intV (tq x (2 + 2 * j)), .bool (decide (tq x (3 + 2 * j) = 1))]
theorem act_at (x : ProcD) (av fv : Value) : ∀ (j : Nat), j < 16 → (((procV x av fv).drop 24).take 32).toArray.extract (j * 2) (j * 2 + 2) = (actU x j).toArray
  | 0, _ => rfl
  | 1, _ => rfl
  | 2, _ => rfl
  | 3, _ => rfl
  | 4, _ => rfl
  | 5, _ => rfl
  | 6, _ => rfl
  | 7, _ => rfl
  | 8, _ => rfl
  | 9, _ => rfl
  | 10, _ => rfl
  | 11, _ => rfl
  | 12, _ => rfl
  | 13, _ => rfl
  | 14, _ => rfl
  | 15, _ => rfl
  | _ + 16, h => absurd h (by omega)
theorem ars_len (l : List ArD) (i : Nat) : ((l.take i).flatMap encAr).length ≤ (l.flatMap encAr).length := by
  conv => rhs; rw [← List.take_append_drop i l, List.flatMap_append, List.length_append]
  omega
theorem ars_succ {l : List ArD} {i : Nat} {y : ArD} (h : l[i]? = some y) : (l.take (i + 1)).flatMap encAr = (l.take i).flatMap encAr ++ encIs [y.a, y.n] ++ encT y.o ++ encIs [y.f, bitN y.sh, bitN y.wr] := by
  rw [List.take_add_one, h]; simp [encAr, encIs, List.append_assoc]
theorem encR_len (x : ProcD) : (encR x).length = (encIs x.hs).length + (encN (x.ar.length : Int)).length + (x.ar.flatMap encAr).length + (encTs x.fds).length + (encT x.cwd).length + (encIs x.ts).length + (encT x.shl).length := by
  simp only [encR, List.length_append]
attribute [irreducible] hq tq
theorem wNum_sp {w : World} {F : Th} (hS : Sat w [F]) (hG : Ent F WireG) (n : Int) (hn : inI n) (h0 : 0 ≤ n) :
    Calls Tryz.prog 64 #[intV n] w (Ret fun v w' => v = strV (encN n) ∧ Sat w' [F]) := by
  refine calls_enter Tryz.func64 rfl Tryz.ntmps64 rfl ?_
  refine wc_seq ?_
  refine wc_region ?_
  refine wl_assign rfl rfl ?_
  refine wl_nil ?_
  refine qs_seq ?_
  refine wc_seq ?_
  refine wc_seq ?_
  refine wc_region ?_
  refine wl_move rfl rfl ?_
  refine wl_lss rfl rfl rfl ?_
  refine wl_nil ?_
  refine qs_seq ?_
  refine wc_condD rfl (fun h1 => ?_) (fun h1 => ?_)
  · skip
    exact absurd h1 (by omega)
  refine wc_skip ?_
  refine qs_seq ?_
  refine wc_seq ?_
  refine wc_region ?_
  refine wl_move rfl rfl ?_
  have hC2 := hS.split [] [false] rfl; dsimp only [selF, pickA, nthA, List.cons_append, List.nil_append] at hC2
  refine wl_call cal_63 rfl (wInt_sp hC2 (hG.starL 0 rfl) n hn) rfl ?_
  rintro e w2 ⟨_, rfl, rfl, hS2⟩; refine ⟨_, rfl, ?_⟩
  replace hS2 := hS2.join rfl; dsimp only [List.dropLast, List.cons_append, List.nil_append] at hS2; clear hC2
  refine wl_assign rfl rfl ?_
  refine wl_nil ?_
  refine qs_seq ?_
  refine wc_ret ?_
  refine fin1 (.inr rfl) rfl rfl ?_
  exact ⟨_, rfl, rfl, hS2⟩
set_option maxRecDepth 100000 in
set_option maxHeartbeats 2000000 in
theorem bytesP_sp {w : World} {F : Th} (hS : Sat w [F]) (hG : Ent F WireG) {x : ProcD} (hw : WFR x) {av fv : Value} (hA : Ent F (RdL arC av x.ar)) (hB : Ent F (RdL stC fv x.fds)) (hz : (encR x).length ≤ 100000000) :
    Calls Tryz.prog 22 #[.agg (procV x av fv).toArray] w (Ret fun v w' => v = strV (encR x) ∧ Sat w' [F]) := by
  obtain ⟨aa, ac, rfl, hma⟩ := (hA.sat hS 0 rfl).shape
  obtain ⟨fa, fc, rfl, hmf⟩ := (hB.sat hS 0 rfl).shape
  refine calls_enter Tryz.func22 rfl Tryz.ntmps22 rfl ?_
  have hel := encR_len x
  have hnl := encN_len (n := (x.ar.length : Int)) (by have := hw.al; unfold inI; omega)
  refine wc_seq ?_
  refine wc_region ?_
  refine wl_box hS rfl rfl rfl ?_
  intro bp wp hSp0
  have hSp : Sat wp [blkT bp (procV x (.slice aa x.ar.length ac) (.slice fa x.fds.length fc)), F] := hSp0
  refine wl_assign rfl rfl ?_
  refine wl_nil ?_
  refine qs_seq ?_
  refine wc_seq ?_
  refine wc_region ?_
  refine wl_allocT hSp zr_101 (cs := [.pointer none, .slice none 0 0]) rfl rfl ?_
  intro bb wB hSB
  have hSC := bldT_shut (.inl rfl) ((bufT_nil hSB).perm (List.Perm.swap _ _ _))
  refine wl_nil ?_
  refine qs_seq ?_
  refine wc_seq ?_
  refine wc_region ?_
  refine wl_makeFunc rfl rfl ?_
  refine wl_assign rfl rfl ?_
  refine wl_nil ?_
  refine qs_seq ?_
  refine wc_seq ?_
  refine wc_region ?_
  refine wl_move rfl rfl ?_
  refine wl_fieldAddr rfl fo_38_0 rfl ?_
  refine wl_load rfl ag_3 (by first | assumption | exact hSC.cell 0 rfl rfl | exact hSC.cell 1 rfl rfl) rfl ?_
  refine wl_fieldAddr rfl fo_38_1 rfl ?_
  refine wl_load rfl ag_3 (by first | assumption | exact hSC.cell 0 rfl rfl | exact hSC.cell 1 rfl rfl) rfl ?_
  refine wl_fieldAddr rfl fo_38_2 rfl ?_
  refine wl_load rfl ag_3 (by first | assumption | exact hSC.cell 0 rfl rfl | exact hSC.cell 1 rfl rfl) rfl ?_
  refine wl_fieldAddr rfl fo_38_3 rfl ?_
  refine wl_load rfl ag_3 (by first | assumption | exact hSC.cell 0 rfl rfl | exact hSC.cell 1 rfl rfl) rfl ?_
  refine wl_fieldAddr rfl fo_38_4 rfl ?_
  refine wl_load rfl ag_3 (by first | assumption | exact hSC.cell 0 rfl rfl | exact hSC.cell 1 rfl rfl) rfl ?_
  refine wl_fieldAddr rfl fo_38_5 rfl ?_
  refine wl_load rfl ag_3 (by first | assumption | exact hSC.cell 0 rfl rfl | exact hSC.cell 1 rfl rfl) rfl ?_
  refine wl_fieldAddr rfl fo_38_6 rfl ?_
  refine wl_load rfl ag_3 (by first | assumption | exact hSC.cell 0 rfl rfl | exact hSC.cell 1 rfl rfl) rfl ?_
  refine wl_fieldAddr rfl fo_38_7 rfl ?_
  refine wl_load rfl ag_3 (by first | assumption | exact hSC.cell 0 rfl rfl | exact hSC.cell 1 rfl rfl) rfl ?_
  refine wl_fieldAddr rfl fo_38_8 rfl ?_
  refine wl_load rfl ag_3 (by first | assumption | exact hSC.cell 0 rfl rfl | exact hSC.cell 1 rfl rfl) rfl ?_
  refine wl_fieldAddr rfl fo_38_9 rfl ?_
  refine wl_load rfl ag_3 (by first | assumption | exact hSC.cell 0 rfl rfl | exact hSC.cell 1 rfl rfl) rfl ?_
  refine wl_intsBuild ([0, 1, 2, 3, 4, 5, 6, 7, 8, 9].map (hq x)) hSC rfl rfl Tryz.underlying46 ifz_3 rfl rfl rfl rfl ?_
  intro b1 w1 hS1
  clear hSC
  have hC2 := hS1.split [1] [false, true, false, false] rfl; dsimp only [selF, pickA, nthA, List.cons_append, List.nil_append] at hC2
  refine wl_callV rfl cal_61 rfl (ints_sp hC2 (hG.starL 2 rfl) (Ent.starL (ent_row (C := inC) (l := ([0, 1, 2, 3, 4, 5, 6, 7, 8, 9].map (hq x))) (by simp)) 0 rfl) (all_hq hw _) (by simp) (by first | omega | (simp only [List.length_append]; omega) | (simp; done) | (simp; omega))) rfl ?_
  rintro e w2 ⟨_, rfl, rfl, hS2⟩; refine ⟨_, rfl, ?_⟩
  replace hS2 := hS2.join rfl; dsimp only [List.dropLast, List.cons_append, List.nil_append] at hS2; clear hC2
  clear hS1
  refine wl_nil ?_
  refine qs_seq ?_
  refine wc_sub (L' := [(4, _), (3, _), (2, _), (1, _)]) (.cons rfl (.cons rfl (.cons rfl (.cons rfl .nil)))) ?_
  refine wc_seq ?_
  have hq1 := encIs_len (all_hq hw [0, 1, 2, 3, 4, 5, 6, 7, 8, 9])
  have hq2 := encIs_len (all_hq hw [10, 11, 12, 13, 14, 15, 16, 17])
  rw [List.length_map] at hq1 hq2
  simp only [List.length_cons, List.length_nil] at hq1 hq2
  refine wc_region ?_
  refine wl_move rfl rfl ?_
  refine wl_fieldAddr rfl fo_38_10 rfl ?_
  refine wl_fieldAddr rfl fo_29_0 rfl ?_
  refine wl_sliceArr Tryz.underlying27 rfl rfl sz_3 rfl ?_
  have hC3 := hS2.split [0] [true, false, false, false] rfl; dsimp only [selF, pickA, nthA, List.cons_append, List.nil_append] at hC3
  refine wl_callV rfl cal_61 rfl (ints_sp hC3 (hG.starL 2 rfl) (Ent.starL (ent_blkI (b := bp) (o := 10) (cs := (procV x (.slice aa x.ar.length ac) (.slice fa x.fds.length fc))) (l := ([10, 11, 12, 13, 14, 15, 16, 17].map (hq x))) rfl (by simp) (reg_at _ _ _)) 1 rfl) (all_hq hw _) (by simp) (by first | omega | (simp only [List.length_append]; omega) | (simp; done) | (simp; omega))) rfl ?_
  rintro e w3 ⟨_, rfl, rfl, hS3⟩; refine ⟨_, rfl, ?_⟩
  replace hS3 := hS3.join rfl; dsimp only [List.dropLast, List.cons_append, List.nil_append] at hS3; clear hC3
  clear hS2
  refine wl_nil ?_
  refine qs_seq ?_
  refine wc_seq ?_
  refine wc_region ?_
  refine wl_move rfl rfl ?_
  refine wl_fieldAddr rfl fo_38_10 rfl ?_
  refine wl_fieldAddr rfl fo_29_1 rfl ?_
  refine wl_load rfl ag_3 (by first | assumption | exact hS3.cell 0 rfl rfl | exact hS3.cell 2 rfl rfl) rfl ?_
  refine wl_intsBuild ([18].map (hq x)) hS3 rfl rfl Tryz.underlying46 ifz_3 rfl rfl rfl rfl ?_
  intro b4 w4 hS4
  clear hS3
  have hC5 := hS4.split [1] [false, true, false, false, false] rfl; dsimp only [selF, pickA, nthA, List.cons_append, List.nil_append] at hC5
  refine wl_callV rfl cal_61 rfl (ints_sp hC5 (hG.starL 3 rfl) (Ent.starL (ent_row (C := inC) (l := ([18].map (hq x))) (by simp)) 0 rfl) (all_hq hw _) (by simp) (by first | omega | (simp only [List.length_append]; omega) | (simp; done) | (simp; omega))) rfl ?_
  rintro e w5 ⟨_, rfl, rfl, hS5⟩; refine ⟨_, rfl, ?_⟩
  replace hS5 := hS5.join rfl; dsimp only [List.dropLast, List.cons_append, List.nil_append] at hS5; clear hC5
  clear hS4
  refine wl_nil ?_
  refine qs_seq ?_
  refine wc_sub (L' := [(4, _), (3, _), (2, _), (1, _)]) (.cons rfl (.cons rfl (.cons rfl (.cons rfl .nil)))) ?_
  refine wc_seq ?_
  rw [hs_all hw] at hS5
  refine wc_region ?_
  refine wl_fieldAddr rfl fo_38_11 rfl ?_
  refine wl_load rfl ag_30 (by first | assumption | exact hS5.cell 0 rfl rfl | exact hS5.cell 3 rfl rfl) rfl ?_
  first | refine wl_lenL Tryz.underlying30 rfl rfl ?_ | refine wl_lenO 1 hS5 Tryz.underlying30 rfl rfl rfl ?_ | refine wl_lenO 2 hS5 Tryz.underlying30 rfl rfl rfl ?_
  have hC6 := hS5.split [] [false, false, false, false, false] rfl; dsimp only [selF, pickA, nthA, List.cons_append, List.nil_append] at hC6
  refine wl_call cal_64 rfl (wNum_sp hC6 (hG.starL 4 rfl) (x.ar.length : Int) (by have := hw.al; unfold inI; omega) (by omega)) rfl ?_
  rintro e w6 ⟨_, rfl, rfl, hS6⟩; refine ⟨_, rfl, ?_⟩
  replace hS6 := hS6.join rfl; dsimp only [List.dropLast, List.cons_append, List.nil_append] at hS6; clear hC6
  clear hS5
  have hC7 := hS6.split [0] [true, false, false, false, false] rfl; dsimp only [selF, pickA, nthA, List.cons_append, List.nil_append] at hC7
  refine wl_call cal_62 rfl (bl_writeString hC7 (encN (x.ar.length : Int)) (by first | omega | (simp only [List.length_append]; omega) | (simp; done) | (simp; omega))) rfl ?_
  rintro e w7 ⟨_, rfl, rfl, hS7⟩; refine ⟨_, rfl, ?_⟩
  replace hS7 := hS7.join rfl; dsimp only [List.dropLast, List.cons_append, List.nil_append] at hS7; clear hC7
  clear hS6
  refine wl_nil ?_
  refine qs_seq ?_
  refine wc_seq ?_
  refine wc_seq ?_
  refine wc_region ?_
  refine wl_fieldAddr rfl fo_38_11 rfl ?_
  refine wl_load rfl ag_30 (by first | assumption | exact hS7.cell 0 rfl rfl | exact hS7.cell 3 rfl rfl) rfl ?_
  first | refine wl_lenL Tryz.underlying30 rfl rfl ?_ | refine wl_lenO 1 hS7 Tryz.underlying30 rfl rfl rfl ?_ | refine wl_lenO 2 hS7 Tryz.underlying30 rfl rfl rfl ?_
  refine wl_move rfl rfl ?_
  refine wl_nil ?_
  refine qs_seq ?_
  refine wc_sub (L' := [(52, _), (51, _), (50, _), (4, _), (3, _), (2, _), (1, _)]) (.cons rfl (.cons rfl (.cons rfl (.cons rfl (.cons rfl (.cons rfl (.cons rfl .nil))))))) ?_
  refine wc_block ?_
  refine wc_loop (fun K0 E0 W0 => ∃ (i : Nat), K0 = x.ar.length - i ∧ E0 = [(1, ptrV bp 0), (3, ptrV bb 0), (4, .func (.func 61) #[] #[ptrV bb 0]), (50, .slice aa x.ar.length ac), (51, intV (x.ar.length : Int)), (52, intV (i : Int))] ∧ Sat W0 [bldT bb (encIs x.hs ++ encN (x.ar.length : Int) ++ (x.ar.take i).flatMap encAr), blkT bp (procV x (.slice aa x.ar.length ac) (.slice fa x.fds.length fc)), F] ∧ (i ≤ x.ar.length)) (L0 := [(1, _), (3, _), (4, _), (50, _), (51, _), (52, _)]) (x.ar.length - 0) (.cons rfl (.cons rfl (.cons rfl (.cons rfl (.cons rfl (.cons rfl .nil)))))) ⟨0, rfl, rfl, (by rw [List.take_zero, List.flatMap_nil, List.append_nil]; exact hS7.pick [0, 3, 4] rfl), by omega⟩ ?_
  rintro _ _ w8 ⟨i, rfl, rfl, hS8, hi⟩
  have hl0 : (encIs x.hs ++ encN (x.ar.length : Int) ++ (x.ar.take i).flatMap encAr).length = (encIs x.hs).length + (encN (x.ar.length : Int)).length + ((x.ar.take i).flatMap encAr).length := by simp only [List.length_append]
  have hal := ars_len x.ar i
  refine wc_seq ?_
  refine wc_region ?_
  refine wl_lss rfl rfl rfl ?_
  refine wl_nil ?_
  refine qs_seq ?_
  refine wc_seq ?_
  refine wc_condD rfl (fun h9 => ?_) (fun h9 => ?_)
  · skip
    obtain ⟨y, hy⟩ : ∃ y, x.ar[i]? = some y := ⟨_, List.getElem?_eq_getElem (by omega)⟩
    obtain ⟨b, off, rfl, hc⟩ := (hA.sat hS8 2 rfl).get hy
    have hwy := hw.ar y (List.mem_of_getElem? hy)
    have hsc := congrArg List.length (ars_succ hy)
    simp only [List.length_append] at hsc
    have hsl := ars_len x.ar (i + 1)
    refine wc_skip ?_
    refine qs_seq ?_
    refine wc_seq ?_
    refine wc_block ?_
    refine wc_seq ?_
    refine wc_region ?_
    refine wl_indexAddr i rfl rfl (by first | rfl | omega) (by omega) es_30 rfl ?_
    refine wl_loadAt rfl ag_89 sz_89 (vs := arV6 y) hc rfl ?_
    refine wl_alloc hS8 zr_89 rfl rfl ?_
    intro b10 w10 hS10
    clear hS8
    first | (refine wl_storeA hS10 rfl rfl sz_89 rfl (by first | rfl | (simp [allOne, Value.oneCell']; done) | assumption | exact hone) (i := 0) rfl (by first | decide | exact Nat.le_of_ble_eq_true rfl | (simp; done) | omega) ?_) | (refine wl_storeA hS10 rfl rfl sz_89 rfl (by first | rfl | (simp [allOne, Value.oneCell']; done) | assumption | exact hone) (i := 1) rfl (by first | decide | exact Nat.le_of_ble_eq_true rfl | (simp; done) | omega) ?_) | (refine wl_storeA hS10 rfl rfl sz_89 rfl (by first | rfl | (simp [allOne, Value.oneCell']; done) | assumption | exact hone) (i := 2) rfl (by first | decide | exact Nat.le_of_ble_eq_true rfl | (simp; done) | omega) ?_)
    intro w11 hS12; dsimp only [List.set] at hS12
    clear hS10
    refine wl_nil ?_
    refine qs_seq ?_
    refine wc_seq ?_
    refine wc_region ?_
    refine wl_move rfl rfl ?_
    refine wl_fieldAddr rfl fo_89_0 rfl ?_
    refine wl_load rfl ag_3 (by first | assumption | exact hS12.cell 0 rfl rfl | exact hS12.cell 1 rfl rfl | exact hS12.cell 2 rfl rfl) rfl ?_
    refine wl_fieldAddr rfl fo_89_1 rfl ?_
    refine wl_load rfl ag_3 (by first | assumption | exact hS12.cell 0 rfl rfl | exact hS12.cell 1 rfl rfl | exact hS12.cell 2 rfl rfl) rfl ?_
    refine wl_intsBuild [y.a, y.n] hS12 rfl rfl Tryz.underlying46 ifz_3 rfl rfl rfl rfl ?_
    intro b13 w13 hS13
    clear hS12
    have hC14 := hS13.split [2] [false, false, true, false, false] rfl; dsimp only [selF, pickA, nthA, List.cons_append, List.nil_append] at hC14
    refine wl_callV rfl cal_61 rfl (ints_sp hC14 (hG.starL 3 rfl) (Ent.starL (ent_row (C := inC) (l := [y.a, y.n]) (by simp)) 0 rfl) (by intro n hn; simp only [List.mem_cons, List.not_mem_nil, or_false] at hn; rcases hn with rfl | rfl; exact hwy.a; exact hwy.n) (by simp) (by first | omega | (simp only [List.length_append]; omega) | (simp; done) | (simp; omega))) rfl ?_
    rintro e w14 ⟨_, rfl, rfl, hS14⟩; refine ⟨_, rfl, ?_⟩
    replace hS14 := hS14.join rfl; dsimp only [List.dropLast, List.cons_append, List.nil_append] at hS14; clear hC14
    clear hS13
    refine wl_nil ?_
    refine qs_seq ?_
    refine wc_sub (L' := [(6, _), (1, _), (3, _), (4, _), (50, _), (51, _), (52, _)]) (.cons rfl (.cons rfl (.cons rfl (.cons rfl (.cons rfl (.cons rfl (.cons rfl .nil))))))) ?_
    refine wc_seq ?_
    refine wc_region ?_
    refine wl_fieldAddr rfl fo_89_2 rfl ?_
    refine wl_load rfl ag_9 (by first | assumption | exact hS14.cell 0 rfl rfl | exact hS14.cell 2 rfl rfl | exact hS14.cell 3 rfl rfl) rfl ?_
    have hC15 := hS14.split [] [false, false, false, false, false] rfl; dsimp only [selF, pickA, nthA, List.cons_append, List.nil_append] at hC15
    refine wl_call cal_65 rfl (wText_sp hC15 (hG.starL 4 rfl) y.o hwy.o) rfl ?_
    rintro e w15 ⟨_, rfl, rfl, hS15⟩; refine ⟨_, rfl, ?_⟩
    replace hS15 := hS15.join rfl; dsimp only [List.dropLast, List.cons_append, List.nil_append] at hS15; clear hC15
    clear hS14
    have hC16 := hS15.split [0] [true, false, false, false, false] rfl; dsimp only [selF, pickA, nthA, List.cons_append, List.nil_append] at hC16
    refine wl_call cal_62 rfl (bl_writeString hC16 (encT y.o) (by first | omega | (simp only [List.length_append]; omega) | (simp; done) | (simp; omega))) rfl ?_
    rintro e w16 ⟨_, rfl, rfl, hS16⟩; refine ⟨_, rfl, ?_⟩
    replace hS16 := hS16.join rfl; dsimp only [List.dropLast, List.cons_append, List.nil_append] at hS16; clear hC16
    clear hS15
    refine wl_nil ?_
    refine qs_seq ?_
    refine wc_sub (L' := [(6, _), (1, _), (3, _), (4, _), (50, _), (51, _), (52, _)]) (.cons rfl (.cons rfl (.cons rfl (.cons rfl (.cons rfl (.cons rfl (.cons rfl .nil))))))) ?_
    have hS17 := hS16.drew
    refine wc_draw [0, 1, 2, 3, 4, 6, 7, 5, 8, 9, 10] [5, 8, 9, 10] mix (by kernel_rfl) ?_
    refine vc_p rfl rfl rfl (fun _ => (ev_move rfl)) ?_
    refine vc_p rfl rfl rfl (fun _ => (ev_fieldAddr rfl fo_89_3)) ?_
    refine vc_q rfl rfl rfl (ev_load rfl ag_3 (by first | assumption | exact hS17.cell 0 rfl rfl | exact hS17.cell 2 rfl rfl | exact hS17.cell 3 rfl rfl)) ?_
    refine vc_p rfl rfl rfl (fun _ => (ev_fieldAddr rfl fo_89_4)) ?_
    refine vc_q rfl rfl rfl (ev_load rfl ag_4 (by first | assumption | exact hS17.cell 0 rfl rfl | exact hS17.cell 2 rfl rfl | exact hS17.cell 3 rfl rfl)) ?_
    refine vc_p rfl rfl rfl (fun _ => (ev_fieldAddr rfl fo_89_5)) ?_
    refine vc_q rfl rfl rfl (ev_load rfl ag_4 (by first | assumption | exact hS17.cell 0 rfl rfl | exact hS17.cell 2 rfl rfl | exact hS17.cell 3 rfl rfl)) ?_
    refine vc_s rfl rfl rfl rfl rfl rfl ?_
    have hC18 := hS17.split [] [false, false, false, false, false] rfl; dsimp only [selF, pickA, nthA, List.cons_append, List.nil_append] at hC18
    refine wl_call cal_66 rfl (bit_sp hC18 y.sh) rfl ?_
    rintro e w18 ⟨_, rfl, rfl, hS18⟩; refine ⟨_, rfl, ?_⟩
    replace hS18 := hS18.join rfl; dsimp only [List.dropLast, List.cons_append, List.nil_append] at hS18; clear hC18
    clear hS17
    refine vc_e (.cons (.inl ⟨rfl, (ev_load rfl ag_4 (by first | assumption | exact hS18.cell 0 rfl rfl | exact hS18.cell 2 rfl rfl | exact hS18.cell 3 rfl rfl))⟩) (.skip (by kernel_rfl) (.cons (.inl ⟨rfl, (ev_load rfl ag_3 (by first | assumption | exact hS18.cell 0 rfl rfl | exact hS18.cell 2 rfl rfl | exact hS18.cell 3 rfl rfl))⟩) .nil))) ?_
    refine vc_s rfl rfl rfl rfl rfl rfl ?_
    have hC19 := hS18.split [] [false, false, false, false, false] rfl; dsimp only [selF, pickA, nthA, List.cons_append, List.nil_append] at hC19
    refine wl_call cal_66 rfl (bit_sp hC19 y.wr) rfl ?_
    rintro e w19 ⟨_, rfl, rfl, hS19⟩; refine ⟨_, rfl, ?_⟩
    replace hS19 := hS19.join rfl; dsimp only [List.dropLast, List.cons_append, List.nil_append] at hS19; clear hC19
    clear hS18
    refine vc_e (.skip (by kernel_rfl) (.skip (by kernel_rfl) (.cons (.inl ⟨rfl, (ev_load rfl ag_3 (by first | assumption | exact hS19.cell 0 rfl rfl | exact hS19.cell 2 rfl rfl | exact hS19.cell 3 rfl rfl))⟩) .nil))) ?_
    refine vc_s rfl rfl rfl rfl rfl rfl ?_
    refine wl_intsBuild [y.f, bitN y.sh, bitN y.wr] hS19 rfl rfl Tryz.underlying46 ifz_3 rfl rfl rfl rfl ?_
    intro b20 w20 hS20
    clear hS19
    refine vc_e (.skip (by kernel_rfl) (.skip (by kernel_rfl) (.skip (by kernel_rfl) .nil))) ?_
    refine vc_s rfl rfl rfl rfl rfl rfl ?_
    have hC21 := hS20.split [1] [false, true, false, false, false, false] rfl; dsimp only [selF, pickA, nthA, List.cons_append, List.nil_append] at hC21
    refine wl_callV rfl cal_61 rfl (ints_sp hC21 (hG.starL 4 rfl) (Ent.starL (ent_row (C := inC) (l := [y.f, bitN y.sh, bitN y.wr]) (by simp)) 0 rfl) (by intro n hn; simp only [List.mem_cons, List.not_mem_nil, or_false] at hn; rcases hn with rfl | rfl | rfl; exact hwy.f; exact bit_in _; exact bit_in _) (by simp) (by first | omega | (simp only [List.length_append]; omega) | (simp; done) | (simp; omega))) rfl ?_
    rintro e w21 ⟨_, rfl, rfl, hS21⟩; refine ⟨_, rfl, ?_⟩
    replace hS21 := hS21.join rfl; dsimp only [List.dropLast, List.cons_append, List.nil_append] at hS21; clear hC21
    clear hS20
    refine vc_e (.skip (by kernel_rfl) (.skip (by kernel_rfl) (.skip (by kernel_rfl) .nil))) ?_
    refine VC.nil ?_
    refine qs_block_normal ?_
    refine qs_seq ?_
    refine wc_sub (L' := [(1, _), (3, _), (4, _), (50, _), (51, _), (52, _)]) (.cons rfl (.cons rfl (.cons rfl (.cons rfl (.cons rfl (.cons rfl .nil)))))) ?_
    refine wc_region ?_
    refine wl_add rfl rfl (by first | omega | (simp only [List.length_append]; omega) | (simp; done) | (simp; omega)) (by first | omega | (simp only [List.length_append]; omega) | (simp; done) | (simp; omega)) rfl ?_
    refine wl_move rfl rfl ?_
    refine wl_nil ?_
    exact qs_round (L1 := [(1, _), (3, _), (4, _), (50, _), (51, _), (52, intV ((i + 1 : Nat) : Int))]) (.cons rfl (.cons rfl (.cons rfl (.cons rfl (.cons rfl (.cons rfl .nil)))))) (k1 := x.ar.length - (i + 1)) (by omega) ⟨i + 1, rfl, rfl, (by rw [ars_succ hy, ← List.append_assoc, ← List.append_assoc, ← List.append_assoc]; exact hS21.pick [0, 4, 5] rfl), by omega⟩
  refine wc_exit ?_
  refine qs_then_exit ?_
  refine qs_then_exit ?_
  refine qs_block_exit ?_
  refine qs_seq ?_
  refine wc_seq ?_
  rw [List.take_of_length_le (show x.ar.length ≤ i by omega)] at hS8
  have hS22 := hS8.drew
  refine wc_draw [0, 1, 3, 4, 2, 5, 6, 7] [2, 5, 7] mix (by kernel_rfl) ?_
  refine vc_p rfl rfl rfl (fun _ => (ev_fieldAddr rfl fo_38_12)) ?_
  refine vc_q rfl rfl rfl (ev_load rfl ag_31 (by first | assumption | exact hS22.cell 0 rfl rfl | exact hS22.cell 1 rfl rfl)) ?_
  refine vc_p rfl rfl rfl (fun _ => (ev_fieldAddr rfl fo_38_13)) ?_
  refine vc_q rfl rfl rfl (ev_load rfl ag_9 (by first | assumption | exact hS22.cell 0 rfl rfl | exact hS22.cell 1 rfl rfl)) ?_
  refine vc_s rfl rfl rfl rfl rfl rfl ?_
  have hC23 := hS22.split [] [false, false, false] rfl; dsimp only [selF, pickA, nthA, List.cons_append, List.nil_append] at hC23
  refine wl_call cal_67 rfl (wTexts_sp hC23 (hG.starL 2 rfl) (hB.starL 2 rfl) hw.fdl hw.fd) rfl ?_
  rintro e w23 ⟨_, rfl, rfl, hS23⟩; refine ⟨_, rfl, ?_⟩
  replace hS23 := hS23.join rfl; dsimp only [List.dropLast, List.cons_append, List.nil_append] at hS23; clear hC23
  clear hS22
  refine vc_e (.cons (.inl ⟨rfl, (ev_load rfl ag_9 (by first | assumption | exact hS23.cell 0 rfl rfl | exact hS23.cell 1 rfl rfl))⟩) (.skip (by kernel_rfl) .nil)) ?_
  refine vc_s rfl rfl rfl rfl rfl rfl ?_
  have hC24 := hS23.split [] [false, false, false] rfl; dsimp only [selF, pickA, nthA, List.cons_append, List.nil_append] at hC24
  refine wl_call cal_65 rfl (wText_sp hC24 (hG.starL 2 rfl) x.cwd hw.cwd) rfl ?_
  rintro e w24 ⟨_, rfl, rfl, hS24⟩; refine ⟨_, rfl, ?_⟩
  replace hS24 := hS24.join rfl; dsimp only [List.dropLast, List.cons_append, List.nil_append] at hS24; clear hC24
  clear hS23
  refine vc_e (.skip (by kernel_rfl) (.skip (by kernel_rfl) .nil)) ?_
  refine vc_p rfl rfl rfl (fun _ => (ev_concat rfl rfl (by first | omega | (simp only [List.length_append]; omega) | (simp; done) | (simp; omega)))) ?_
  refine vc_s rfl rfl rfl rfl rfl rfl ?_
  have hC25 := hS24.split [0] [true, false, false] rfl; dsimp only [selF, pickA, nthA, List.cons_append, List.nil_append] at hC25
  refine wl_call cal_62 rfl (bl_writeString hC25 (encTs x.fds ++ encT x.cwd) (by first | omega | (simp only [List.length_append]; omega) | (simp; done) | (simp; omega))) rfl ?_
  rintro e w25 ⟨_, rfl, rfl, hS25⟩; refine ⟨_, rfl, ?_⟩
  replace hS25 := hS25.join rfl; dsimp only [List.dropLast, List.cons_append, List.nil_append] at hS25; clear hC25
  clear hS24
  refine vc_e (.skip (by kernel_rfl) (.skip (by kernel_rfl) .nil)) ?_
  refine VC.nil ?_
  refine qs_seq ?_
  refine wc_sub (L' := [(1, _), (3, _), (4, _)]) (.cons rfl (.cons rfl (.cons rfl .nil))) ?_
  refine wc_seq ?_
  rw [← List.append_assoc] at hS25
  refine wc_region ?_
  refine wl_move rfl rfl ?_
  refine wl_fieldAddr rfl fo_38_14 rfl ?_
  refine wl_load rfl ag_3 (by first | assumption | exact hS25.cell 0 rfl rfl | exact hS25.cell 1 rfl rfl) rfl ?_
  refine wl_fieldAddr rfl fo_38_15 rfl ?_
  refine wl_load rfl ag_3 (by first | assumption | exact hS25.cell 0 rfl rfl | exact hS25.cell 1 rfl rfl) rfl ?_
  refine wl_intsBuild ((List.range 2).map (tq x)) hS25 rfl rfl Tryz.underlying46 ifz_3 rfl rfl rfl rfl ?_
  intro b26 w26 hS26
  clear hS25
  have hC27 := hS26.split [1] [false, true, false, false] rfl; dsimp only [selF, pickA, nthA, List.cons_append, List.nil_append] at hC27
  refine wl_callV rfl cal_61 rfl (ints_sp hC27 (hG.starL 2 rfl) (Ent.starL (ent_row (C := inC) (l := ((List.range 2).map (tq x))) (by simp)) 0 rfl) (all_tq hw _) (by simp) (by first | omega | (simp only [List.length_append]; omega) | (simp; done) | (simp; omega))) rfl ?_
  rintro e w27 ⟨_, rfl, rfl, hS27⟩; refine ⟨_, rfl, ?_⟩
  replace hS27 := hS27.join rfl; dsimp only [List.dropLast, List.cons_append, List.nil_append] at hS27; clear hC27
  clear hS26
  refine wl_nil ?_
  refine qs_seq ?_
  refine wc_seq ?_
  refine wc_seq ?_
  refine wc_region ?_
  refine wl_fieldAddr rfl fo_38_16 rfl ?_
  refine wl_loadA rfl ag_34 sz_34 (by first | exact hS27.blk 0 rfl | exact hS27.blk 2 rfl) (by first | decide | exact Nat.le_of_ble_eq_true rfl | (simp; done) | omega) rfl rfl ?_
  refine wl_move rfl rfl ?_
  refine wl_nil ?_
  refine qs_seq ?_
  refine wc_sub (L' := [(96, _), (95, _), (1, _), (3, _), (4, _)]) (.cons rfl (.cons rfl (.cons rfl (.cons rfl (.cons rfl .nil))))) ?_
  refine wc_block ?_
  refine wc_loop (fun K0 E0 W0 => ∃ (i : Nat), K0 = 16 - i ∧ E0 = [(1, ptrV bp 0), (3, ptrV bb 0), (4, .func (.func 61) #[] #[ptrV bb 0]), (95, .agg (((procV x (.slice aa x.ar.length ac) (.slice fa x.fds.length fc)).drop 24).take 32).toArray), (96, intV (i : Int))] ∧ Sat W0 [bldT bb (encIs x.hs ++ encN (x.ar.length : Int) ++ x.ar.flatMap encAr ++ encTs x.fds ++ encT x.cwd ++ encIs ((List.range (2 + 2 * i)).map (tq x))), blkT bp (procV x (.slice aa x.ar.length ac) (.slice fa x.fds.length fc)), F] ∧ (i ≤ 16)) (L0 := [(1, _), (3, _), (4, _), (95, _), (96, _)]) (16 - 0) (.cons rfl (.cons rfl (.cons rfl (.cons rfl (.cons rfl .nil))))) ⟨0, rfl, rfl, hS27.pick [0, 2, 3] rfl, by omega⟩ ?_
  rintro _ _ w28 ⟨i, rfl, rfl, hS28, hi⟩
  have htl := encIs_len (all_tq hw (List.range (2 + 2 * i)))
  rw [List.length_map, List.length_range] at htl
  have hl1 : (encIs x.hs ++ encN (x.ar.length : Int) ++ x.ar.flatMap encAr ++ encTs x.fds ++ encT x.cwd ++ encIs ((List.range (2 + 2 * i)).map (tq x))).length = (encIs x.hs).length + (encN (x.ar.length : Int)).length + (x.ar.flatMap encAr).length + (encTs x.fds).length + (encT x.cwd).length + (encIs ((List.range (2 + 2 * i)).map (tq x))).length := by simp only [List.length_append]
  refine wc_seq ?_
  refine wc_region ?_
  refine wl_lss rfl rfl rfl ?_
  refine wl_nil ?_
  refine qs_seq ?_
  refine wc_seq ?_
  refine wc_condD rfl (fun h29 => ?_) (fun h29 => ?_)
  · skip
    refine wc_skip ?_
    refine qs_seq ?_
    refine wc_seq ?_
    refine wc_block ?_
    refine wc_seq ?_
    refine wc_region ?_
    refine wl_indexArr i (us := actU x i) Tryz.underlying34 rfl rfl rfl (by omega) ag_33 sz_33 (act_at _ _ _ i (by omega)) rfl ?_
    refine wl_alloc hS28 zr_33 rfl rfl ?_
    intro b30 w30 hS30
    clear hS28
    first | (refine wl_storeA hS30 rfl rfl sz_33 rfl (by first | rfl | (simp [allOne, Value.oneCell']; done) | assumption | exact hone) (i := 0) rfl (by first | decide | exact Nat.le_of_ble_eq_true rfl | (simp; done) | omega) ?_) | (refine wl_storeA hS30 rfl rfl sz_33 rfl (by first | rfl | (simp [allOne, Value.oneCell']; done) | assumption | exact hone) (i := 1) rfl (by first | decide | exact Nat.le_of_ble_eq_true rfl | (simp; done) | omega) ?_) | (refine wl_storeA hS30 rfl rfl sz_33 rfl (by first | rfl | (simp [allOne, Value.oneCell']; done) | assumption | exact hone) (i := 2) rfl (by first | decide | exact Nat.le_of_ble_eq_true rfl | (simp; done) | omega) ?_)
    intro w31 hS32; dsimp only [List.set] at hS32
    clear hS30
    refine wl_nil ?_
    refine qs_seq ?_
    have hS33 := hS32.drew
    refine wc_draw [0, 1, 2, 3, 4, 5, 6, 7] [5, 6, 7] mix (by kernel_rfl) ?_
    refine vc_p rfl rfl rfl (fun _ => (ev_move rfl)) ?_
    refine vc_p rfl rfl rfl (fun _ => (ev_fieldAddr rfl fo_33_0)) ?_
    refine vc_q rfl rfl rfl (ev_load rfl ag_3 (by first | assumption | exact hS33.cell 0 rfl rfl | exact hS33.cell 1 rfl rfl | exact hS33.cell 2 rfl rfl)) ?_
    refine vc_p rfl rfl rfl (fun _ => (ev_fieldAddr rfl fo_33_1)) ?_
    refine vc_q rfl rfl rfl (ev_load rfl ag_4 (by first | assumption | exact hS33.cell 0 rfl rfl | exact hS33.cell 1 rfl rfl | exact hS33.cell 2 rfl rfl)) ?_
    refine vc_s rfl rfl rfl rfl rfl rfl ?_
    have hC34 := hS33.split [] [false, false, false, false] rfl; dsimp only [selF, pickA, nthA, List.cons_append, List.nil_append] at hC34
    refine wl_call cal_66 rfl (bit_sp hC34 (decide (tq x (3 + 2 * i) = 1))) rfl ?_
    rintro e w34 ⟨_, rfl, rfl, hS34⟩; refine ⟨_, rfl, ?_⟩
    replace hS34 := hS34.join rfl; dsimp only [List.dropLast, List.cons_append, List.nil_append] at hS34; clear hC34
    clear hS33
    refine vc_e (.skip (by kernel_rfl) (.cons (.inl ⟨rfl, (ev_load rfl ag_3 (by first | assumption | exact hS34.cell 0 rfl rfl | exact hS34.cell 1 rfl rfl | exact hS34.cell 2 rfl rfl))⟩) .nil)) ?_
    refine vc_s rfl rfl rfl rfl rfl rfl ?_
    refine wl_intsBuild [tq x (2 + 2 * i), bitN (decide (tq x (3 + 2 * i) = 1))] hS34 rfl rfl Tryz.underlying46 ifz_3 rfl rfl rfl rfl ?_
    intro b35 w35 hS35
    clear hS34
    refine vc_e (.skip (by kernel_rfl) (.skip (by kernel_rfl) .nil)) ?_
    refine vc_s rfl rfl rfl rfl rfl rfl ?_
    have hC36 := hS35.split [2] [false, false, true, false, false] rfl; dsimp only [selF, pickA, nthA, List.cons_append, List.nil_append] at hC36
    refine wl_callV rfl cal_61 rfl (ints_sp hC36 (hG.starL 3 rfl) (Ent.starL (ent_row (C := inC) (l := [tq x (2 + 2 * i), bitN (decide (tq x (3 + 2 * i) = 1))]) (by simp)) 0 rfl) (by intro n hn; simp only [List.mem_cons, List.not_mem_nil, or_false] at hn; rcases hn with rfl | rfl; exact tq_in hw _; exact bit_in _) (by simp) (by first | omega | (simp only [List.length_append]; omega) | (simp; done) | (simp; omega))) rfl ?_
    rintro e w36 ⟨_, rfl, rfl, hS36⟩; refine ⟨_, rfl, ?_⟩
    replace hS36 := hS36.join rfl; dsimp only [List.dropLast, List.cons_append, List.nil_append] at hS36; clear hC36
    clear hS35
    refine vc_e (.skip (by kernel_rfl) (.skip (by kernel_rfl) .nil)) ?_
    refine VC.nil ?_
    refine qs_block_normal ?_
    refine qs_seq ?_
    refine wc_sub (L' := [(1, _), (3, _), (4, _), (95, _), (96, _)]) (.cons rfl (.cons rfl (.cons rfl (.cons rfl (.cons rfl .nil))))) ?_
    refine wc_region ?_
    refine wl_add rfl rfl (by first | omega | (simp only [List.length_append]; omega) | (simp; done) | (simp; omega)) (by first | omega | (simp only [List.length_append]; omega) | (simp; done) | (simp; omega)) rfl ?_
    refine wl_move rfl rfl ?_
    refine wl_nil ?_
    exact qs_round (L1 := [(1, _), (3, _), (4, _), (95, _), (96, intV ((i + 1 : Nat) : Int))]) (.cons rfl (.cons rfl (.cons rfl (.cons rfl (.cons rfl .nil))))) (k1 := 16 - (i + 1)) (by omega) ⟨i + 1, rfl, rfl, (by rw [ts_two hw (by omega), ← List.append_assoc]; exact hS36.pick [0, 3, 4] rfl), by omega⟩
  refine wc_exit ?_
  refine qs_then_exit ?_
  refine qs_then_exit ?_
  refine qs_block_exit ?_
  refine qs_seq ?_
  refine wc_seq ?_
  rw [show i = 16 by omega, show 2 + 2 * 16 = 34 from rfl] at hS28 hl1 htl
  refine wc_region ?_
  refine wl_move rfl rfl ?_
  refine wl_fieldAddr rfl fo_38_17 rfl ?_
  refine wl_fieldAddr rfl fo_36_0 rfl ?_
  refine wl_load rfl ag_3 (by first | assumption | exact hS28.cell 0 rfl rfl | exact hS28.cell 1 rfl rfl) rfl ?_
  refine wl_fieldAddr rfl fo_38_17 rfl ?_
  refine wl_fieldAddr rfl fo_36_1 rfl ?_
  refine wl_load rfl ag_3 (by first | assumption | exact hS28.cell 0 rfl rfl | exact hS28.cell 1 rfl rfl) rfl ?_
  refine wl_fieldAddr rfl fo_38_17 rfl ?_
  refine wl_fieldAddr rfl fo_36_2 rfl ?_
  refine wl_load rfl ag_3 (by first | assumption | exact hS28.cell 0 rfl rfl | exact hS28.cell 1 rfl rfl) rfl ?_
  refine wl_fieldAddr rfl fo_38_18 rfl ?_
  refine wl_load rfl ag_3 (by first | assumption | exact hS28.cell 0 rfl rfl | exact hS28.cell 1 rfl rfl) rfl ?_
  refine wl_intsBuild ([34, 35, 36, 37].map (tq x)) hS28 rfl rfl Tryz.underlying46 ifz_3 rfl rfl rfl rfl ?_
  intro b37 w37 hS37
  clear hS28
  have hC38 := hS37.split [1] [false, true, false, false] rfl; dsimp only [selF, pickA, nthA, List.cons_append, List.nil_append] at hC38
  refine wl_callV rfl cal_61 rfl (ints_sp hC38 (hG.starL 2 rfl) (Ent.starL (ent_row (C := inC) (l := ([34, 35, 36, 37].map (tq x))) (by simp)) 0 rfl) (all_tq hw _) (by simp) (by first | omega | (simp only [List.length_append]; omega) | (simp; done) | (simp; omega))) rfl ?_
  rintro e w38 ⟨_, rfl, rfl, hS38⟩; refine ⟨_, rfl, ?_⟩
  replace hS38 := hS38.join rfl; dsimp only [List.dropLast, List.cons_append, List.nil_append] at hS38; clear hC38
  clear hS37
  refine wl_nil ?_
  refine qs_seq ?_
  refine wc_sub (L' := [(1, _), (3, _)]) (.cons rfl (.cons rfl .nil)) ?_
  refine wc_seq ?_
  rw [List.append_assoc, ts_all hw] at hS38
  refine wc_region ?_
  refine wl_fieldAddr rfl fo_38_19 rfl ?_
  refine wl_load rfl ag_9 (by first | assumption | exact hS38.cell 0 rfl rfl | exact hS38.cell 2 rfl rfl) rfl ?_
  have hC39 := hS38.split [] [false, false, false, false] rfl; dsimp only [selF, pickA, nthA, List.cons_append, List.nil_append] at hC39
  refine wl_call cal_65 rfl (wText_sp hC39 (hG.starL 3 rfl) x.shl hw.shl) rfl ?_
  rintro e w39 ⟨_, rfl, rfl, hS39⟩; refine ⟨_, rfl, ?_⟩
  replace hS39 := hS39.join rfl; dsimp only [List.dropLast, List.cons_append, List.nil_append] at hS39; clear hC39
  clear hS38
  have hC40 := hS39.split [0] [true, false, false, false] rfl; dsimp only [selF, pickA, nthA, List.cons_append, List.nil_append] at hC40
  refine wl_call cal_62 rfl (bl_writeString hC40 (encT x.shl) (by first | omega | (simp only [List.length_append]; omega) | (simp; done) | (simp; omega))) rfl ?_
  rintro e w40 ⟨_, rfl, rfl, hS40⟩; refine ⟨_, rfl, ?_⟩
  replace hS40 := hS40.join rfl; dsimp only [List.dropLast, List.cons_append, List.nil_append] at hS40; clear hC40
  clear hS39
  refine wl_nil ?_
  refine qs_seq ?_
  refine wc_seq ?_
  refine wc_region ?_
  have hC41 := hS40.split [0] [true, false, false, false] rfl; dsimp only [selF, pickA, nthA, List.cons_append, List.nil_append] at hC41
  refine wl_call cal_68 rfl (bl_string hC41 (by first | omega | (simp only [List.length_append]; omega))) rfl ?_
  rintro e w41 ⟨_, rfl, rfl, hS41⟩; refine ⟨_, rfl, ?_⟩
  replace hS41 := hS41.join rfl; dsimp only [List.dropLast, List.cons_append, List.nil_append] at hS41; clear hC41
  clear hS40
  refine wl_assign rfl rfl ?_
  refine wl_nil ?_
  refine qs_seq ?_
  refine wc_ret ?_
  refine fin1 (.inr rfl) rfl rfl ?_
  exact ⟨_, rfl, by unfold encR; rfl, hS41.pick [2] rfl⟩
end Go.Proofs.YtcbdclhoekokpaaGreatDoor
