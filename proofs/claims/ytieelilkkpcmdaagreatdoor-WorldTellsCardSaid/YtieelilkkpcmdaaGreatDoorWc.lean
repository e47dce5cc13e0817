/- world: SetByte, Drop, Copy -/
import Derived.Test.YtieelilkkpcmdaaGreatDoorWb
namespace Go.Proofs.YtieelilkkpcmdaaGreatDoor
open Go.RowKit M
set_option linter.unusedVariables false
def bytesPg (s : Bs) : List Value := s.map byteV
theorem bytesPg_len (s : Bs) : (bytesPg s).length = s.length := by simp [bytesPg]
theorem bytesPg_one (s : Bs) : allOne (bytesPg s) = true := allOne_mk (by intro v hv; obtain ⟨c, _, rfl⟩ := List.mem_map.1 hv; rfl)
theorem bytesPg_splice {s t : Bs} (h : s.length = t.length) : splice (bytesPg s) 0 (bytesPg t) = bytesPg t := by
  simp [splice, bytesPg, h]
theorem bytesPg_set (s : Bs) (j : Nat) (c : UInt8) : (bytesPg s).set j (byteV c) = bytesPg (s.set j c) := by simp [bytesPg, List.map_set]
def setByteS (W : WS) (n : Bs) (i : Int) (c : UInt8) : WS := if 0 ≤ i ∧ i < 16384 then setS W n (i / 64) ((pageB W n (i / 64)).set (i % 64).toNat c) else W
theorem setByte_sp {w : World} {p : Nat} {W : WS} {F : Th} (hS : Sat w [worldT p W, F]) (nm : Bs) (i : Int) (c : UInt8) (hk : nm.length ≤ 281474976710656) :
    Calls Tryz.prog 34 #[ptrV p 0, strV nm, intV i, byteV c] w (Ret fun v w' => v = .tuple #[] ∧ Sat w' [worldT p (setByteS W nm i c), F]) := by
  refine calls_enter Tryz.func34 rfl Tryz.ntmps34 rfl ?_
  refine wc_seq ?_
  refine wc_seq ?_
  refine wc_region ?_
  refine wl_move rfl rfl ?_
  have hC1 := hS.split [] [false, false] rfl; dsimp only [selF, pickA, nthA, List.cons_append, List.nil_append] at hC1
  refine wl_call cal_71 rfl (valid_sp hC1 i) rfl ?_
  rintro e w1 ⟨_, rfl, rfl, hS1⟩; refine ⟨_, rfl, ?_⟩
  replace hS1 := hS1.join rfl; dsimp only [List.dropLast, List.cons_append, List.nil_append] at hS1; clear hC1
  refine wl_not rfl rfl ?_
  refine wl_nil ?_
  refine qs_seq ?_
  refine wc_cond rfl (fun h2 => ?_) (fun h2 => ?_)
  · skip
    have hv : ¬ (0 ≤ i ∧ i < 16384) := by have hq := h2; simp at hq; omega
    refine wc_ret ?_
    refine qs_then_ret ?_
    refine fin0 (.inr rfl) rfl ?_
    exact ⟨_, rfl, rfl, by rw [setByteS, if_neg hv]; exact hS1⟩
  · skip
    have hv : 0 ≤ i ∧ i < 16384 := by simpa using h2
    refine wc_skip ?_
    refine qs_seq ?_
    refine wc_seq ?_
    have hS := hS1
    obtain ⟨LL, hI, hS⟩ := worldT_open hS
    obtain ⟨Lo, hO, hS⟩ := objsT_open (hS.pull 2 rfl); dsimp only [List.eraseIdx] at hS
    refine wc_region ?_
    refine wl_move rfl rfl ?_
    refine wl_nilCheck rfl rfl ?_
    refine wl_fieldAddr rfl fo_63_1 rfl ?_
    refine wl_load rfl ag_61 (by first | assumption | exact hS.cell 1 rfl rfl | exact hS.cell 2 rfl rfl) rfl ?_
    refine wl_move rfl rfl ?_
    rcases hq : assoc Lo nm with _ | m
    · skip
      have hno := obj_none hO hq
      refine wl_lookup (k := nm) 0 hS keysStr Tryz.underlying61 rfl rfl rfl zr_79 (u := .map none) (by simp [namesG, hq]) rfl ?_
      refine wl_move rfl rfl ?_
      refine wl_quo rfl rfl (by omega) (by omega) (by omega) rfl ?_
      refine wl_lookupNil (k := (i / 64)) keysInt Tryz.underlying79 zr_sheet rfl rfl rfl ?_
      rw [← pageB_none hno (i / 64)]
      refine wl_alloc hS zr_sheet (cs := bytesPg zero64) rfl rfl ?_
      intro bs w4 hS4
      refine wl_storeA (vs := (bytesPg (pageB W nm (i / 64))).toArray) hS4 rfl rfl sz_87 (by have := hI.len nm (i / 64); simp [bytesPg, pageB, this]) (bytesPg_one _) (i := 0) rfl (by decide) ?_
      intro w5 hS5; dsimp only [List.set] at hS5
      rw [show splice (bytesPg zero64) 0 (bytesPg (pageB W nm (i / 64))).toArray.toList = bytesPg (pageB W nm (i / 64)) from bytesPg_splice (hI.len nm (i / 64)).symm] at hS5
      clear hS4
      refine wl_nil ?_
      refine qs_seq ?_
      refine wc_sub (L' := [(8, _), (0, _), (1, _), (2, _), (3, _)]) (.cons rfl (.cons rfl (.cons rfl (.cons rfl (.cons rfl .nil))))) ?_
      refine wc_seq ?_
      refine wc_region ?_
      refine wl_move rfl rfl ?_
      refine wl_rem rfl rfl (by omega) (by omega) rfl ?_
      refine wl_move rfl rfl ?_
      refine wl_indexAddrA (i % 64).toNat Tryz.underlying87 rfl rfl (by omega) (by omega) sz_5 rfl ?_
      rw [show 0 + (i % 64).toNat * 1 = (i % 64).toNat by omega]
      refine wl_store (v := byteV c) (o := (i % 64).toNat) hS5 rfl rfl sz_5 rfl (i := 0) rfl (by have := hI.len nm (i / 64); rw [bytesPg_len]; simp only [pageB, this]; omega) ?_
      intro w6 hS6; dsimp only [List.set] at hS6; rw [bytesPg_set] at hS6
      clear hS5
      refine wl_nil ?_
      refine qs_seq ?_
      refine wc_region ?_
      refine wl_move rfl rfl ?_
      refine wl_move rfl rfl ?_
      refine wl_move rfl rfl ?_
      refine wl_quo rfl rfl (by omega) (by omega) (by omega) rfl ?_
      refine wl_loadA (cs := bytesPg ((pageB W nm (i / 64)).set (i % 64).toNat c)) rfl ag_87 sz_87 (hS6.blk 0 rfl) (by have := hI.len nm (i / 64); simp [bytesPg, pageB, this]) (vs := bytesPg ((pageB W nm (i / 64)).set (i % 64).toNat c)) (by rw [List.drop_zero]; exact List.take_of_length_le (by have := hI.len nm (i / 64); simp [bytesPg, pageB, this])) rfl ?_
      have hS7 := world_same hI hO (hS6.pick [1, 2, 3, 4, 5, 6] rfl)
      clear hS6
      have hC8 := hS7.split [0] [true, false] rfl; dsimp only [selF, pickA, nthA, List.cons_append, List.nil_append] at hC8
      refine wl_call cal_72 rfl (set_sp hC8 nm (i / 64) ((pageB W nm (i / 64)).set (i % 64).toNat c) hk (by simp [pageB, hI.len]) (by omega)) rfl ?_
      rintro e w8 ⟨_, rfl, rfl, hS8⟩; refine ⟨_, rfl, ?_⟩
      replace hS8 := hS8.join rfl; dsimp only [List.dropLast, List.cons_append, List.nil_append] at hS8; clear hC8
      clear hS7
      refine wl_nil ?_
      refine fin0 (.inl rfl) rfl ?_
      exact ⟨_, rfl, rfl, by rw [setByteS, if_pos hv]; exact hS8⟩
    · skip
      obtain ⟨im, him⟩ := assoc_mem hq
      refine wl_lookup (k := nm) 0 hS keysStr Tryz.underlying61 rfl rfl rfl zr_79 (u := .map (some m)) (by simp [namesG, hq]) rfl ?_
      have hS3 := big_out (i := im) (A := thOf W.objs (nm, m)) (hS.pull 1 rfl) (by simp [him]); dsimp only [List.eraseIdx, thOf] at hS3
      refine wl_move rfl rfl ?_
      refine wl_quo rfl rfl (by omega) (by omega) (by omega) rfl ?_
      refine wl_lookup (k := (i / 64)) 0 hS3 keysInt Tryz.underlying79 rfl rfl rfl zr_sheet (u := pageV (pageB W nm (i / 64))) (pagesG_get _ _) rfl ?_
      refine wl_alloc hS3 zr_sheet (cs := bytesPg zero64) rfl rfl ?_
      intro bs w9 hS9
      clear hS3
      refine wl_storeA (vs := (bytesPg (pageB W nm (i / 64))).toArray) hS9 rfl rfl sz_87 (by have := hI.len nm (i / 64); simp [bytesPg, pageB, this]) (bytesPg_one _) (i := 0) rfl (by decide) ?_
      intro w10 hS10; dsimp only [List.set] at hS10
      rw [show splice (bytesPg zero64) 0 (bytesPg (pageB W nm (i / 64))).toArray.toList = bytesPg (pageB W nm (i / 64)) from bytesPg_splice (hI.len nm (i / 64)).symm] at hS10
      clear hS9
      refine wl_nil ?_
      refine qs_seq ?_
      refine wc_sub (L' := [(8, _), (0, _), (1, _), (2, _), (3, _)]) (.cons rfl (.cons rfl (.cons rfl (.cons rfl (.cons rfl .nil))))) ?_
      refine wc_seq ?_
      refine wc_region ?_
      refine wl_move rfl rfl ?_
      refine wl_rem rfl rfl (by omega) (by omega) rfl ?_
      refine wl_move rfl rfl ?_
      refine wl_indexAddrA (i % 64).toNat Tryz.underlying87 rfl rfl (by omega) (by omega) sz_5 rfl ?_
      rw [show 0 + (i % 64).toNat * 1 = (i % 64).toNat by omega]
      refine wl_store (v := byteV c) (o := (i % 64).toNat) hS10 rfl rfl sz_5 rfl (i := 0) rfl (by have := hI.len nm (i / 64); rw [bytesPg_len]; simp only [pageB, this]; omega) ?_
      intro w11 hS11; dsimp only [List.set] at hS11; rw [bytesPg_set] at hS11
      clear hS10
      refine wl_nil ?_
      refine qs_seq ?_
      refine wc_region ?_
      refine wl_move rfl rfl ?_
      refine wl_move rfl rfl ?_
      refine wl_move rfl rfl ?_
      refine wl_quo rfl rfl (by omega) (by omega) (by omega) rfl ?_
      refine wl_loadA (cs := bytesPg ((pageB W nm (i / 64)).set (i % 64).toNat c)) rfl ag_87 sz_87 (hS11.blk 0 rfl) (by have := hI.len nm (i / 64); simp [bytesPg, pageB, this]) (vs := bytesPg ((pageB W nm (i / 64)).set (i % 64).toNat c)) (by rw [List.drop_zero]; exact List.take_of_length_le (by have := hI.len nm (i / 64); simp [bytesPg, pageB, this])) rfl ?_
      have hS12 := world_back0 hI hO him (hS11.pick [1, 2, 3, 4, 5, 6, 7] rfl)
      clear hS11
      have hC13 := hS12.split [0] [true, false] rfl; dsimp only [selF, pickA, nthA, List.cons_append, List.nil_append] at hC13
      refine wl_call cal_72 rfl (set_sp hC13 nm (i / 64) ((pageB W nm (i / 64)).set (i % 64).toNat c) hk (by simp [pageB, hI.len]) (by omega)) rfl ?_
      rintro e w13 ⟨_, rfl, rfl, hS13⟩; refine ⟨_, rfl, ?_⟩
      replace hS13 := hS13.join rfl; dsimp only [List.dropLast, List.cons_append, List.nil_append] at hS13; clear hC13
      clear hS12
      refine wl_nil ?_
      refine fin0 (.inl rfl) rfl ?_
      exact ⟨_, rfl, rfl, by rw [setByteS, if_pos hv]; exact hS13⟩

def dropS (W : WS) (n : Bs) : WS := { W with objs := fun m q => if m = n then none else W.objs m q }
theorem dropS_none {W : WS} {n : Bs} (h : ∀ q, W.objs n q = none) : dropS W n = W := by
  have : (fun m q => if m = n then none else W.objs m q) = W.objs := by
    funext m q; by_cases hm : m = n
    · subst hm; simp [h]
    · simp [hm]
  unfold dropS; rw [this]
theorem PagesOk.drop {W : WS} (h : PagesOk W.objs) (n : Bs) : PagesOk (dropS W n).objs := ⟨fun m q s hs => by
  simp only [dropS] at hs
  split at hs
  · cases hs
  · exact h.ok m q s hs⟩
theorem dropS_end {w : World} {p : Nat} {W : WS} {LL : WL} {Lo : List (Bs × Nat)} {F : Th} {n : Bs} (hI : PagesOk W.objs) (hO : ObjL Lo W.objs) (h : Sat w [mapT strK LL.bo (upd (namesG Lo) n none), starL (Lo.map (thOf W.objs)), blkT p (cellsW LL W.time), mapT strK LL.bc (cellsG W.cells), mapT strK LL.bl (cellsG W.logs), F]) : Sat w [worldT p (dropS W n), F] := by
  rcases hq : assoc Lo n with _ | m
  · rw [namesG_none hq] at h
    rw [dropS_none (obj_none hO hq)]
    exact world_same hI hO h
  · obtain ⟨im, him⟩ := assoc_mem hq
    have h1 := big_out (i := im) (A := thOf W.objs (n, m)) (h.pull 1 rfl) (by simp [him]); dsimp only [List.eraseIdx, thOf] at h1
    exact world_del (hI.drop n) hO him (fun q => by simp) (fun k hk => by funext q; simp [hk]) h1.tail
theorem drop_sp {w : World} {p : Nat} {W : WS} {F : Th} (hS : Sat w [worldT p W, F]) (nm : Bs) :
    Calls Tryz.prog 38 #[ptrV p 0, strV nm] w (Ret fun v w' => v = .tuple #[] ∧ Sat w' [worldT p (dropS W nm), F]) := by
  obtain ⟨LL, hI, hS⟩ := worldT_open hS
  obtain ⟨Lo, hO, hS⟩ := objsT_open (hS.pull 2 rfl); dsimp only [List.eraseIdx] at hS
  refine calls_enter Tryz.func38 rfl Tryz.ntmps38 rfl ?_
  refine wc_region ?_
  refine wl_move rfl rfl ?_
  refine wl_nilCheck rfl rfl ?_
  refine wl_fieldAddr rfl fo_63_1 rfl ?_
  refine wl_load rfl ag_61 (by first | assumption | exact hS.cell 1 rfl rfl | exact hS.cell 2 rfl rfl) rfl ?_
  refine wl_move rfl rfl ?_
  refine wl_delete (k := nm) 0 hS keysStr Tryz.underlying61 rfl rfl rfl rfl ?_
  intro w1 hS1; dsimp only [List.set] at hS1
  refine wl_nil ?_
  refine fin0 (.inl rfl) rfl ?_
  exact ⟨_, rfl, rfl, dropS_end hI hO hS1⟩

theorem mc1 : (Tryz.f91.name == "runtime.NumGoroutine") = false := by kernel_rfl
theorem mc2 : Tryz.f91.body.isNone = true := by kernel_rfl
theorem mc3 : Extern.findNext Tryz.f91 = none := by kernel_rfl
theorem mc4 : Extern.find Tryz.f91 = some Extern.MapsClone.clone := by kernel_rfl
theorem cloneP_sp {w : World} {F : Th} {b : Nat} {g : Int → Option Value} (hS : Sat w [mapT intK b g, F]) :
    Calls Tryz.prog 73 #[.map (some b)] w (Ret fun v w' => ∃ b', v = .map (some b') ∧ Sat w' [mapT intK b' g, mapT intK b g, F]) := by
  refine calls_enter Tryz.func73 rfl Tryz.ntmps73 rfl ?_
  refine wc_seq ?_
  refine wc_region ?_
  refine wl_assign rfl rfl ?_
  refine wl_nil ?_
  refine qs_seq ?_
  refine wc_seq ?_
  refine wc_seq ?_
  refine wc_region ?_
  refine wl_move rfl rfl ?_
  refine wl_eqlMapNil Tryz.underlying79 rfl rfl rfl ?_
  refine wl_nil ?_
  refine qs_seq ?_
  refine wc_condF rfl ?_
  refine wc_skip ?_
  refine qs_seq ?_
  refine wc_seq ?_
  refine wc_region ?_
  refine wl_move rfl rfl ?_
  refine wl_makeIface nif_79 rfl rfl ?_
  refine wl_mapsClone 0 hS Tryz.func91 mc1 mc2 mc3 mc4 rfl rfl rfl ?_
  intro b9 w9 hS9
  refine wl_typeAssert nif_79 rfl rfl ?_
  refine wl_assign rfl rfl ?_
  refine wl_nil ?_
  refine qs_seq ?_
  refine wc_ret ?_
  refine fin1 (.inr rfl) rfl rfl ?_
  exact ⟨_, rfl, _, rfl, hS9⟩

theorem cloneN_sp {w : World} {F : Th} (hS : Sat w [F]) :
    Calls Tryz.prog 73 #[.map none] w (Ret fun v w' => v = .map none ∧ Sat w' [F]) := by
  refine calls_enter Tryz.func73 rfl Tryz.ntmps73 rfl ?_
  refine wc_seq ?_
  refine wc_region ?_
  refine wl_assign rfl rfl ?_
  refine wl_nil ?_
  refine qs_seq ?_
  refine wc_seq ?_
  refine wc_seq ?_
  refine wc_region ?_
  refine wl_move rfl rfl ?_
  refine wl_eqlMapNilNil Tryz.underlying79 rfl rfl rfl ?_
  refine wl_nil ?_
  refine qs_seq ?_
  refine wc_condT rfl ?_
  refine wc_seq ?_
  refine wc_region ?_
  refine wl_assign rfl rfl ?_
  refine wl_nil ?_
  refine qs_seq ?_
  refine wc_ret ?_
  refine qs_then_ret ?_
  refine fin1 (.inr rfl) rfl rfl ?_
  exact ⟨_, rfl, rfl, hS⟩

def oldT (v : Value) (o : Int → Option Bs) : Th := exT fun m : Option Nat => starL [pureT (v = .map m ∧ (m = none → ∀ q, o q = none)), match m with | none => empT | some b => mapT intK b (pagesG o)]
theorem oldT_some {w : World} {As : List Th} {b : Nat} {o : Int → Option Bs} (h : Sat w (mapT intK b (pagesG o) :: As)) : Sat w (oldT (.map (some b)) o :: As) :=
  Sat.ex_intro (some b) (Sat.fold (As := [pureT _, mapT intK b (pagesG o)]) (Sat.pure_intro ⟨rfl, by simp⟩ h))
theorem oldT_none {w : World} {As : List Th} {o : Int → Option Bs} (ho : ∀ q, o q = none) (h : Sat w As) : Sat w (oldT (.map none) o :: As) :=
  Sat.ex_intro none (Sat.fold (As := [pureT _, empT]) (Sat.pure_intro ⟨rfl, fun _ => ho⟩ (h.new (Only.refl [] w) (A := empT) (F' := fun _ => False) rfl (fun _ q => q.elim))))
theorem oldT_open {w : World} {As : List Th} {v : Value} {o : Int → Option Bs} (h : Sat w (oldT v o :: As)) : (v = .map none ∧ (∀ q, o q = none) ∧ Sat w As) ∨ ∃ b, v = .map (some b) ∧ Sat w (mapT intK b (pagesG o) :: As) := by
  obtain ⟨m, h⟩ := h.ex
  obtain ⟨⟨h1, h2⟩, h3⟩ := h.flat.pure_elim
  cases m with
  | none => exact .inl ⟨h1, h2 rfl, h3.tail⟩
  | some b => exact .inr ⟨b, h1, h3⟩
def copyTo (W : WS) (frm : Bs) (first : Int) (to : Bs) (at_ hi : Int) : WS := { W with objs := fun m q => if m = to ∧ max at_ 0 ≤ q ∧ q < hi then W.objs frm (first + q - at_) else W.objs m q }
def copyS (W : WS) (frm : Bs) (first n : Int) (to : Bs) (at_ : Int) : WS := copyTo W frm first to at_ (min (at_ + n) 256)
theorem copyTo_none {W : WS} {frm to : Bs} {first at_ hi : Int} (h : hi ≤ max at_ 0) : copyTo W frm first to at_ hi = W := by
  have : (fun m q => if m = to ∧ max at_ 0 ≤ q ∧ q < hi then W.objs frm (first + q - at_) else W.objs m q) = W.objs := by
    funext m q; rw [if_neg (by omega)]
  unfold copyTo; rw [this]
theorem copyTo_step {W : WS} {frm to : Bs} {first at_ j : Int} (hI : PagesOk W.objs) (h : max at_ 0 ≤ j) : setS (copyTo W frm first to at_ j) to j (pageOf (W.objs frm (first + j - at_))) = copyTo W frm first to at_ (j + 1) := by
  unfold setS copyTo
  congr 1
  funext m q
  unfold setO
  by_cases h1 : m = to ∧ q = j
  · rw [if_pos h1, if_pos (show m = to ∧ max at_ 0 ≤ q ∧ q < j + 1 from ⟨h1.1, by omega, by omega⟩), h1.2]
    cases hq : W.objs frm (first + j - at_) with
    | none => simp [pageOf]
    | some s => simp [pageOf, (hI.ok _ _ _ hq).2.1]
  · rw [if_neg h1]
    dsimp only
    by_cases h2 : m = to ∧ max at_ 0 ≤ q ∧ q < j
    · rw [if_pos h2, if_pos (show m = to ∧ max at_ 0 ≤ q ∧ q < j + 1 from ⟨h2.1, h2.2.1, by omega⟩)]
    · have h3 : ¬ (m = to ∧ max at_ 0 ≤ q ∧ q < j + 1) := by
        rintro ⟨a, b, c⟩
        have : q ≠ j := fun e => h1 ⟨a, e⟩
        exact h2 ⟨a, b, by omega⟩
      rw [if_neg h2, if_neg h3]
theorem world_back1 {w : World} {p : Nat} {W : WS} {LL : WL} {Lo : List (Bs × Nat)} {F X : Th} {n : Bs} {m im : Nat} (hI : PagesOk W.objs) (hO : ObjL Lo W.objs) (him : Lo[im]? = some (n, m)) (h : Sat w [mapT intK m (pagesG (W.objs n)), starL ((Lo.map (thOf W.objs)).eraseIdx im), mapT strK LL.bo (namesG Lo), blkT p (cellsW LL W.time), mapT strK LL.bc (cellsG W.cells), mapT strK LL.bl (cellsG W.logs), F, X]) : Sat w [worldT p W, F, X] := by
  have h1 := h.split [0, 1, 2, 3, 4, 5] [true, true, true, true, true, true, false, false] rfl
  dsimp only [selF, pickA, nthA, List.cons_append, List.nil_append] at h1
  have h2 := world_back0 hI hO him h1
  exact h2.join rfl
theorem copy_end {w : World} {p : Nat} {W : WS} {F : Th} {frm to : Bs} {first n at_ j : Int} (hj : (max at_ 0 ≤ j ∧ j ≤ max (max at_ 0) (min (at_ + n) 256)) ∧ ¬ j < min (at_ + n) 256) (h : Sat w [worldT p (copyTo W frm first to at_ j), F]) : Sat w [worldT p (copyS W frm first n to at_), F] := by
  unfold copyS
  by_cases hc : min (at_ + n) 256 ≤ max at_ 0
  · rw [copyTo_none hc]; rw [copyTo_none (by omega)] at h; exact h
  · rw [show min (at_ + n) 256 = j by omega]; exact h
set_option maxRecDepth 100000 in
theorem copy_sp {w : World} {p : Nat} {W : WS} {F : Th} (hS : Sat w [worldT p W, F]) (frm : Bs) (first n : Int) (to : Bs) (at_ : Int) (hk : to.length ≤ 281474976710656) (hb : -2251799813685248 ≤ first ∧ first ≤ 2251799813685248) (hb2 : -2251799813685248 ≤ n ∧ n ≤ 2251799813685248) (hb3 : -2251799813685248 ≤ at_ ∧ at_ ≤ 2251799813685248) :
    Calls Tryz.prog 35 #[ptrV p 0, strV frm, intV first, intV n, strV to, intV at_] w (Ret fun v w' => v = .tuple #[] ∧ Sat w' [worldT p (copyS W frm first n to at_), F]) := by
  obtain ⟨LL, hI, hS⟩ := worldT_open hS
  obtain ⟨Lo, hO, hS⟩ := objsT_open (hS.pull 2 rfl); dsimp only [List.eraseIdx] at hS
  refine calls_enter Tryz.func35 rfl Tryz.ntmps35 rfl ?_
  refine wc_mid (fun E0 W0 => ∃ (ov : Value), E0 = [(0, ptrV p 0), (2, intV first), (3, intV n), (4, strV to), (5, intV at_), (12, ov)] ∧ Sat W0 [oldT ov (W.objs frm), worldT p W, F]) ?_ ?_
  · skip
    refine wc_region ?_
    refine wl_move rfl rfl ?_
    refine wl_nilCheck rfl rfl ?_
    refine wl_fieldAddr rfl fo_63_1 rfl ?_
    refine wl_load rfl ag_61 (by first | assumption | exact hS.cell 1 rfl rfl | exact hS.cell 2 rfl rfl) rfl ?_
    refine wl_move rfl rfl ?_
    rcases hq : assoc Lo frm with _ | m
    · skip
      have hno := obj_none hO hq
      refine wl_lookup (k := frm) 0 hS keysStr Tryz.underlying61 rfl rfl rfl zr_79 (u := .map none) (by simp [namesG, hq]) rfl ?_
      have hC3 := hS.split [] [false, false, false, false, false, false] rfl; dsimp only [selF, pickA, nthA, List.cons_append, List.nil_append] at hC3
      refine wl_call cal_73 rfl (cloneN_sp hC3) rfl ?_
      rintro e w3 ⟨_, rfl, rfl, hS3⟩; refine ⟨_, rfl, ?_⟩
      replace hS3 := hS3.join rfl; dsimp only [List.dropLast, List.cons_append, List.nil_append] at hS3; clear hC3
      refine wl_assign rfl rfl ?_
      refine wl_nil ?_
      have hSx := world_same hI hO (hS3.reorder [0, 1, 2, 3, 4, 5] rfl)
      exact qs_mid (.cons rfl (.cons rfl (.cons rfl (.cons rfl (.cons rfl (.cons rfl .nil)))))) ⟨_, rfl, oldT_none hno hSx⟩
    · skip
      obtain ⟨im, him⟩ := assoc_mem hq
      refine wl_lookup (k := frm) 0 hS keysStr Tryz.underlying61 rfl rfl rfl zr_79 (u := .map (some m)) (by simp [namesG, hq]) rfl ?_
      have hS2 := big_out (i := im) (A := thOf W.objs (frm, m)) (hS.pull 1 rfl) (by simp [him]); dsimp only [List.eraseIdx, thOf] at hS2
      have hC4 := hS2.split [0] [true, false, false, false, false, false, false] rfl; dsimp only [selF, pickA, nthA, List.cons_append, List.nil_append] at hC4
      refine wl_call cal_73 rfl (cloneP_sp hC4) rfl ?_
      rintro e w4 ⟨_, rfl, b4, rfl, hS4⟩; refine ⟨_, rfl, ?_⟩
      replace hS4 := hS4.join rfl; dsimp only [List.dropLast, List.cons_append, List.nil_append] at hS4; clear hC4
      clear hS2
      refine wl_assign rfl rfl ?_
      refine wl_nil ?_
      have hSx := (hS4.reorder [1, 2, 3, 4, 5, 6, 7, 0] rfl); dsimp only [pickA, nthA] at hSx
      have hSy := world_back1 hI hO him hSx
      exact qs_mid (.cons rfl (.cons rfl (.cons rfl (.cons rfl (.cons rfl (.cons rfl .nil)))))) ⟨_, rfl, oldT_some (hSy.reorder [2, 0, 1] rfl)⟩
  rintro _ w1 ⟨ov, rfl, hS1⟩
  refine wc_seq ?_
  refine wc_region ?_
  refine wl_move rfl rfl ?_
  refine wl_maxI rfl rfl rfl ?_
  refine wl_assign rfl rfl ?_
  refine wl_nil ?_
  refine qs_seq ?_
  refine wc_block ?_
  refine wc_loop (fun K0 E0 W0 => ∃ (j : Int), K0 = (256 - j).toNat ∧ E0 = [(0, ptrV p 0), (2, intV first), (3, intV n), (4, strV to), (5, intV at_), (12, ov), (13, intV j)] ∧ Sat W0 [oldT ov (W.objs frm), worldT p (copyTo W frm first to at_ j), F] ∧ (max at_ 0 ≤ j ∧ j ≤ max (max at_ 0) (min (at_ + n) 256))) (L0 := [(0, _), (2, _), (3, _), (4, _), (5, _), (12, _), (13, _)]) ((256 - max at_ 0).toNat) (.cons rfl (.cons rfl (.cons rfl (.cons rfl (.cons rfl (.cons rfl (.cons rfl .nil))))))) ⟨max at_ 0, rfl, rfl, by rw [copyTo_none (Int.le_refl _)]; exact hS1, by omega⟩ ?_
  rintro _ _ w5 ⟨j, rfl, rfl, hS5, hj⟩
  refine wc_seq ?_
  refine wc_seq ?_
  refine wc_region ?_
  refine wl_move rfl rfl ?_
  refine wl_move rfl rfl ?_
  refine wl_move rfl rfl ?_
  refine wl_add rfl rfl (by omega) (by omega) rfl ?_
  refine wl_minI rfl rfl rfl ?_
  refine wl_lss rfl rfl rfl ?_
  refine wl_nil ?_
  refine qs_seq ?_
  refine wc_sub (L' := [(28, _), (0, _), (2, _), (3, _), (4, _), (5, _), (12, _), (13, _)]) (.cons rfl (.cons rfl (.cons rfl (.cons rfl (.cons rfl (.cons rfl (.cons rfl (.cons rfl .nil)))))))) ?_
  refine wc_condD rfl (fun h6 => ?_) (fun h6 => ?_)
  · skip
    refine wc_skip ?_
    refine qs_seq ?_
    refine wc_seq ?_
    refine wc_block ?_
    refine wc_region ?_
    refine wl_move rfl rfl ?_
    refine wl_move rfl rfl ?_
    refine wl_move rfl rfl ?_
    refine wl_move rfl rfl ?_
    refine wl_move rfl rfl ?_
    refine wl_move rfl rfl ?_
    refine wl_add rfl rfl (by omega) (by omega) rfl ?_
    refine wl_move rfl rfl ?_
    refine wl_sub' rfl rfl (by omega) (by omega) rfl ?_
    rcases oldT_open hS5 with ⟨hov, hon, hSo⟩ | ⟨bo, hov, hSo⟩
    · skip
      clear hS5
      subst hov
      refine wl_lookupNil (k := (first + j - at_)) keysInt Tryz.underlying79 zr_sheet rfl rfl rfl ?_
      rw [show pageV zero64 = pageV (pageOf (W.objs frm (first + j - at_))) by rw [hon]; rfl]
      have hC7 := hSo.split [0] [true, false] rfl; dsimp only [selF, pickA, nthA, List.cons_append, List.nil_append] at hC7
      refine wl_call cal_72 rfl (set_sp hC7 to j (pageOf (W.objs frm (first + j - at_))) hk (hI.len _ _) (by omega)) rfl ?_
      rintro e w7 ⟨_, rfl, rfl, hS7⟩; refine ⟨_, rfl, ?_⟩
      replace hS7 := hS7.join rfl; dsimp only [List.dropLast, List.cons_append, List.nil_append] at hS7; clear hC7
      clear hSo
      refine wl_nil ?_
      refine qs_block_normal ?_
      refine qs_seq ?_
      refine wc_sub (L' := [(0, _), (2, _), (3, _), (4, _), (5, _), (12, _), (13, _)]) (.cons rfl (.cons rfl (.cons rfl (.cons rfl (.cons rfl (.cons rfl (.cons rfl .nil))))))) ?_
      refine wc_region ?_
      refine wl_move rfl rfl ?_
      refine wl_add rfl rfl (by omega) (by omega) rfl ?_
      refine wl_assign rfl rfl ?_
      refine wl_nil ?_
      have hSz := hS7
      rw [copyTo_step hI (by omega)] at hSz
      have hSq := oldT_none (o := W.objs frm) hon hSz
      exact qs_round (L1 := [(0, _), (2, _), (3, _), (4, _), (5, _), (12, _), (13, _)]) (.cons rfl (.cons rfl (.cons rfl (.cons rfl (.cons rfl (.cons rfl (.cons rfl .nil))))))) (k1 := (256 - (j + 1)).toNat) (by omega) ⟨j + 1, rfl, rfl, hSq, by omega⟩
    · skip
      clear hS5
      subst hov
      refine wl_lookup (k := (first + j - at_)) 0 hSo keysInt Tryz.underlying79 rfl rfl rfl zr_sheet (u := pageV (pageOf (W.objs frm (first + j - at_)))) (pagesG_get _ _) rfl ?_
      have hC8 := hSo.split [1] [false, true, false] rfl; dsimp only [selF, pickA, nthA, List.cons_append, List.nil_append] at hC8
      refine wl_call cal_72 rfl (set_sp hC8 to j (pageOf (W.objs frm (first + j - at_))) hk (hI.len _ _) (by omega)) rfl ?_
      rintro e w8 ⟨_, rfl, rfl, hS8⟩; refine ⟨_, rfl, ?_⟩
      replace hS8 := hS8.join rfl; dsimp only [List.dropLast, List.cons_append, List.nil_append] at hS8; clear hC8
      clear hSo
      refine wl_nil ?_
      refine qs_block_normal ?_
      refine qs_seq ?_
      refine wc_sub (L' := [(0, _), (2, _), (3, _), (4, _), (5, _), (12, _), (13, _)]) (.cons rfl (.cons rfl (.cons rfl (.cons rfl (.cons rfl (.cons rfl (.cons rfl .nil))))))) ?_
      refine wc_region ?_
      refine wl_move rfl rfl ?_
      refine wl_add rfl rfl (by omega) (by omega) rfl ?_
      refine wl_assign rfl rfl ?_
      refine wl_nil ?_
      have hSz := hS8
      rw [copyTo_step hI (by omega)] at hSz
      have hSq := oldT_some (hSz.pick [1, 0, 2] rfl)
      exact qs_round (L1 := [(0, _), (2, _), (3, _), (4, _), (5, _), (12, _), (13, _)]) (.cons rfl (.cons rfl (.cons rfl (.cons rfl (.cons rfl (.cons rfl (.cons rfl .nil))))))) (k1 := (256 - (j + 1)).toNat) (by omega) ⟨j + 1, rfl, rfl, hSq, by omega⟩
  · skip
    refine wc_exit ?_
    refine qs_then_exit ?_
    refine qs_then_exit ?_
    refine qs_block_exit ?_
    refine fin0 (.inl rfl) rfl ?_
    exact ⟨_, rfl, rfl, copy_end (by omega) hS5.tail⟩

end Go.Proofs.YtieelilkkpcmdaaGreatDoor
