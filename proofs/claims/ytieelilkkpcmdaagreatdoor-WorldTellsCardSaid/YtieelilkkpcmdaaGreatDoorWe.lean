/- world: Read, Write -/
import Derived.Test.YtieelilkkpcmdaaGreatDoorWd
namespace Go.Proofs.YtieelilkkpcmdaaGreatDoor
open Go.RowKit M
set_option linter.unusedVariables false
theorem meth_Byte (p : Nat) : ∀ w : World, (method (Tryz.prog.types.size + Made.depth) 25 (ptrV p 0) "Byte").run Tryz.prog w = .ok (36, ptrV p 0) w := by intro w; kernel_rfl
theorem mnil_Byte (p : Nat) : ∀ w : World, (nilAhead (Tryz.prog.types.size + Made.depth) 25 (ptrV p 0) "Byte").run Tryz.prog w = .ok (some false) w := by intro w; kernel_rfl
theorem meth_SetByte (p : Nat) : ∀ w : World, (method (Tryz.prog.types.size + Made.depth) 25 (ptrV p 0) "SetByte").run Tryz.prog w = .ok (34, ptrV p 0) w := by intro w; kernel_rfl
theorem mnil_SetByte (p : Nat) : ∀ w : World, (nilAhead (Tryz.prog.types.size + Made.depth) 25 (ptrV p 0) "SetByte").run Tryz.prog w = .ok (some false) w := by intro w; kernel_rfl
def readB (W : WS) (nm : Bs) (at_ : Int) (k : Nat) : Bs := (List.range k).map fun (j : Nat) => byteW W nm (at_ + (j : Int))
theorem readB_step (W : WS) (nm : Bs) (at_ : Int) (k : Nat) : readB W nm at_ (k + 1) = readB W nm at_ k ++ [byteW W nm (at_ + (k : Int))] := by simp [readB, List.range_succ]
theorem readB_len (W : WS) (nm : Bs) (at_ : Int) (k : Nat) : (readB W nm at_ k).length = k := by simp [readB]
def writeS (W : WS) (nm : Bs) : Int → Bs → WS
  | _, [] => W
  | at_, c :: s => writeS (setByteS W nm at_ c) nm (at_ + 1) s
theorem writeS_snoc (nm : Bs) (c : UInt8) : ∀ (s : Bs) (W : WS) (at_ : Int), writeS W nm at_ (s ++ [c]) = setByteS (writeS W nm at_ s) nm (at_ + (s.length : Int)) c
  | [], W, at_ => by simp [writeS]
  | d :: s, W, at_ => by
    simp only [List.cons_append, writeS, List.length_cons]
    rw [writeS_snoc nm c s]
    congr 1
    omega
theorem writeS_step {W : WS} {nm s : Bs} {at_ : Int} {k : Nat} {c : UInt8} (hc : s[k]? = some c) : writeS W nm at_ (s.take (k + 1)) = setByteS (writeS W nm at_ (s.take k)) nm (at_ + (k : Int)) c := by
  have hk := (List.getElem?_eq_some_iff.1 hc).1
  have h1 : s.take (k + 1) = s.take k ++ [c] := by rw [List.take_add_one, hc]; rfl
  rw [h1, writeS_snoc]
  congr 2
  simp; omega
set_option maxRecDepth 100000 in
theorem read_sp {w : World} {p : Nat} {W : WS} {F : Th} (hS : Sat w [worldT p W, F]) (nm : Bs) (at_ n : Int) (hat : -1125899906842624 ≤ at_ ∧ at_ ≤ 1125899906842624) (hn : n ≤ 1099511627776) :
    Calls Tryz.prog 13 #[.iface 25 (ptrV p 0), strV nm, intV at_, intV n] w (Ret fun v w' => v = strV (readB W nm at_ (max n 0).toNat) ∧ Sat w' [worldT p W, F]) := by
  refine calls_enter Tryz.func13 rfl Tryz.ntmps13 rfl ?_
  refine wc_seq ?_
  refine wc_region ?_
  refine wl_assign rfl rfl ?_
  refine wl_nil ?_
  refine qs_seq ?_
  refine wc_seq ?_
  refine wc_region ?_
  refine wl_allocT hS zr_73 (cs := [.pointer none, .slice none 0 0]) rfl rfl ?_
  intro bb wB hSB
  have hSC := bldT_shut (.inl rfl) ((bufT_nil hSB).perm (List.Perm.swap _ _ _))
  refine wl_nil ?_
  refine qs_seq ?_
  refine wc_seq ?_
  refine wc_seq ?_
  refine wc_region ?_
  refine wl_move rfl rfl ?_
  refine wl_maxI rfl rfl rfl ?_
  refine wl_move rfl rfl ?_
  refine wl_nil ?_
  refine qs_seq ?_
  refine wc_block ?_
  refine wc_loop (fun K0 E0 W0 => ∃ (k : Nat), K0 = (max n 0).toNat - k ∧ E0 = [(0, .iface 25 (ptrV p 0)), (1, strV nm), (2, intV at_), (9, ptrV bb 0), (12, intV (max n 0)), (13, intV (k : Int))] ∧ Sat W0 [bldT bb (readB W nm at_ k), worldT p W, F] ∧ ((k : Int) ≤ max n 0)) (L0 := [(0, _), (1, _), (2, _), (9, _), (12, _), (13, _)]) ((max n 0).toNat - 0) (.cons rfl (.cons rfl (.cons rfl (.cons rfl (.cons rfl (.cons rfl .nil)))))) ⟨0, rfl, rfl, hSC, by omega⟩ ?_
  rintro _ _ w1 ⟨k, rfl, rfl, hS1, hk⟩
  have hlr := readB_len W nm at_ k
  refine wc_seq ?_
  refine wc_region ?_
  refine wl_lss rfl rfl rfl ?_
  refine wl_nil ?_
  refine qs_seq ?_
  refine wc_seq ?_
  refine wc_condD rfl (fun h2 => ?_) (fun h2 => ?_)
  · skip
    refine wc_skip ?_
    refine qs_seq ?_
    refine wc_seq ?_
    refine wc_block ?_
    refine wc_seq ?_
    refine wc_region ?_
    refine wl_move rfl rfl ?_
    refine wl_assign rfl rfl ?_
    refine wl_nil ?_
    refine qs_seq ?_
    refine wc_region ?_
    refine wl_move rfl rfl ?_
    refine wl_move rfl rfl ?_
    refine wl_move rfl rfl ?_
    refine wl_move rfl rfl ?_
    refine wl_add rfl rfl (by omega) (by omega) rfl ?_
    have hC3 := hS1.split [1] [false, true, false] rfl; dsimp only [selF, pickA, nthA, List.cons_append, List.nil_append] at hC3
    refine wl_invoke (vs := [strV nm, intV (at_ + (k : Int))]) rfl (meth_Byte p) cal_36 rfl (byte_sp hC3 nm (at_ + (k : Int))) rfl ?_
    rintro e w3 ⟨_, rfl, rfl, hS3⟩; refine ⟨_, rfl, ?_⟩
    replace hS3 := hS3.join rfl; dsimp only [List.dropLast, List.cons_append, List.nil_append] at hS3; clear hC3
    clear hS1
    have hC4 := hS3.split [1] [false, true, false] rfl; dsimp only [selF, pickA, nthA, List.cons_append, List.nil_append] at hC4
    refine wl_call cal_49 rfl (bl_writeByte hC4 (byteW W nm (at_ + (k : Int))) (by omega)) rfl ?_
    rintro e w4 ⟨_, rfl, rfl, hS4⟩; refine ⟨_, rfl, ?_⟩
    replace hS4 := hS4.join rfl; dsimp only [List.dropLast, List.cons_append, List.nil_append] at hS4; clear hC4
    clear hS3
    refine wl_nil ?_
    refine qs_block_normal ?_
    refine qs_seq ?_
    refine wc_sub (L' := [(0, _), (1, _), (2, _), (9, _), (12, _), (13, _)]) (.cons rfl (.cons rfl (.cons rfl (.cons rfl (.cons rfl (.cons rfl .nil)))))) ?_
    refine wc_region ?_
    refine wl_add rfl rfl (by omega) (by omega) rfl ?_
    refine wl_move rfl rfl ?_
    refine wl_nil ?_
    have hSz := hS4.reorder [0, 1, 2] rfl; dsimp only [pickA, nthA] at hSz; rw [← readB_step] at hSz
    exact qs_round (L1 := [(0, _), (1, _), (2, _), (9, _), (12, _), (13, intV ((k + 1 : Nat) : Int))]) (.cons rfl (.cons rfl (.cons rfl (.cons rfl (.cons rfl (.cons rfl .nil)))))) (k1 := (max n 0).toNat - (k + 1)) (by omega) ⟨k + 1, rfl, rfl, hSz, by omega⟩
  · skip
    refine wc_exit ?_
    refine qs_then_exit ?_
    refine qs_then_exit ?_
    refine qs_block_exit ?_
    refine qs_seq ?_
    refine wc_seq ?_
    refine wc_region ?_
    have hC5 := hS1.split [0] [true, false, false] rfl; dsimp only [selF, pickA, nthA, List.cons_append, List.nil_append] at hC5
    refine wl_call cal_50 rfl (bl_string hC5 (by omega)) rfl ?_
    rintro e w5 ⟨_, rfl, rfl, hS5⟩; refine ⟨_, rfl, ?_⟩
    replace hS5 := hS5.join rfl; dsimp only [List.dropLast, List.cons_append, List.nil_append] at hS5; clear hC5
    clear hS1
    refine wl_assign rfl rfl ?_
    refine wl_nil ?_
    refine qs_seq ?_
    refine wc_ret ?_
    refine fin1 (.inr rfl) rfl rfl ?_
    exact ⟨_, rfl, by rw [show k = (max n 0).toNat by omega], hS5⟩

set_option maxRecDepth 100000 in
theorem write_sp {w : World} {p : Nat} {W : WS} {F : Th} (hS : Sat w [worldT p W, F]) (nm : Bs) (at_ : Int) (s : Bs) (hat : -1125899906842624 ≤ at_ ∧ at_ ≤ 1125899906842624) (hs : s.length ≤ 1099511627776) (hnm : nm.length ≤ 281474976710656) :
    Calls Tryz.prog 11 #[.iface 25 (ptrV p 0), strV nm, intV at_, strV s] w (Ret fun v w' => v = .tuple #[] ∧ Sat w' [worldT p (writeS W nm at_ s), F]) := by
  refine calls_enter Tryz.func11 rfl Tryz.ntmps11 rfl ?_
  refine wc_seq ?_
  refine wc_region ?_
  refine wl_move rfl rfl ?_
  refine wl_lenS Tryz.underlying9 rfl rfl ?_
  refine wl_move rfl rfl ?_
  refine wl_nil ?_
  refine qs_seq ?_
  refine wc_block ?_
  refine wc_loop (fun K0 E0 W0 => ∃ (k : Nat), K0 = s.length - k ∧ E0 = [(0, .iface 25 (ptrV p 0)), (1, strV nm), (2, intV at_), (3, strV s), (10, intV (s.length : Int)), (11, intV (k : Int))] ∧ Sat W0 [worldT p (writeS W nm at_ (s.take k)), F] ∧ (k ≤ s.length)) (L0 := [(0, _), (1, _), (2, _), (3, _), (10, _), (11, _)]) (s.length - 0) (.cons rfl (.cons rfl (.cons rfl (.cons rfl (.cons rfl (.cons rfl .nil)))))) ⟨0, rfl, rfl, hS, by omega⟩ ?_
  rintro _ _ w1 ⟨k, rfl, rfl, hS1, hk⟩
  refine wc_seq ?_
  refine wc_region ?_
  refine wl_lss rfl rfl rfl ?_
  refine wl_nil ?_
  refine qs_seq ?_
  refine wc_seq ?_
  refine wc_condD rfl (fun h2 => ?_) (fun h2 => ?_)
  · skip
    obtain ⟨c, hc⟩ : ∃ c, s[k]? = some c := ⟨_, List.getElem?_eq_getElem (by omega)⟩
    refine wc_skip ?_
    refine qs_seq ?_
    refine wc_seq ?_
    refine wc_block ?_
    refine wc_seq ?_
    refine wc_region ?_
    refine wl_move rfl rfl ?_
    refine wl_assign rfl rfl ?_
    refine wl_nil ?_
    refine qs_seq ?_
    have hS3 := hS1.drew
    refine wc_draw [0, 1, 2, 3, 4, 5, 6, 7, 8, 9, 10, 11] [11] mix (by kernel_rfl) ?_
    refine vc_p rfl rfl rfl (fun _ => (ev_move rfl)) ?_
    refine vc_p rfl rfl rfl (fun _ => (ev_move rfl)) ?_
    refine vc_p rfl rfl rfl (fun _ => (ev_move rfl)) ?_
    refine vc_p rfl rfl rfl (fun _ => (ev_move rfl)) ?_
    refine vc_p rfl rfl rfl (fun _ => (ev_add rfl rfl (by omega) (by omega))) ?_
    refine vc_p rfl rfl rfl (fun _ => (ev_move rfl)) ?_
    refine vc_p rfl rfl rfl (fun _ => (ev_move rfl)) ?_
    refine vc_q rfl rfl rfl (ev_indexS _ Tryz.underlying9 rfl rfl (by first | rfl | omega) (by first | assumption | rfl)) ?_
    refine vc_p rfl rfl rfl (fun _ => (ev_makeMeth rfl)) ?_
    refine vc_p rfl rfl rfl (fun _ => (ev_nilCheckMeth rfl (mnil_SetByte p))) ?_
    refine vc_p rfl rfl rfl (fun _ => (ev_move rfl)) ?_
    refine vc_s rfl rfl rfl rfl rfl rfl ?_
    have hC4 := hS3.split [0] [true, false] rfl; dsimp only [selF, pickA, nthA, List.cons_append, List.nil_append] at hC4
    refine wl_invoke (vs := [strV nm, intV (at_ + (k : Int)), byteV c]) rfl (meth_SetByte p) cal_34 rfl (setByte_sp hC4 nm (at_ + (k : Int)) c hnm) rfl ?_
    rintro e w4 ⟨_, rfl, rfl, hS4⟩; refine ⟨_, rfl, ?_⟩
    replace hS4 := hS4.join rfl; dsimp only [List.dropLast, List.cons_append, List.nil_append] at hS4; clear hC4
    clear hS3
    refine vc_e (.skip (by kernel_rfl) .nil) ?_
    refine VC.nil ?_
    refine qs_block_normal ?_
    refine qs_seq ?_
    refine wc_sub (L' := [(0, _), (1, _), (2, _), (3, _), (10, _), (11, _)]) (.cons rfl (.cons rfl (.cons rfl (.cons rfl (.cons rfl (.cons rfl .nil)))))) ?_
    refine wc_region ?_
    refine wl_add rfl rfl (by omega) (by omega) rfl ?_
    refine wl_move rfl rfl ?_
    refine wl_nil ?_
    have hSz := hS4; rw [← writeS_step hc] at hSz
    exact qs_round (L1 := [(0, _), (1, _), (2, _), (3, _), (10, _), (11, intV ((k + 1 : Nat) : Int))]) (.cons rfl (.cons rfl (.cons rfl (.cons rfl (.cons rfl (.cons rfl .nil)))))) (k1 := s.length - (k + 1)) (by omega) ⟨k + 1, rfl, rfl, hSz, by omega⟩
  · skip
    refine wc_exit ?_
    refine qs_then_exit ?_
    refine qs_then_exit ?_
    refine qs_block_exit ?_
    refine fin0 (.inl rfl) rfl ?_
    exact ⟨_, rfl, rfl, by have h := hS1; rw [List.take_of_length_le (by omega)] at h; exact h⟩

end Go.Proofs.YtieelilkkpcmdaaGreatDoor
