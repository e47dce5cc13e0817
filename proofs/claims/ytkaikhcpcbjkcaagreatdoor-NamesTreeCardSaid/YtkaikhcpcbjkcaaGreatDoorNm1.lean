/- names: inodes, names, steps -/
import Derived.Test.YtkaikhcpcbjkcaaGreatDoorShelf
import Derived.Test.YtkaikhcpcbjkcaaGreatDoorWm
namespace Go.Proofs.YtkaikhcpcbjkcaaGreatDoor
open Go.RowKit M
set_option linter.unusedVariables false
theorem imeth_Get (p : Nat) : ∀ w : World, (method (Tryz.prog.types.size + Made.depth) 25 (ptrV p 0) "Get").run Tryz.prog w = .ok (16, ptrV p 0) w := by intro w; kernel_rfl
theorem imeth_Put (p : Nat) : ∀ w : World, (method (Tryz.prog.types.size + Made.depth) 25 (ptrV p 0) "Put").run Tryz.prog w = .ok (23, ptrV p 0) w := by intro w; kernel_rfl
theorem imeth_Keys (p : Nat) : ∀ w : World, (method (Tryz.prog.types.size + Made.depth) 25 (ptrV p 0) "Keys").run Tryz.prog w = .ok (17, ptrV p 0) w := by intro w; kernel_rfl
theorem mnil_Get (p : Nat) : ∀ w : World, (nilAhead (Tryz.prog.types.size + Made.depth) 25 (ptrV p 0) "Get").run Tryz.prog w = .ok (some false) w := by intro w; kernel_rfl
theorem mnil_Put (p : Nat) : ∀ w : World, (nilAhead (Tryz.prog.types.size + Made.depth) 25 (ptrV p 0) "Put").run Tryz.prog w = .ok (some false) w := by intro w; kernel_rfl
theorem mnil_Keys (p : Nat) : ∀ w : World, (nilAhead (Tryz.prog.types.size + Made.depth) 25 (ptrV p 0) "Keys").run Tryz.prog w = .ok (some false) w := by intro w; kernel_rfl
theorem ixb1 {w : World} {As : List Th} (hS : Sat w As) (s : Bs) (e : UInt8) : Calls Tryz.prog 127 #[strV s, byteV e] w (Ret fun v w' => v = intV (Lib.indexByte s e) ∧ Sat w' As) := by
  refine (Tryz.stringslite_IndexByte ⟨s.toArray⟩ (e.toNat : Int) w).mono fun e' w' ⟨h1, h2⟩ => ⟨_, h1, ?_, by rw [h2]; exact hS⟩
  simp
theorem ixb_mem (s : Bs) (e : UInt8) : 0 ≤ Lib.indexByte s e ↔ e ∈ s := by
  constructor
  · intro h
    obtain ⟨o, ho⟩ : ∃ o : Nat, Lib.indexByte s e = (o : Int) := ⟨(Lib.indexByte s e).toNat, by omega⟩
    exact List.mem_of_getElem? (Lib.indexByte_some ho).1
  · intro h
    rcases Int.lt_or_le (Lib.indexByte s e) 0 with q | q
    · exact absurd h (fun hm => by obtain ⟨k, hk⟩ := List.mem_iff_getElem?.1 hm; exact Lib.indexByte_none (show Lib.indexByte s e = -1 by have := Lib.indexByte_ge s e; omega) k hk)
    · exact q
theorem idx_self {s : Bs} {e : UInt8} (h : [e] = s) : (0 : Int) ≤ 0 ↔ e ∈ s := by subst h; simp
set_option maxRecDepth 100000 in
theorem idx_sp {w : World} {F : Th} (hS : Sat w [F]) (s : Bs) (e : UInt8) :
    Calls Tryz.prog 106 #[strV s, strV [e]] w (Ret fun v w' => (∃ i, v = intV i ∧ (0 ≤ i ↔ e ∈ s)) ∧ Sat w' [F]) := by
 refine calls_enter Tryz.func106 rfl Tryz.ntmps106 rfl ?_
 refine wc_seq (wc_region (wl_assign rfl rfl (wl_nil (qs_seq (wc_seq (wc_region (wl_move rfl rfl ?_)))))))
 refine wl_lenS Tryz.underlying9 rfl rfl ?_
 refine wl_assign rfl rfl (wl_nil (qs_seq (wc_seq (wc_block (wc_seq (wc_region (wl_move rfl rfl ?_)))))))
 refine wl_eql rfl rfl rfl ?_
 refine wl_move rfl rfl ?_
 refine wl_splitD 19 rfl (fun h1 => ?_) (fun h1 => ?_)
 ·simp at h1
 refine wl_guard rfl rfl (decide_eq_false h1) ?_
 refine wl_move rfl rfl ?_
 refine wl_guard rfl rfl (decide_eq_false h1) ?_
 refine wl_move rfl rfl ?_
 refine wl_guard rfl rfl (decide_eq_false h1) ?_
 refine wl_eqlS rfl rfl rfl ?_
 refine wl_pickF rfl (decide_eq_false h1) rfl rfl ?_
 refine wl_assign rfl rfl (wl_nil (qs_seq ?_))
 refine wc_sub (L' := [(16, _), (5, _), (4, _), (0, _), (1, _)]) (.cons rfl (.cons rfl (.cons rfl (.cons rfl (.cons rfl .nil))))) ?_
 refine wc_condD rfl (fun h2 => ?_) (fun h2 => ?_)
 ·refine wc_seq (wc_region (wl_assign rfl rfl (wl_nil (qs_seq (wc_ret (qs_block_ret (qs_then_ret ?_)))))))
  refine fin1 (.inr rfl) rfl rfl ?_
  exact ⟨_, rfl, ⟨0, rfl, (idx_self (by assumption))⟩, hS⟩
 refine wc_seq (wc_region (wl_move rfl rfl ?_))
 refine wl_eql rfl rfl rfl ?_
 refine wl_assign rfl rfl (wl_nil (qs_seq ?_))
 refine wc_condD rfl (fun h3 => ?_) (fun h3 => ?_)
 ·refine wc_seq (wc_region (wl_move rfl rfl (wl_move rfl rfl ?_)))
  refine wl_indexS 0 Tryz.underlying9 rfl rfl (by first | rfl | omega) (show ([e] : Bs)[0]? = some e from rfl) rfl ?_
  have hC4 := hS.split [] [false] rfl; dsimp only [selF, pickA, nthA, List.cons_append, List.nil_append] at hC4
  refine wl_call cal_127 rfl (ixb1 hC4 s e) rfl ?_
  rintro e w4 ⟨_, rfl, rfl, hS4⟩; refine ⟨_, rfl, ?_⟩
  replace hS4 := hS4.join rfl; dsimp only [List.dropLast, List.cons_append, List.nil_append] at hS4; clear hC4
  refine wl_assign rfl rfl (wl_nil (qs_seq ?_))
  refine wc_sub (L' := [(4, _), (5, _), (0, _), (1, _)]) (.cons rfl (.cons rfl (.cons rfl (.cons rfl .nil)))) ?_
  refine wc_ret (qs_block_ret (qs_then_ret ?_))
  refine fin1 (.inr rfl) rfl rfl ?_
  exact ⟨_, rfl, ⟨_, rfl, ixb_mem s e⟩, hS4⟩
 exact absurd rfl h3
theorem idxS_sp {w : World} {F : Th} (hS : Sat w [F]) (s : Bs) (e : UInt8) :
    Calls Tryz.prog 91 #[strV s, strV [e]] w (Ret fun v w' => (∃ i, v = intV i ∧ (0 ≤ i ↔ e ∈ s)) ∧ Sat w' [F]) := by
 refine calls_enter Tryz.func91 rfl Tryz.ntmps91 rfl ?_
 refine wc_seq (wc_region (wl_assign rfl rfl (wl_nil (qs_seq (wc_seq (wc_region (wl_move rfl rfl (wl_move rfl rfl ?_))))))))
 have hC1 := hS.split [] [false] rfl; dsimp only [selF, pickA, nthA, List.cons_append, List.nil_append] at hC1
 refine wl_call cal_106 rfl (idx_sp hC1 s e) rfl ?_
 rintro e w1 ⟨_, rfl, ⟨i, rfl, hi⟩, hS1⟩; refine ⟨_, rfl, ?_⟩
 replace hS1 := hS1.join rfl; dsimp only [List.dropLast, List.cons_append, List.nil_append] at hS1; clear hC1
 refine wl_assign rfl rfl (wl_nil (qs_seq (wc_ret ?_)))
 refine fin1 (.inr rfl) rfl rfl ?_
 exact ⟨_, rfl, ⟨_, rfl, hi⟩, hS1⟩
theorem contains_sp {w : World} {F : Th} (hS : Sat w [F]) (s : Bs) (e : UInt8) :
    Calls Tryz.prog 53 #[strV s, strV [e]] w (Ret fun v w' => v = .bool (decide (e ∈ s)) ∧ Sat w' [F]) := by
 refine calls_enter Tryz.func53 rfl Tryz.ntmps53 rfl ?_
 refine wc_seq (wc_region (wl_assign rfl rfl (wl_nil (qs_seq (wc_seq (wc_region (wl_move rfl rfl (wl_move rfl rfl ?_))))))))
 have hC1 := hS.split [] [false] rfl; dsimp only [selF, pickA, nthA, List.cons_append, List.nil_append] at hC1
 refine wl_call cal_91 rfl (idxS_sp hC1 s e) rfl ?_
 rintro e w1 ⟨_, rfl, ⟨i, rfl, hi⟩, hS1⟩; refine ⟨_, rfl, ?_⟩
 replace hS1 := hS1.join rfl; dsimp only [List.dropLast, List.cons_append, List.nil_append] at hS1; clear hC1
 refine wl_geq rfl rfl rfl ?_
 refine wl_assign rfl rfl (wl_nil (qs_seq (wc_ret ?_)))
 refine fin1 (.inr rfl) rfl rfl ?_
 exact ⟨_, rfl, by congr 1; exact decide_eq_decide.2 hi, hS1⟩
/-- an inode -/
structure InD where
  k : Int
  sz : Int
  ln : Int
def zI : InD := ⟨0, 0, 0⟩
def kI (id : Bs) : Bs := [105, 47] ++ id
def kU (id : Bs) : Bs := [117, 47] ++ id
def kE (dir name : Bs) : Bs := [100, 47] ++ dir ++ [47] ++ name
def encI (n : InD) : Bs := (Lib.itoa n.k ++ [59]) ++ (Lib.itoa n.sz ++ [59]) ++ (Lib.itoa n.ln ++ [59])
def decI (c : Bs) : Option InD :=
  if c = [] then none else if (numR 59 imin (numR 59 imin (numR 59 imin (c, false)))).2 = false ∧ (numR 59 imin (numR 59 imin (numR 59 imin (c, false)))).1 = [] then some ⟨numV 59 imin (c, false), numV 59 imin (numR 59 imin (c, false)), numV 59 imin (numR 59 imin (numR 59 imin (c, false)))⟩ else none
structure InB (n : InD) : Prop where
  k : inI n.k
  sz : inI n.sz
  ln : inI n.ln
theorem zI_in : InB zI := ⟨by unfold inI zI; simp, by unfold inI zI; simp, by unfold inI zI; simp⟩
theorem decI_in {c : Bs} {n : InD} (h : decI c = some n) : InB n := by
  unfold decI at h
  split at h
  · cases h
  · split at h
    · cases h; exact ⟨numV_in _ _ _, numV_in _ _ _, numV_in _ _ _⟩
    · cases h
theorem dec_enc {n : InD} (h : InB n) : decI (encI n) = some n := by
  have e : encI n = Lib.itoa n.k ++ 59 :: (Lib.itoa n.sz ++ 59 :: (Lib.itoa n.ln ++ 59 :: [])) := by simp [encI]
  have h1 := num_cons (e := 59) (least := imin) (m := n.k) (rest := Lib.itoa n.sz ++ 59 :: (Lib.itoa n.ln ++ 59 :: [])) (b := false) (by decide) h.k (by have := h.k; unfold inI at this; unfold imin; omega)
  have h2 := num_cons (e := 59) (least := imin) (m := n.sz) (rest := Lib.itoa n.ln ++ 59 :: []) (b := false) (by decide) h.sz (by have := h.sz; unfold inI at this; unfold imin; omega)
  have h3 := num_cons (e := 59) (least := imin) (m := n.ln) (rest := []) (b := false) (by decide) h.ln (by have := h.ln; unfold inI at this; unfold imin; omega)
  unfold decI
  rw [if_neg (by rw [e]; simp), e, h1.1, h1.2, h2.1, h2.2, h3.1, h3.2, if_pos ⟨rfl, rfl⟩]
def inoW (W : WS) (id : Bs) : Option InD := decI (W.cells (kI id))
def gI' (W : WS) (id : Bs) : InD := (inoW W id).getD zI
def bI (W : WS) (id : Bs) : Bool := (inoW W id).isSome
theorem gI_in (W : WS) (id : Bs) : InB (gI' W id) := by
  unfold gI' inoW
  cases h : decI (W.cells (kI id)) with
  | none => exact zI_in
  | some n => exact decI_in h
def setI (W : WS) (id : Bs) (n : InD) : WS := putS W (kI id) (encI n)
def noI (W : WS) (id : Bs) : WS := putS (putS W (kI id) []) (kU id) []
def nameB (s : Bs) : Bool := !decide (s = []) && decide (s.length ≤ 14) && !decide (s = [46]) && !decide (s = [46, 46]) && !decide ((47 : UInt8) ∈ s)
def dirE (W : WS) (id : Bs) : Int := if bI W id = false then 4 else if (gI' W id).k ≠ 2 then 14 else 0
def begS (cwd path : Bs) : Bs := if 64 < path.length then [] else match path with | [] => [] | c :: _ => if c = 47 then [114] else cwd
def begE (path : Bs) : Int := if 64 < path.length then 16 else if path = [] then 4 else 0
def stepV (W : WS) (id part : Bs) : Bs × Int :=
  if dirE W id ≠ 0 then ([], dirE W id) else if part = [46] then (id, 0) else if part = [46, 46] then (W.cells (kU id), 0) else if nameB part = false then ([], 16) else if W.cells (kE id part) ≠ [] then (W.cells (kE id part), 0) else ([], 4)
/-- every cell is short -/
def TB (W : WS) : Prop := ∀ k, (W.cells k).length ≤ 1000000
theorem TB.empty : TB emptyW := fun k => by simp [emptyW]
theorem TB.put {W : WS} (h : TB W) {k v : Bs} (hv : v.length ≤ 1000000) : TB (putS W k v) := fun j => by
  simp only [putS, updC]; split
  · exact hv
  · exact h j
theorem encI_len {n : InD} (h : InB n) : (encI n).length ≤ 100 := by
  have h1 := (itoa_len h.k).1
  have h2 := (itoa_len h.sz).1
  have h3 := (itoa_len h.ln).1
  unfold encI
  simp only [List.length_append, List.length_cons, List.length_nil]; omega
theorem done_no {b : Bool} {l : Bs} (h : (!(!b && decide (l = []))) = true) : ¬ (b = false ∧ l = []) := by
  rintro ⟨rfl, rfl⟩; simp at h
theorem done_yes {b : Bool} {l : Bs} (h : (!(!b && decide (l = []))) = false) : b = false ∧ l = [] := by
  cases b <;> simp_all
theorem u8_47 {c : UInt8} : ((c.toNat : Int) = 47) ↔ c = 47 := by
  constructor
  · intro h
    have : c.toNat = (47 : UInt8).toNat := by show c.toNat = 47; omega
    exact UInt8.toNat_inj.1 this
  · rintro rfl; rfl
theorem entry_sp {w : World} {F : Th} (hS : Sat w [F]) (dir name : Bs) (hd : dir.length ≤ 3000000) (hn : name.length ≤ 3000000) :
    Calls Tryz.prog 70 #[strV dir, strV name] w (Ret fun v w' => v = strV (kE dir name) ∧ Sat w' [F]) := by
 refine calls_enter Tryz.func70 rfl Tryz.ntmps70 rfl ?_
 refine wc_seq (wc_region (wl_assign rfl rfl (wl_nil (qs_seq (wc_seq (wc_region (wl_move rfl rfl ?_)))))))
 refine wl_concat rfl rfl (by first | omega | (simp; omega)) rfl ?_
 refine wl_concat rfl rfl (by first | omega | (simp; omega)) rfl ?_
 refine wl_move rfl rfl ?_
 refine wl_concat rfl rfl (by first | omega | (simp; omega)) rfl ?_
 refine wl_assign rfl rfl (wl_nil (qs_seq (wc_ret ?_)))
 refine fin1 (.inr rfl) rfl rfl ?_
 exact ⟨_, rfl, rfl, hS⟩
set_option maxRecDepth 100000 in
theorem encoded_sp {w : World} {F : Th} (hS : Sat w [F]) (hG : Ent F WireG) {n : InD} (hI : InB n) :
    Calls Tryz.prog 86 #[.agg #[intV n.k, intV n.sz, intV n.ln]] w (Ret fun v w' => v = strV (encI n) ∧ Sat w' [F]) := by
 refine calls_enter Tryz.func86 rfl Tryz.ntmps86 rfl ?_
 refine wc_seq (wc_region ?_)
 refine wl_box hS rfl rfl rfl ?_
 intro b1 w1 hS1
 refine wl_assign rfl rfl (wl_nil (qs_seq (wc_seq ?_)))
 have hS2 := hS1.drew
 refine wc_draw [0, 1, 3, 4, 7, 8, 2, 5, 6, 9, 10, 11] [2, 5, 9] mix (by kernel_rfl) ?_
 refine vc_p rfl rfl rfl (fun _ => (ev_fieldAddr rfl fo_35_0)) ?_
 refine vc_q rfl rfl rfl (ev_load rfl ag_3 (by first | assumption | exact hS2.cell 0 rfl rfl)) ?_
 refine vc_p rfl rfl rfl (fun _ => (ev_fieldAddr rfl fo_35_1)) ?_
 refine vc_q rfl rfl rfl (ev_load rfl ag_3 (by first | assumption | exact hS2.cell 0 rfl rfl)) ?_
 refine vc_p rfl rfl rfl (fun _ => (ev_fieldAddr rfl fo_35_2)) ?_
 refine vc_q rfl rfl rfl (ev_load rfl ag_3 (by first | assumption | exact hS2.cell 0 rfl rfl)) ?_
 refine vc_s rfl rfl rfl rfl rfl rfl ?_
 have hC3 := hS2.split [] [false, false] rfl; dsimp only [selF, pickA, nthA, List.cons_append, List.nil_append] at hC3
 refine wl_call cal_104 rfl (wInt_sp hC3 (hG.starL 1 rfl) n.k hI.k) rfl ?_
 rintro e w3 ⟨_, rfl, rfl, hS3⟩; refine ⟨_, rfl, ?_⟩
 replace hS3 := hS3.join rfl; dsimp only [List.dropLast, List.cons_append, List.nil_append] at hS3; clear hC3
 clear hS2
 have hil0 := (itoa_len hI.k).1
 refine vc_e (.cons (.inl ⟨rfl, (ev_load rfl ag_3 (by first | assumption | exact hS3.cell 0 rfl rfl))⟩) (.cons (.inl ⟨rfl, (ev_load rfl ag_3 (by first | assumption | exact hS3.cell 0 rfl rfl))⟩) (.skip (by kernel_rfl) .nil))) ?_
 refine vc_s rfl rfl rfl rfl rfl rfl ?_
 have hC4 := hS3.split [] [false, false] rfl; dsimp only [selF, pickA, nthA, List.cons_append, List.nil_append] at hC4
 refine wl_call cal_104 rfl (wInt_sp hC4 (hG.starL 1 rfl) n.sz hI.sz) rfl ?_
 rintro e w4 ⟨_, rfl, rfl, hS4⟩; refine ⟨_, rfl, ?_⟩
 replace hS4 := hS4.join rfl; dsimp only [List.dropLast, List.cons_append, List.nil_append] at hS4; clear hC4
 clear hS3
 have hil1 := (itoa_len hI.sz).1
 refine vc_e (.cons (.inl ⟨rfl, (ev_load rfl ag_3 (by first | assumption | exact hS4.cell 0 rfl rfl))⟩) (.skip (by kernel_rfl) (.skip (by kernel_rfl) .nil))) ?_
 refine vc_p rfl rfl rfl (fun _ => (ev_concat rfl rfl (by first | omega | (simp; omega)))) ?_
 refine vc_s rfl rfl rfl rfl rfl rfl ?_
 have hC5 := hS4.split [] [false, false] rfl; dsimp only [selF, pickA, nthA, List.cons_append, List.nil_append] at hC5
 refine wl_call cal_104 rfl (wInt_sp hC5 (hG.starL 1 rfl) n.ln hI.ln) rfl ?_
 rintro e w5 ⟨_, rfl, rfl, hS5⟩; refine ⟨_, rfl, ?_⟩
 replace hS5 := hS5.join rfl; dsimp only [List.dropLast, List.cons_append, List.nil_append] at hS5; clear hC5
 clear hS4
 have hil2 := (itoa_len hI.ln).1
 refine vc_e (.skip (by kernel_rfl) (.skip (by kernel_rfl) (.skip (by kernel_rfl) .nil))) ?_
 refine vc_p rfl rfl rfl (fun _ => (ev_concat rfl rfl (by first | omega | (simp; omega)))) ?_
 refine vc_p rfl rfl rfl (fun _ => (ev_assign rfl)) ?_
 refine VC.nil (qs_seq ?_)
 refine wc_sub (L' := [(2, _)]) (.cons rfl .nil) ?_
 refine wc_ret ?_
 refine fin1 (.inr rfl) rfl rfl ?_
 exact ⟨_, rfl, rfl, hS5.pick [1] rfl⟩
set_option maxRecDepth 100000 in
theorem setI_sp {w : World} {p : Nat} {W : WS} {F : Th} (hS : Sat w [worldT p W, F]) (hG : Ent F WireG) (id : Bs) (hid : id.length ≤ 3000000) {n : InD} (hI : InB n) :
    Calls Tryz.prog 43 #[.iface 25 (ptrV p 0), strV id, .agg #[intV n.k, intV n.sz, intV n.ln]] w (Ret fun v w' => v = .tuple #[] ∧ Sat w' [worldT p (setI W id n), F]) := by
 refine calls_enter Tryz.func43 rfl Tryz.ntmps43 rfl ?_
 refine wc_seq (wc_region ?_)
 refine wl_box hS rfl rfl rfl ?_
 intro b1 w1 hS1
 refine wl_nil (qs_seq ?_)
 have hS2 := hS1.drew
 refine wc_draw [0, 1, 2, 3, 5, 6, 7, 4, 8] [4, 8] mix (by kernel_rfl) ?_
 refine vc_p rfl rfl rfl (fun _ => (ev_move rfl)) ?_
 refine vc_p rfl rfl rfl (fun _ => (ev_move rfl)) ?_
 refine vc_p rfl rfl rfl (fun _ => (ev_concat rfl rfl (by first | omega | (simp; omega)))) ?_
 refine vc_q rfl rfl rfl (ev_loadA rfl ag_35 sz_35 (by first | exact hS2.blk 0 rfl) (by first | decide | exact Nat.le_of_ble_eq_true rfl | (simp; done) | omega) rfl) ?_
 refine vc_p rfl rfl rfl (fun _ => (ev_makeMeth rfl)) ?_
 refine vc_p rfl rfl rfl (fun _ => (ev_nilCheckMeth rfl (mnil_Put p))) ?_
 refine vc_p rfl rfl rfl (fun _ => (ev_move rfl)) ?_
 refine vc_s rfl rfl rfl rfl rfl rfl ?_
 have hC3 := hS2.split [] [false, false, false] rfl; dsimp only [selF, pickA, nthA, List.cons_append, List.nil_append] at hC3
 refine wl_call cal_86 rfl (encoded_sp hC3 (hG.starL 2 rfl) hI) rfl ?_
 rintro e w3 ⟨_, rfl, rfl, hS3⟩; refine ⟨_, rfl, ?_⟩
 replace hS3 := hS3.join rfl; dsimp only [List.dropLast, List.cons_append, List.nil_append] at hS3; clear hC3
 clear hS2
 refine vc_e (.skip (by kernel_rfl) .nil) ?_
 refine vc_s rfl rfl rfl rfl rfl rfl ?_
 have hC4 := hS3.split [1] [false, true, false] rfl; dsimp only [selF, pickA, nthA, List.cons_append, List.nil_append] at hC4
 refine wl_invoke (vs := [strV (kI id), strV (encI n)]) rfl (imeth_Put p) cal_23 rfl (put_sp hC4 (kI id) (encI n) (by simp only [kI, kU, kE, List.length_append, List.length_cons, List.length_nil]; omega) (by have := encI_len hI; omega)) rfl ?_
 rintro e w4 ⟨_, rfl, rfl, hS4⟩; refine ⟨_, rfl, ?_⟩
 replace hS4 := hS4.join rfl; dsimp only [List.dropLast, List.cons_append, List.nil_append] at hS4; clear hC4
 clear hS3
 refine vc_e (.skip (by kernel_rfl) .nil) ?_
 refine VC.nil ?_
 refine fin0 (.inl rfl) rfl ?_
 exact ⟨_, rfl, rfl, hS4.pick [0, 2] rfl⟩
set_option maxRecDepth 100000 in
theorem noI_sp {w : World} {p : Nat} {W : WS} {F : Th} (hS : Sat w [worldT p W, F]) (id : Bs) (hid : id.length ≤ 3000000) :
    Calls Tryz.prog 56 #[.iface 25 (ptrV p 0), strV id] w (Ret fun v w' => v = .tuple #[] ∧ Sat w' [worldT p (noI W id), F]) := by
 refine calls_enter Tryz.func56 rfl Tryz.ntmps56 rfl ?_
 refine wc_seq (wc_region (wl_move rfl rfl (wl_move rfl rfl ?_)))
 refine wl_concat rfl rfl (by first | omega | (simp; omega)) rfl ?_
 have hC1 := hS.split [0] [true, false] rfl; dsimp only [selF, pickA, nthA, List.cons_append, List.nil_append] at hC1
 refine wl_invoke (vs := [strV (kI id), strV []]) rfl (imeth_Put p) cal_23 rfl (put_sp hC1 (kI id) [] (by simp only [kI, kU, kE, List.length_append, List.length_cons, List.length_nil]; omega) (by simp)) rfl ?_
 rintro e w1 ⟨_, rfl, rfl, hS1⟩; refine ⟨_, rfl, ?_⟩
 replace hS1 := hS1.join rfl; dsimp only [List.dropLast, List.cons_append, List.nil_append] at hS1; clear hC1
 refine wl_nil (qs_seq (wc_region (wl_move rfl rfl (wl_move rfl rfl ?_))))
 refine wl_concat rfl rfl (by first | omega | (simp; omega)) rfl ?_
 have hC2 := hS1.split [0] [true, false] rfl; dsimp only [selF, pickA, nthA, List.cons_append, List.nil_append] at hC2
 refine wl_invoke (vs := [strV (kU id), strV []]) rfl (imeth_Put p) cal_23 rfl (put_sp hC2 (kU id) [] (by simp only [kI, kU, kE, List.length_append, List.length_cons, List.length_nil]; omega) (by simp)) rfl ?_
 rintro e w2 ⟨_, rfl, rfl, hS2⟩; refine ⟨_, rfl, ?_⟩
 replace hS2 := hS2.join rfl; dsimp only [List.dropLast, List.cons_append, List.nil_append] at hS2; clear hC2
 clear hS1
 refine wl_nil ?_
 refine fin0 (.inl rfl) rfl ?_
 exact ⟨_, rfl, rfl, hS2.pick [0, 1] rfl⟩
theorem rDone_sp {w : World} {F : Th} {b : Nat} {s : Bs × Bool} (hS : Sat w [readT b s, F]) :
    Calls Tryz.prog 76 #[ptrV b 0] w (Ret fun v w' => v = .bool (!s.2 && decide (s.1 = [])) ∧ Sat w' [readT b s, F]) := by
 obtain ⟨r, q⟩ := s
 change Sat w [blkT b [strV r, .bool q], F] at hS
 refine calls_enter Tryz.func76 rfl Tryz.ntmps76 rfl ?_
 refine wc_seq (wc_region (wl_assign rfl rfl (wl_nil (qs_seq (wc_seq (wc_region (wl_move rfl rfl (wl_nilCheck rfl rfl ?_))))))))
 refine wl_fieldAddr rfl fo_132_1 rfl ?_
 refine wl_load rfl ag_4 (by first | assumption | exact hS.cell 0 rfl rfl) rfl ?_
 refine wl_not rfl rfl ?_
 refine wl_move rfl rfl ?_
 refine wl_split 8 rfl (fun h1 => ?_) (fun h1 => ?_)
 ·refine wl_guard rfl rfl h1 ?_
  refine wl_move rfl rfl ?_
  refine wl_guard rfl rfl h1 ?_
  refine wl_nilCheck rfl rfl ?_
  refine wl_guard rfl rfl h1 ?_
  refine wl_fieldAddr rfl fo_132_0 rfl ?_
  refine wl_guard rfl rfl h1 ?_
  refine wl_load rfl ag_9 (by first | assumption | exact hS.cell 0 rfl rfl) rfl ?_
  refine wl_guard rfl rfl h1 ?_
  refine wl_eqlS rfl rfl rfl ?_
  refine wl_pickT rfl h1 rfl rfl ?_
  refine wl_assign rfl rfl (wl_nil (qs_seq ?_))
  refine wc_sub (L' := [(2, _)]) (.cons rfl .nil) ?_
  refine wc_ret ?_
  refine fin1 (.inr rfl) rfl rfl ?_
  exact ⟨_, rfl, by cases q <;> simp_all, hS⟩
 refine wl_unwanted rfl rfl h1 rfl ?_
 refine wl_unwanted rfl rfl h1 rfl ?_
 refine wl_unwanted rfl rfl h1 rfl ?_
 refine wl_unwanted rfl rfl h1 rfl ?_
 refine wl_unwanted rfl rfl h1 rfl ?_
 refine wl_pickF rfl h1 rfl rfl ?_
 refine wl_assign rfl rfl (wl_nil (qs_seq ?_))
 refine wc_sub (L' := [(2, _)]) (.cons rfl .nil) ?_
 refine wc_ret ?_
 refine fin1 (.inr rfl) rfl rfl ?_
 exact ⟨_, rfl, by cases q <;> simp_all, hS⟩
set_option maxRecDepth 100000 in
theorem inode_sp {w : World} {p : Nat} {W : WS} {F : Th} (hS : Sat w [worldT p W, F]) (hG : Ent F WireG) (id : Bs) (hid : id.length ≤ 3000000) (hz : (W.cells (kI id)).length ≤ 1000000) :
    Calls Tryz.prog 30 #[.iface 25 (ptrV p 0), strV id] w (Ret fun v w' => v = .tuple #[.agg #[intV (gI' W id).k, intV (gI' W id).sz, intV (gI' W id).ln], .bool (bI W id)] ∧ Sat w' [worldT p W, F]) := by
 refine calls_enter Tryz.func30 rfl Tryz.ntmps30 rfl ?_
 refine wc_seq (wc_region ?_)
 refine wl_alloc hS zr_35 rfl rfl ?_
 intro b1 w1 hS1
 refine wl_assign rfl rfl (wl_nil (qs_seq (wc_seq (wc_region (wl_move rfl rfl (wl_move rfl rfl ?_))))))
 refine wl_concat rfl rfl (by first | omega | (simp; omega)) rfl ?_
 have hC2 := hS1.split [1] [false, true, false] rfl; dsimp only [selF, pickA, nthA, List.cons_append, List.nil_append] at hC2
 refine wl_invoke (vs := [strV (kI id)]) rfl (imeth_Get p) cal_16 rfl (get_sp hC2 (kI id)) rfl ?_
 rintro e w2 ⟨_, rfl, rfl, hS2⟩; refine ⟨_, rfl, ?_⟩
 replace hS2 := hS2.join rfl; dsimp only [List.dropLast, List.cons_append, List.nil_append] at hS2; clear hC2
 clear hS1
 refine wl_assign rfl rfl (wl_nil (qs_seq (wc_seq (wc_seq (wc_region (wl_move rfl rfl ?_))))))
 refine wl_eqlS rfl rfl rfl ?_
 refine wl_nil (qs_seq ?_)
 refine wc_sub (L' := [(14, _), (6, _), (5, _), (4, _)]) (.cons rfl (.cons rfl (.cons rfl (.cons rfl .nil)))) ?_
 refine wc_condD rfl (fun h3 => ?_) (fun h3 => ?_)
 ·refine wc_seq (wc_region ?_)
  refine wl_buildS rfl pl_35_ asz_35 zr_35 rfl rfl ?_
  first | (refine wl_storeA hS2 rfl rfl sz_35 rfl (by first | rfl | (simp [allOne, Value.oneCell']; done) | assumption | exact hone) (i := 1) rfl (by first | decide | exact Nat.le_of_ble_eq_true rfl | (simp; done) | omega) ?_)
  intro w4 hS5; dsimp only [List.set] at hS5
  clear hS2
  refine wl_assign rfl rfl (wl_nil (qs_seq (wc_ret (qs_then_ret ?_))))
  refine finR2 (.inr rfl) rfl (resCA rfl ag_35 sz_35 (by first | exact hS5.blk 1 rfl) (by first | decide | exact Nat.le_of_ble_eq_true rfl | (simp; done) | omega) rfl) (resT rfl) ?_
  have hg : inoW W id = none := by unfold inoW decI; rw [if_pos (by assumption)]
  exact ⟨_, rfl, by unfold gI' bI; rw [hg]; rfl, hS5.pick [0, 2] rfl⟩
 refine wc_skip (qs_seq (wc_seq (wc_region (wl_move rfl rfl ?_))))
 have hC6 := hS2.split [] [false, false, false] rfl; dsimp only [selF, pickA, nthA, List.cons_append, List.nil_append] at hC6
 refine wl_call cal_74 rfl (wOpen_sp hC6 (W.cells (kI id))) rfl ?_
 rintro e w6 ⟨_, rfl, rb, rfl, hS6⟩; refine ⟨_, rfl, ?_⟩
 replace hS6 := hS6.join rfl; dsimp only [List.dropLast, List.cons_append, List.nil_append] at hS6; clear hC6
 clear hS2
 have hz0 : ((W.cells (kI id), false) : Bs × Bool).1.length ≤ 1000000 := hz
 refine wl_assign rfl rfl (wl_nil (qs_seq (wc_seq (wc_region (wl_move rfl rfl ?_)))))
 have hC7 := hS6.split [0] [true, false, false, false] rfl; dsimp only [selF, pickA, nthA, List.cons_append, List.nil_append] at hC7
 refine wl_call cal_75 rfl (rInt_sp hC7 (hG.starL 2 rfl) (by omega)) rfl ?_
 rintro e w7 ⟨_, rfl, rfl, hS7⟩; refine ⟨_, rfl, ?_⟩
 replace hS7 := hS7.join rfl; dsimp only [List.dropLast, List.cons_append, List.nil_append] at hS7; clear hC7
 clear hS6
 have hrl0 := numR_len 59 (-9223372036854775808) (W.cells (kI id), false)
 refine wl_move rfl rfl ?_
 have hC8 := hS7.split [0] [true, false, false, false] rfl; dsimp only [selF, pickA, nthA, List.cons_append, List.nil_append] at hC8
 refine wl_call cal_75 rfl (rInt_sp hC8 (hG.starL 2 rfl) (by omega)) rfl ?_
 rintro e w8 ⟨_, rfl, rfl, hS8⟩; refine ⟨_, rfl, ?_⟩
 replace hS8 := hS8.join rfl; dsimp only [List.dropLast, List.cons_append, List.nil_append] at hS8; clear hC8
 clear hS7
 have hrl1 := numR_len 59 (-9223372036854775808) (numR 59 (-9223372036854775808) (W.cells (kI id), false))
 refine wl_move rfl rfl ?_
 have hC9 := hS8.split [0] [true, false, false, false] rfl; dsimp only [selF, pickA, nthA, List.cons_append, List.nil_append] at hC9
 refine wl_call cal_75 rfl (rInt_sp hC9 (hG.starL 2 rfl) (by omega)) rfl ?_
 rintro e w9 ⟨_, rfl, rfl, hS9⟩; refine ⟨_, rfl, ?_⟩
 replace hS9 := hS9.join rfl; dsimp only [List.dropLast, List.cons_append, List.nil_append] at hS9; clear hC9
 clear hS8
 have hrl2 := numR_len 59 (-9223372036854775808) (numR 59 (-9223372036854775808) (numR 59 (-9223372036854775808) (W.cells (kI id), false)))
 refine wl_buildS rfl pl_35_0_1_2 asz_35 zr_35 rfl rfl ?_
 refine wl_alloc hS9 zr_35 rfl rfl ?_
 intro b10 w10 hS10
 clear hS9
 first | (refine wl_storeA hS10 rfl rfl sz_35 rfl (by first | rfl | (simp [allOne, Value.oneCell']; done) | assumption | exact hone) (i := 0) rfl (by first | decide | exact Nat.le_of_ble_eq_true rfl | (simp; done) | omega) ?_) | (refine wl_storeA hS10 rfl rfl sz_35 rfl (by first | rfl | (simp [allOne, Value.oneCell']; done) | assumption | exact hone) (i := 3) rfl (by first | decide | exact Nat.le_of_ble_eq_true rfl | (simp; done) | omega) ?_)
 intro w11 hS12; dsimp only [List.set] at hS12
 clear hS10
 refine wl_nil (qs_seq ?_)
 refine wc_sub (L' := [(8, _), (7, _), (5, _), (4, _)]) (.cons rfl (.cons rfl (.cons rfl (.cons rfl .nil)))) ?_
 refine wc_seq (wc_seq (wc_region (wl_move rfl rfl ?_)))
 have hC13 := hS12.split [1] [false, true, false, false, false] rfl; dsimp only [selF, pickA, nthA, List.cons_append, List.nil_append] at hC13
 refine wl_call cal_76 rfl (rDone_sp hC13) rfl ?_
 rintro e w13 ⟨_, rfl, rfl, hS13⟩; refine ⟨_, rfl, ?_⟩
 replace hS13 := hS13.join rfl; dsimp only [List.dropLast, List.cons_append, List.nil_append] at hS13; clear hC13
 clear hS12
 refine wl_not rfl rfl ?_
 refine wl_nil (qs_seq ?_)
 refine wc_cond rfl (fun h14 => ?_) (fun h14 => ?_)
 ·refine wc_seq (wc_region ?_)
  refine wl_buildS rfl pl_35_ asz_35 zr_35 rfl rfl ?_
  first | (refine wl_storeA hS13 rfl rfl sz_35 rfl (by first | rfl | (simp [allOne, Value.oneCell']; done) | assumption | exact hone) (i := 1) rfl (by first | decide | exact Nat.le_of_ble_eq_true rfl | (simp; done) | omega) ?_) | (refine wl_storeA hS13 rfl rfl sz_35 rfl (by first | rfl | (simp [allOne, Value.oneCell']; done) | assumption | exact hone) (i := 3) rfl (by first | decide | exact Nat.le_of_ble_eq_true rfl | (simp; done) | omega) ?_)
  intro w15 hS16; dsimp only [List.set] at hS16
  clear hS13
  refine wl_assign rfl rfl (wl_nil (qs_seq (wc_ret (qs_then_ret ?_))))
  refine finR2 (.inr rfl) rfl (resCA rfl ag_35 sz_35 (by first | exact hS16.blk 1 rfl | exact hS16.blk 3 rfl) (by first | decide | exact Nat.le_of_ble_eq_true rfl | (simp; done) | omega) rfl) (resT rfl) ?_
  have hg : inoW W id = none := by unfold inoW decI imin; rw [if_neg (by assumption), if_neg (done_no (by assumption))]
  exact ⟨_, rfl, by unfold gI' bI; rw [hg]; rfl, hS16.pick [2, 4] rfl⟩
 refine wc_skip (qs_seq (wc_seq (wc_region ?_)))
 refine wl_loadA rfl ag_35 sz_35 (by first | exact hS13.blk 1 rfl | exact hS13.blk 3 rfl) (by first | decide | exact Nat.le_of_ble_eq_true rfl | (simp; done) | omega) rfl rfl ?_
 first | (refine wl_storeA hS13 rfl rfl sz_35 rfl (by first | rfl | (simp [allOne, Value.oneCell']; done) | assumption | exact hone) (i := 1) rfl (by first | decide | exact Nat.le_of_ble_eq_true rfl | (simp; done) | omega) ?_) | (refine wl_storeA hS13 rfl rfl sz_35 rfl (by first | rfl | (simp [allOne, Value.oneCell']; done) | assumption | exact hone) (i := 3) rfl (by first | decide | exact Nat.le_of_ble_eq_true rfl | (simp; done) | omega) ?_)
 intro w17 hS18; dsimp only [List.set] at hS18
 clear hS13
 refine wl_assign rfl rfl (wl_nil (qs_seq (wc_ret ?_)))
 refine finR2 (.inr rfl) rfl (resCA rfl ag_35 sz_35 (by first | exact hS18.blk 1 rfl | exact hS18.blk 3 rfl) (by first | decide | exact Nat.le_of_ble_eq_true rfl | (simp; done) | omega) rfl) (resT rfl) ?_
 have hdn := done_yes (by assumption)
 have hg : inoW W id = some ⟨numV 59 imin (W.cells (kI id), false), numV 59 imin (numR 59 imin (W.cells (kI id), false)), numV 59 imin (numR 59 imin (numR 59 imin (W.cells (kI id), false)))⟩ := by unfold inoW decI imin; rw [if_neg (by assumption), if_pos ⟨hdn.1, hdn.2⟩]
 exact ⟨_, rfl, by unfold gI' bI; rw [hg]; rfl, hS18.pick [2, 4] rfl⟩
theorem name_sp {w : World} {F : Th} (hS : Sat w [F]) (s : Bs) (hs : s.length ≤ 3000000) :
    Calls Tryz.prog 13 #[strV s] w (Ret fun v w' => v = .bool (nameB s) ∧ Sat w' [F]) := by
 refine calls_enter Tryz.func13 rfl Tryz.ntmps13 rfl ?_
 refine wc_seq (wc_region (wl_assign rfl rfl (wl_nil (qs_seq (wc_seq (wc_region (wl_move rfl rfl ?_)))))))
 refine wl_neqS rfl rfl rfl ?_
 refine wl_move rfl rfl ?_
 refine wl_splitD 5 rfl (fun h1 => ?_) (fun h1 => ?_)
 ·refine wl_guard rfl rfl (decide_eq_true h1) ?_
  refine wl_move rfl rfl ?_
  refine wl_guard rfl rfl (decide_eq_true h1) ?_
  refine wl_lenS Tryz.underlying9 rfl rfl ?_
  refine wl_guard rfl rfl (decide_eq_true h1) ?_
  refine wl_leq rfl rfl rfl ?_
  refine wl_pickT rfl (decide_eq_true h1) rfl rfl ?_
  refine wl_move rfl rfl ?_
  refine wl_splitD 10 rfl (fun h2 => ?_) (fun h2 => ?_)
  ·refine wl_guard rfl rfl (decide_eq_true h2) ?_
   refine wl_move rfl rfl ?_
   refine wl_guard rfl rfl (decide_eq_true h2) ?_
   refine wl_neqS rfl rfl rfl ?_
   refine wl_pickT rfl (decide_eq_true h2) rfl rfl ?_
   refine wl_move rfl rfl ?_
   refine wl_splitD 14 rfl (fun h3 => ?_) (fun h3 => ?_)
   ·refine wl_guard rfl rfl (decide_eq_true h3) ?_
    refine wl_move rfl rfl ?_
    refine wl_guard rfl rfl (decide_eq_true h3) ?_
    refine wl_neqS rfl rfl rfl ?_
    refine wl_pickT rfl (decide_eq_true h3) rfl rfl ?_
    refine wl_move rfl rfl ?_
    refine wl_splitD 18 rfl (fun h4 => ?_) (fun h4 => ?_)
    ·refine wl_guard rfl rfl (decide_eq_true h4) ?_
     refine wl_move rfl rfl ?_
     refine wl_guard rfl rfl (decide_eq_true h4) ?_
     have hC5 := hS.split [] [false] rfl; dsimp only [selF, pickA, nthA, List.cons_append, List.nil_append] at hC5
     refine wl_call cal_53 rfl (contains_sp hC5 s 47) rfl ?_
     rintro e w5 ⟨_, rfl, rfl, hS5⟩; refine ⟨_, rfl, ?_⟩
     replace hS5 := hS5.join rfl; dsimp only [List.dropLast, List.cons_append, List.nil_append] at hS5; clear hC5
     refine wl_guard rfl rfl (decide_eq_true h4) ?_
     refine wl_not rfl rfl ?_
     refine wl_pickT rfl (decide_eq_true h4) rfl rfl ?_
     refine wl_assign rfl rfl (wl_nil (qs_seq ?_))
     refine wc_sub (L' := [(2, _)]) (.cons rfl .nil) ?_
     refine wc_ret ?_
     refine fin1 (.inr rfl) rfl rfl ?_
     exact ⟨_, rfl, by first | (simp [nameB, *]; done) | (simp [nameB, *]; intros; omega), hS5.pick [0] rfl⟩
    refine wl_unwanted rfl rfl (decide_eq_false h4) rfl ?_
    refine wl_unwanted rfl rfl (decide_eq_false h4) rfl ?_
    refine wl_unwanted rfl rfl (decide_eq_false h4) rfl ?_
    refine wl_pickF rfl (decide_eq_false h4) rfl rfl ?_
    refine wl_assign rfl rfl (wl_nil (qs_seq ?_))
    refine wc_sub (L' := [(2, _)]) (.cons rfl .nil) ?_
    refine wc_ret ?_
    refine fin1 (.inr rfl) rfl rfl ?_
    exact ⟨_, rfl, by first | (simp [nameB, *]; done) | (simp [nameB, *]; intros; omega), hS.pick [0] rfl⟩
   refine wl_unwanted rfl rfl (decide_eq_false h3) rfl ?_
   refine wl_unwanted rfl rfl (decide_eq_false h3) rfl ?_
   refine wl_pickF rfl (decide_eq_false h3) rfl rfl ?_
   refine wl_move rfl rfl ?_
   refine wl_unwanted rfl rfl rfl rfl ?_
   refine wl_unwanted rfl rfl rfl rfl ?_
   refine wl_unwanted rfl rfl rfl rfl ?_
   refine wl_pickF rfl rfl rfl rfl ?_
   refine wl_assign rfl rfl (wl_nil (qs_seq ?_))
   refine wc_sub (L' := [(2, _)]) (.cons rfl .nil) ?_
   refine wc_ret ?_
   refine fin1 (.inr rfl) rfl rfl ?_
   exact ⟨_, rfl, by first | (simp [nameB, *]; done) | (simp [nameB, *]; intros; omega), hS.pick [0] rfl⟩
  refine wl_unwanted rfl rfl (decide_eq_false h2) rfl ?_
  refine wl_unwanted rfl rfl (decide_eq_false h2) rfl ?_
  refine wl_pickF rfl (decide_eq_false h2) rfl rfl ?_
  refine wl_move rfl rfl ?_
  refine wl_unwanted rfl rfl rfl rfl ?_
  refine wl_unwanted rfl rfl rfl rfl ?_
  refine wl_pickF rfl rfl rfl rfl ?_
  refine wl_move rfl rfl ?_
  refine wl_unwanted rfl rfl rfl rfl ?_
  refine wl_unwanted rfl rfl rfl rfl ?_
  refine wl_unwanted rfl rfl rfl rfl ?_
  refine wl_pickF rfl rfl rfl rfl ?_
  refine wl_assign rfl rfl (wl_nil (qs_seq ?_))
  refine wc_sub (L' := [(2, _)]) (.cons rfl .nil) ?_
  refine wc_ret ?_
  refine fin1 (.inr rfl) rfl rfl ?_
  exact ⟨_, rfl, by first | (simp [nameB, *]; done) | (simp [nameB, *]; intros; omega), hS.pick [0] rfl⟩
 refine wl_unwanted rfl rfl (decide_eq_false h1) rfl ?_
 refine wl_unwanted rfl rfl (decide_eq_false h1) rfl ?_
 refine wl_unwanted rfl rfl (decide_eq_false h1) rfl ?_
 refine wl_pickF rfl (decide_eq_false h1) rfl rfl ?_
 refine wl_move rfl rfl ?_
 refine wl_unwanted rfl rfl rfl rfl ?_
 refine wl_unwanted rfl rfl rfl rfl ?_
 refine wl_pickF rfl rfl rfl rfl ?_
 refine wl_move rfl rfl ?_
 refine wl_unwanted rfl rfl rfl rfl ?_
 refine wl_unwanted rfl rfl rfl rfl ?_
 refine wl_pickF rfl rfl rfl rfl ?_
 refine wl_move rfl rfl ?_
 refine wl_unwanted rfl rfl rfl rfl ?_
 refine wl_unwanted rfl rfl rfl rfl ?_
 refine wl_unwanted rfl rfl rfl rfl ?_
 refine wl_pickF rfl rfl rfl rfl ?_
 refine wl_assign rfl rfl (wl_nil (qs_seq ?_))
 refine wc_sub (L' := [(2, _)]) (.cons rfl .nil) ?_
 refine wc_ret ?_
 refine fin1 (.inr rfl) rfl rfl ?_
 exact ⟨_, rfl, by first | (simp [nameB, *]; done) | (simp [nameB, *]; intros; omega), hS.pick [0] rfl⟩
set_option maxRecDepth 100000 in
theorem dir_sp {w : World} {p : Nat} {W : WS} {F : Th} (hS : Sat w [worldT p W, F]) (hG : Ent F WireG) (hB : TB W) (id : Bs) (hid : id.length ≤ 3000000) :
    Calls Tryz.prog 52 #[.iface 25 (ptrV p 0), strV id] w (Ret fun v w' => v = intV (dirE W id) ∧ Sat w' [worldT p W, F]) := by
 refine calls_enter Tryz.func52 rfl Tryz.ntmps52 rfl ?_
 refine wc_seq (wc_region (wl_assign rfl rfl (wl_nil (qs_seq (wc_seq (wc_seq (wc_region (wl_move rfl rfl (wl_move rfl rfl ?_)))))))))
 have hC1 := hS.split [0] [true, false] rfl; dsimp only [selF, pickA, nthA, List.cons_append, List.nil_append] at hC1
 refine wl_call cal_30 rfl (inode_sp hC1 (hG.starL 0 rfl) id hid (hB _)) rfl ?_
 rintro e w1 ⟨_, rfl, rfl, hS1⟩; refine ⟨_, rfl, ?_⟩
 replace hS1 := hS1.join rfl; dsimp only [List.dropLast, List.cons_append, List.nil_append] at hS1; clear hC1
 refine wl_move rfl rfl (wl_extract rfl rfl rfl (wl_extract rfl rfl rfl ?_))
 refine wl_alloc hS1 zr_35 rfl rfl ?_
 intro b2 w2 hS2
 clear hS1
 first | (refine wl_storeA hS2 rfl rfl sz_35 rfl (by first | rfl | (simp [allOne, Value.oneCell']; done) | assumption | exact hone) (i := 0) rfl (by first | decide | exact Nat.le_of_ble_eq_true rfl | (simp; done) | omega) ?_)
 intro w3 hS4; dsimp only [List.set] at hS4
 clear hS2
 refine wl_assign rfl rfl (wl_nil (qs_seq ?_))
 refine wc_sub (L' := [(6, _), (5, _), (4, _)]) (.cons rfl (.cons rfl (.cons rfl .nil))) ?_
 refine wc_block (wc_seq (wc_region (wl_move rfl rfl ?_)))
 refine wl_not rfl rfl ?_
 refine wl_assign rfl rfl (wl_nil (qs_seq ?_))
 refine wc_cond rfl (fun h5 => ?_) (fun h5 => ?_)
 ·have hb0 : bI W id = false := by simpa using h5
  refine wc_seq (wc_region (wl_assign rfl rfl (wl_nil (qs_seq (wc_ret (qs_block_ret (qs_then_ret ?_)))))))
  refine fin1 (.inr rfl) rfl rfl ?_
  exact ⟨_, rfl, by unfold dirE; rw [if_pos (by simpa using hb0)], hS4.pick [1, 2] rfl⟩
 have hb0 : bI W id = true := by simpa using h5
 refine wc_seq (wc_region ?_)
 refine wl_fieldAddr rfl fo_35_0 rfl ?_
 refine wl_load rfl ag_3 (by first | assumption | exact hS4.cell 0 rfl rfl) rfl ?_
 refine wl_neq rfl rfl rfl ?_
 refine wl_assign rfl rfl (wl_nil (qs_seq ?_))
 refine wc_condD rfl (fun h6 => ?_) (fun h6 => ?_)
 ·refine wc_seq (wc_region (wl_assign rfl rfl (wl_nil (qs_seq (wc_ret (qs_block_ret (qs_then_ret ?_)))))))
  refine fin1 (.inr rfl) rfl rfl ?_
  exact ⟨_, rfl, by unfold dirE; rw [if_neg (by simp [hb0]), if_pos (by assumption)], hS4.pick [1, 2] rfl⟩
 refine wc_skip (qs_block_normal (qs_seq (wc_seq (wc_region (wl_assign rfl rfl (wl_nil (qs_seq (wc_ret ?_))))))))
 refine fin1 (.inr rfl) rfl rfl ?_
 exact ⟨_, rfl, by unfold dirE; rw [if_neg (by simp [hb0]), if_neg (by assumption)], hS4.pick [1, 2] rfl⟩
theorem begin_sp {w : World} {F : Th} (hS : Sat w [F]) (cwd path : Bs) (hp : path.length ≤ 3000000) :
    Calls Tryz.prog 48 #[strV cwd, strV path] w (Ret fun v w' => v = .tuple #[strV (begS cwd path), intV (begE path)] ∧ Sat w' [F]) := by
 refine calls_enter Tryz.func48 rfl Tryz.ntmps48 rfl ?_
 refine wc_seq (wc_region (wl_assign rfl rfl (wl_assign rfl rfl (wl_nil (qs_seq (wc_seq (wc_block (wc_seq (wc_region (wl_move rfl rfl ?_))))))))))
 refine wl_lenS Tryz.underlying9 rfl rfl ?_
 refine wl_gtr rfl rfl rfl ?_
 refine wl_assign rfl rfl (wl_nil (qs_seq ?_))
 refine wc_condD rfl (fun h1 => ?_) (fun h1 => ?_)
 ·refine wc_seq (wc_region (wl_assign rfl rfl (wl_assign rfl rfl (wl_nil (qs_seq (wc_ret (qs_block_ret (qs_then_ret ?_))))))))
  refine fin2 (.inr rfl) rfl rfl rfl ?_
  exact ⟨_, rfl, by unfold begS begE; rw [if_pos (by omega), if_pos (by omega)], hS.pick [0] rfl⟩
 refine wc_seq (wc_region (wl_move rfl rfl ?_))
 refine wl_eqlS rfl rfl rfl ?_
 refine wl_assign rfl rfl (wl_nil (qs_seq ?_))
 refine wc_sub (L' := [(10, _), (5, _), (4, _), (0, _), (1, _)]) (.cons rfl (.cons rfl (.cons rfl (.cons rfl (.cons rfl .nil))))) ?_
 refine wc_condD rfl (fun h2 => ?_) (fun h2 => ?_)
 ·have hpe : path = [] := h2
  refine wc_seq (wc_region (wl_assign rfl rfl (wl_assign rfl rfl (wl_nil (qs_seq (wc_ret (qs_block_ret (qs_then_ret ?_))))))))
  refine fin2 (.inr rfl) rfl rfl rfl ?_
  exact ⟨_, rfl, by subst hpe; rfl, hS.pick [0] rfl⟩
 obtain ⟨c0, pt, rfl⟩ : ∃ c t, path = c :: t := by cases path with | nil => exact absurd rfl h2 | cons c t => exact ⟨c, t, rfl⟩
 refine wc_seq (wc_region (wl_move rfl rfl ?_))
 refine wl_indexS 0 Tryz.underlying9 rfl rfl (by first | rfl | omega) (show (c0 :: pt : Bs)[0]? = some c0 from rfl) rfl ?_
 refine wl_eql rfl rfl rfl ?_
 refine wl_assign rfl rfl (wl_nil (qs_seq ?_))
 refine wc_condD rfl (fun h3 => ?_) (fun h3 => ?_)
 ·refine wc_seq (wc_region (wl_assign rfl rfl (wl_assign rfl rfl (wl_nil (qs_seq (wc_ret (qs_block_ret (qs_then_ret ?_))))))))
  refine fin2 (.inr rfl) rfl rfl rfl ?_
  exact ⟨_, rfl, by unfold begS begE; rw [if_neg (by omega), if_neg (by omega), if_neg (by simp)]; dsimp only; rw [if_pos (by rw [← u8_47]; assumption)], hS.pick [0] rfl⟩
 refine wc_skip (qs_block_normal (qs_seq (wc_seq (wc_region (wl_move rfl rfl (wl_assign rfl rfl (wl_assign rfl rfl (wl_nil (qs_seq (wc_ret ?_))))))))))
 refine fin2 (.inr rfl) rfl rfl rfl ?_
 exact ⟨_, rfl, by unfold begS begE; rw [if_neg (by omega), if_neg (by omega), if_neg (by simp)]; dsimp only; rw [if_neg (by rw [← u8_47]; assumption)], hS.pick [0] rfl⟩
set_option maxRecDepth 100000 in
theorem step_sp {w : World} {p : Nat} {W : WS} {F : Th} (hS : Sat w [worldT p W, F]) (hG : Ent F WireG) (hB : TB W) (id part : Bs) (hid : id.length ≤ 3000000) (hp : part.length ≤ 3000000) :
    Calls Tryz.prog 50 #[.iface 25 (ptrV p 0), strV id, strV part] w (Ret fun v w' => v = .tuple #[strV (stepV W id part).1, intV (stepV W id part).2] ∧ Sat w' [worldT p W, F]) := by
 refine calls_enter Tryz.func50 rfl Tryz.ntmps50 rfl ?_
 refine wc_seq (wc_region (wl_assign rfl rfl (wl_assign rfl rfl (wl_nil (qs_seq (wc_seq (wc_seq (wc_region (wl_move rfl rfl (wl_move rfl rfl ?_))))))))))
 have hC1 := hS.split [0] [true, false] rfl; dsimp only [selF, pickA, nthA, List.cons_append, List.nil_append] at hC1
 refine wl_call cal_52 rfl (dir_sp hC1 (hG.starL 0 rfl) hB id hid) rfl ?_
 rintro e w1 ⟨_, rfl, rfl, hS1⟩; refine ⟨_, rfl, ?_⟩
 replace hS1 := hS1.join rfl; dsimp only [List.dropLast, List.cons_append, List.nil_append] at hS1; clear hC1
 refine wl_assign rfl rfl (wl_nil (qs_seq (wc_seq (wc_region (wl_move rfl rfl ?_)))))
 refine wl_neq rfl rfl rfl ?_
 refine wl_nil (qs_seq ?_)
 refine wc_sub (L' := [(14, _), (8, _), (7, _), (6, _), (0, _), (1, _), (2, _)]) (.cons rfl (.cons rfl (.cons rfl (.cons rfl (.cons rfl (.cons rfl (.cons rfl .nil))))))) ?_
 refine wc_condD rfl (fun h2 => ?_) (fun h2 => ?_)
 ·refine wc_seq (wc_region (wl_move rfl rfl (wl_assign rfl rfl (wl_assign rfl rfl (wl_nil (qs_seq (wc_ret (qs_then_ret ?_))))))))
  refine fin2 (.inr rfl) rfl rfl rfl ?_
  exact ⟨_, rfl, by unfold stepV; rw [if_pos (by assumption)], hS1.pick [0, 1] rfl⟩
 refine wc_skip (qs_seq (wc_seq (wc_block (wc_seq (wc_region (wl_move rfl rfl ?_))))))
 refine wl_eqlS rfl rfl rfl ?_
 refine wl_assign rfl rfl (wl_nil (qs_seq ?_))
 refine wc_condD rfl (fun h3 => ?_) (fun h3 => ?_)
 ·refine wc_seq (wc_region (wl_move rfl rfl (wl_assign rfl rfl (wl_assign rfl rfl (wl_nil (qs_seq ?_))))))
  refine wc_sub (L' := [(7, _), (6, _), (0, _), (1, _), (2, _)]) (.cons rfl (.cons rfl (.cons rfl (.cons rfl (.cons rfl .nil))))) ?_
  refine wc_ret (qs_block_ret (qs_then_ret ?_))
  refine fin2 (.inr rfl) rfl rfl rfl ?_
  exact ⟨_, rfl, by unfold stepV; rw [if_neg (by assumption), if_pos (by assumption)], hS1.pick [0, 1] rfl⟩
 refine wc_seq (wc_region (wl_move rfl rfl ?_))
 refine wl_eqlS rfl rfl rfl ?_
 refine wl_assign rfl rfl (wl_nil (qs_seq ?_))
 refine wc_sub (L' := [(20, _), (7, _), (6, _), (0, _), (1, _), (2, _)]) (.cons rfl (.cons rfl (.cons rfl (.cons rfl (.cons rfl (.cons rfl .nil)))))) ?_
 refine wc_condD rfl (fun h4 => ?_) (fun h4 => ?_)
 ·refine wc_seq (wc_region (wl_move rfl rfl (wl_move rfl rfl ?_)))
  refine wl_concat rfl rfl (by first | omega | (simp; omega)) rfl ?_
  have hC5 := hS1.split [0] [true, false] rfl; dsimp only [selF, pickA, nthA, List.cons_append, List.nil_append] at hC5
  refine wl_invoke (vs := [strV (kU id)]) rfl (imeth_Get p) cal_16 rfl (get_sp hC5 (kU id)) rfl ?_
  rintro e w5 ⟨_, rfl, rfl, hS5⟩; refine ⟨_, rfl, ?_⟩
  replace hS5 := hS5.join rfl; dsimp only [List.dropLast, List.cons_append, List.nil_append] at hS5; clear hC5
  clear hS1
  refine wl_assign rfl rfl (wl_assign rfl rfl (wl_nil (qs_seq (wc_ret (qs_block_ret (qs_then_ret ?_))))))
  refine fin2 (.inr rfl) rfl rfl rfl ?_
  exact ⟨_, rfl, by unfold stepV; rw [if_neg (by assumption), if_neg (by assumption), if_pos (by assumption)], hS5.pick [0, 1] rfl⟩
 refine wc_seq (wc_region (wl_move rfl rfl ?_))
 have hC6 := hS1.split [] [false, false] rfl; dsimp only [selF, pickA, nthA, List.cons_append, List.nil_append] at hC6
 refine wl_call cal_13 rfl (name_sp hC6 part hp) rfl ?_
 rintro e w6 ⟨_, rfl, rfl, hS6⟩; refine ⟨_, rfl, ?_⟩
 replace hS6 := hS6.join rfl; dsimp only [List.dropLast, List.cons_append, List.nil_append] at hS6; clear hC6
 clear hS1
 refine wl_not rfl rfl ?_
 refine wl_assign rfl rfl (wl_nil (qs_seq ?_))
 refine wc_cond rfl (fun h7 => ?_) (fun h7 => ?_)
 ·have hn3 : nameB part = false := by simpa using h7
  refine wc_seq (wc_region (wl_assign rfl rfl (wl_assign rfl rfl (wl_nil (qs_seq (wc_ret (qs_block_ret (qs_then_ret ?_))))))))
  refine fin2 (.inr rfl) rfl rfl rfl ?_
  exact ⟨_, rfl, by unfold stepV; rw [if_neg (by assumption), if_neg (by assumption), if_neg (by assumption), if_pos (by simpa using hn3)], hS6.pick [0, 1] rfl⟩
 have hn3 : nameB part = true := by simpa using h7
 refine wc_skip (qs_block_normal (qs_seq (wc_seq (wc_seq ?_))))
 have hS8 := hS6.drew
 refine wc_draw [0, 1, 2, 4, 5, 6, 3, 7, 8] [3, 7] mix (by kernel_rfl) ?_
 refine vc_p rfl rfl rfl (fun _ => (ev_move rfl)) ?_
 refine vc_p rfl rfl rfl (fun _ => (ev_move rfl)) ?_
 refine vc_p rfl rfl rfl (fun _ => (ev_move rfl)) ?_
 refine vc_p rfl rfl rfl (fun _ => (ev_makeMeth rfl)) ?_
 refine vc_p rfl rfl rfl (fun _ => (ev_nilCheckMeth rfl (mnil_Get p))) ?_
 refine vc_p rfl rfl rfl (fun _ => (ev_move rfl)) ?_
 refine vc_s rfl rfl rfl rfl rfl rfl ?_
 have hC9 := hS8.split [] [false, false] rfl; dsimp only [selF, pickA, nthA, List.cons_append, List.nil_append] at hC9
 refine wl_call cal_70 rfl (entry_sp hC9 id part hid hp) rfl ?_
 rintro e w9 ⟨_, rfl, rfl, hS9⟩; refine ⟨_, rfl, ?_⟩
 replace hS9 := hS9.join rfl; dsimp only [List.dropLast, List.cons_append, List.nil_append] at hS9; clear hC9
 clear hS8
 refine vc_e .nil ?_
 refine vc_s rfl rfl rfl rfl rfl rfl ?_
 have hC10 := hS9.split [0] [true, false] rfl; dsimp only [selF, pickA, nthA, List.cons_append, List.nil_append] at hC10
 refine wl_invoke (vs := [strV (kE id part)]) rfl (imeth_Get p) cal_16 rfl (get_sp hC10 (kE id part)) rfl ?_
 rintro e w10 ⟨_, rfl, rfl, hS10⟩; refine ⟨_, rfl, ?_⟩
 replace hS10 := hS10.join rfl; dsimp only [List.dropLast, List.cons_append, List.nil_append] at hS10; clear hC10
 clear hS9
 refine vc_e .nil ?_
 refine vc_p rfl rfl rfl (fun _ => (ev_assign rfl)) ?_
 refine VC.nil (qs_seq ?_)
 refine wc_sub (L' := [(9, _), (7, _), (6, _)]) (.cons rfl (.cons rfl (.cons rfl .nil))) ?_
 refine wc_seq (wc_region (wl_move rfl rfl ?_))
 refine wl_neqS rfl rfl rfl ?_
 refine wl_nil (qs_seq ?_)
 refine wc_condD rfl (fun h11 => ?_) (fun h11 => ?_)
 ·refine wc_seq (wc_region (wl_move rfl rfl (wl_assign rfl rfl (wl_assign rfl rfl (wl_nil (qs_seq (wc_ret (qs_then_ret ?_))))))))
  refine fin2 (.inr rfl) rfl rfl rfl ?_
  exact ⟨_, rfl, by unfold stepV; rw [if_neg (by assumption), if_neg (by assumption), if_neg (by assumption), if_neg (by simp [hn3]), if_pos (by assumption)], hS10.pick [0, 1] rfl⟩
 refine wc_skip (qs_seq (wc_seq (wc_region (wl_assign rfl rfl (wl_assign rfl rfl (wl_nil (qs_seq (wc_ret ?_))))))))
 refine fin2 (.inr rfl) rfl rfl rfl ?_
 exact ⟨_, rfl, by unfold stepV; rw [if_neg (by assumption), if_neg (by assumption), if_neg (by assumption), if_neg (by simp [hn3]), if_neg (by assumption)], hS10.pick [0, 1] rfl⟩
end Go.Proofs.YtkaikhcpcbjkcaaGreatDoor
/- world: pages -/
namespace Go.Proofs.YtkaikhcpcbjkcaaGreatDoor
open Go.RowKit M
set_option linter.unusedVariables false
section
variable {w : World} {p : Nat} {W : WS} {LL : WL} {Lo : List (Bs × Nat)} {F : Th} {n : Bs} {m im : Nat} {O' : Bs → Int → Option Bs}
end
end Go.Proofs.YtkaikhcpcbjkcaaGreatDoor
/- world: Keys -/
namespace Go.Proofs.YtkaikhcpcbjkcaaGreatDoor
open Go.RowKit M
set_option linter.unusedVariables false
theorem hp0 {w : World} {As : List Th} (hS : Sat w As) (s t : Bs) : Calls Tryz.prog 57 #[strV s, strV t] w (Ret fun v w' => v = .bool (Lib.hasPrefix s t) ∧ Sat w' As) :=
  (Tryz.strings_HasPrefix ⟨s.toArray⟩ ⟨t.toArray⟩ w).mono fun e w' ⟨h1, h2⟩ => ⟨_, h1, rfl, by rw [h2]; exact hS⟩
theorem sort0 {w : World} {v : Value} {l : List Bs} {As : List Th} (hS : Sat w (rowT stC v l :: As)) (hl : l.length < 4611686018427387904) : Calls Tryz.prog 59 #[v] w (Ret fun u w' => u = .tuple #[] ∧ Sat w' (rowT stC v (sortS l) :: As)) :=
  calls_sort Tryz.slices_Sort_string Tryz.slices_Sort_string_none hS hl
def KeysOf (c : Bs → Bs) (pre : Bs) (l : List Bs) : Prop := ∃ l0, l = sortS l0 ∧ l0.Nodup ∧ ∀ k, k ∈ l0 ↔ c k ≠ [] ∧ Lib.hasPrefix k pre = true
structure KeysIn (c : Bs → Bs) (n : Nat) : Prop where
  few : ∃ ks : List Bs, ks.length ≤ n ∧ ∀ k, c k ≠ [] → k ∈ ks
  short : ∀ k, c k ≠ [] → k.length ≤ 1000
structure KSt (c : Bs → Bs) (pre : Bs) (dn : Bs → Prop) (l : List Bs) : Prop where
  nodup : l.Nodup
  mem : ∀ k, k ∈ l ↔ dn k ∧ Lib.hasPrefix k pre = true
  dn : ∀ k, dn k → c k ≠ []
theorem cellsG_some {c : Bs → Bs} {k : Bs} {v : Value} (h : cellsG c k = some v) : c k ≠ [] := by
  unfold cellsG at h; split at h
  · cases h
  · assumption
theorem KSt.len {c : Bs → Bs} {pre : Bs} {dn : Bs → Prop} {l : List Bs} {n : Nat} (h : KSt c pre dn l) (hk : KeysIn c n) : l.length ≤ n := by
  obtain ⟨ks, h1, h2⟩ := hk.few
  have := List.Nodup.length_le_of_subset h.nodup (fun x hx => h2 x (h.dn x ((h.mem x).1 hx).1))
  omega
theorem KSt.start (c : Bs → Bs) (pre : Bs) : KSt c pre (fun _ => False) [] := ⟨List.nodup_nil, by simp, fun _ h => h.elim⟩
theorem KSt.yes {c : Bs → Bs} {pre : Bs} {dn : Bs → Prop} {l : List Bs} {k : Bs} (h : KSt c pre dn l) (hn : ¬ dn k) (hc : c k ≠ []) (hp : Lib.hasPrefix k pre = true) : KSt c pre (fun j => dn j ∨ j = k) (l ++ [k]) where
  nodup := by
    refine List.nodup_append.2 ⟨h.nodup, by simp, ?_⟩
    rintro a ha b hb rfl
    simp at hb; subst hb
    exact hn ((h.mem _).1 ha).1
  mem := fun j => by
    rw [List.mem_append, h.mem j]
    simp only [List.mem_singleton]
    constructor
    · rintro (⟨a, b⟩ | rfl)
      · exact ⟨.inl a, b⟩
      · exact ⟨.inr rfl, hp⟩
    · rintro ⟨a | rfl, b⟩
      · exact .inl ⟨a, b⟩
      · exact .inr rfl
  dn := fun j hj => by rcases hj with hj | rfl; exact h.dn j hj; exact hc
theorem KSt.no {c : Bs → Bs} {pre : Bs} {dn : Bs → Prop} {l : List Bs} {k : Bs} (h : KSt c pre dn l) (hc : c k ≠ []) (hp : Lib.hasPrefix k pre = false) : KSt c pre (fun j => dn j ∨ j = k) l where
  nodup := h.nodup
  mem := fun j => by
    rw [h.mem j]
    constructor
    · rintro ⟨a, b⟩; exact ⟨.inl a, b⟩
    · rintro ⟨a | rfl, b⟩
      · exact ⟨a, b⟩
      · rw [hp] at b; cases b
  dn := fun j hj => by rcases hj with hj | rfl; exact h.dn j hj; exact hc
theorem KSt.done {c : Bs → Bs} {pre : Bs} {dn : Bs → Prop} {l : List Bs} (h : KSt c pre dn l) (hd : ∀ k v, cellsG c k = some v → dn k) : KeysOf c pre (sortS l) := by
  refine ⟨l, rfl, h.nodup, fun k => ?_⟩
  rw [h.mem k]
  refine and_congr_left fun _ => ⟨h.dn k, fun hc => hd k (strV (c k)) ?_⟩
  simp [cellsG, hc]
theorem keys_end {w : World} {p : Nat} {W : WS} {LL : WL} {F X : Th} (hI : PagesOk W.objs) (h : Sat w [mapT strK LL.bc (cellsG W.cells), blkT p (cellsW LL W.time), objsT LL.bo W.objs, mapT strK LL.bl (cellsG W.logs), F, X]) : Sat w [X, worldT p W, F] := by
  have h1 := worldT_shut (W := W) (As := [F, X]) LL hI (h.reorder [1, 0, 2, 3, 4, 5] rfl)
  exact h1.reorder [2, 0, 1] rfl
set_option maxRecDepth 100000 in
theorem keys_sp {w : World} {p : Nat} {W : WS} {F : Th} (hS : Sat w [worldT p W, F]) (pre : Bs) (hK : KeysIn W.cells 1000000) :
    Calls Tryz.prog 17 #[ptrV p 0, strV pre] w (Ret fun v w' => ∃ l, KeysOf W.cells pre l ∧ Sat w' [rowT stC v l, worldT p W, F]) := by
 obtain ⟨LL, hI, hS⟩ := worldT_open hS
 refine calls_enter Tryz.func17 rfl Tryz.ntmps17 rfl ?_
 refine wc_seq (wc_region (wl_assign rfl rfl (wl_nil (qs_seq (wc_seq (wc_region (wl_assign rfl rfl (wl_nil (qs_seq (wc_seq (wc_seq (wc_region (wl_move rfl rfl (wl_nilCheck rfl rfl ?_))))))))))))))
 refine wl_fieldAddr rfl fo_93_0 rfl ?_
 refine wl_load rfl ag_89 (by first | assumption | exact hS.cell 0 rfl rfl) rfl ?_
 have hSn := hS.row_nil stC
 refine wl_range 2 hSn Tryz.underlying89 rfl rfl rfl ?_
 intro RR left0 wR hSR; dsimp only [List.set] at hSR
 refine wl_nil (qs_seq (wc_block ?_))
 refine wc_loop (fun K0 E0 W0 => ∃ (dn : Bs → Prop) (cur : Option Bs) (left : Nat) (ov : Value) (l : List Bs), K0 = 1 * left ∧ E0 = [(1, strV pre), (5, ov), (11, ptrV RR 0)] ∧ Sat W0 [rowT stC ov l, rangeT strK LL.bc RR (cellsG W.cells) dn cur left, blkT p (cellsW LL W.time), objsT LL.bo W.objs, mapT strK LL.bl (cellsG W.logs), F] ∧ (KSt W.cells pre dn l)) (L0 := [(1, _), (5, _), (11, _)]) (1 * left0) (.cons rfl (.cons rfl (.cons rfl .nil))) ⟨_, _, _, _, _, rfl, rfl, hSR.reorder [0, 2, 1, 3, 4, 5] rfl, KSt.start _ _⟩ ?_
 rintro _ _ w1 ⟨dn, cur, left, ov, l, rfl, rfl, hS1, hks⟩
 have hll := hks.len hK
 have h1ov : ov.oneCell' = true := hS1.own_one 0 rfl
 refine wc_seq (wc_region ?_)
 refine wl_next 1 hS1 keysStr.inj rfl rfl rfl (fun hdone => ?_) (fun k v left2 w2 hleft hgk hnd hS2 => ?_)
 ·refine wl_extract rfl rfl rfl (wl_nil (qs_seq (wc_seq ?_)))
  refine wc_condF rfl ?_
  refine wc_exit (qs_then_exit (qs_then_exit (qs_block_exit (qs_seq (wc_seq (wc_region (wl_move rfl rfl ?_)))))))
  have hC2 := hS1.split [0] [true, false, false, false, false, false] rfl; dsimp only [selF, pickA, nthA, List.cons_append, List.nil_append] at hC2
  refine wl_call cal_59 rfl (sort0 hC2 (by omega)) rfl ?_
  rintro e w2 ⟨_, rfl, rfl, hS2⟩; refine ⟨_, rfl, ?_⟩
  replace hS2 := hS2.join rfl; dsimp only [List.dropLast, List.cons_append, List.nil_append] at hS2; clear hC2
  clear hS1
  refine wl_nil (qs_seq (wc_seq (wc_region (wl_move rfl rfl (wl_assign rfl rfl (wl_nil (qs_seq (wc_ret ?_))))))))
  refine fin1 (.inr rfl) rfl rfl ?_
  have hSz := hS2.reorder [1, 2, 3, 4, 5, 0] rfl; dsimp only [pickA, nthA] at hSz
  exact ⟨_, rfl, _, hks.done hdone, keys_end hI (range_map hSz)⟩
 dsimp only [List.set] at hS2
 have hck := cellsG_some hgk
 have hkl := hK.short k hck
 refine wl_extract rfl rfl rfl (wl_nil (qs_seq (wc_seq ?_)))
 refine wc_condT rfl ?_
 refine wc_skip (qs_seq (wc_block (wc_seq (wc_region ?_))))
 refine wl_entry 1 hS2 rfl hgk rfl rfl ?_
 refine wl_extract rfl rfl rfl (wl_assign rfl rfl (wl_nil (qs_seq (wc_seq (wc_region (wl_move rfl rfl (wl_move rfl rfl ?_)))))))
 have hC3 := hS2.split [] [false, false, false, false, false, false] rfl; dsimp only [selF, pickA, nthA, List.cons_append, List.nil_append] at hC3
 refine wl_call cal_57 rfl (hp0 hC3 k pre) rfl ?_
 rintro e w3 ⟨_, rfl, rfl, hS3⟩; refine ⟨_, rfl, ?_⟩
 replace hS3 := hS3.join rfl; dsimp only [List.dropLast, List.cons_append, List.nil_append] at hS3; clear hC3
 clear hS2
 refine wl_nil (qs_seq ?_)
 refine wc_sub (L' := [(18, _), (6, _), (1, _), (5, _), (11, _)]) (.cons rfl (.cons rfl (.cons rfl (.cons rfl (.cons rfl .nil))))) ?_
 refine wc_cond rfl (fun h4 => ?_) (fun h4 => ?_)
 ·have hp1 : Lib.hasPrefix k pre = true := h4
  refine wc_region (wl_move rfl rfl (wl_move rfl rfl ?_))
  have hC5 := hS3.split [] [false, false, false, false, false, false] rfl; dsimp only [selF, pickA, nthA, List.cons_append, List.nil_append] at hC5
  refine wl_call cal_58 rfl (clone_sp hC5 k (by omega)) rfl ?_
  rintro e w5 ⟨_, rfl, rfl, hS5⟩; refine ⟨_, rfl, ?_⟩
  replace hS5 := hS5.join rfl; dsimp only [List.dropLast, List.cons_append, List.nil_append] at hS5; clear hC5
  clear hS3
  refine wl_rowBuild stC [k] hS5 rfl Tryz.underlying40 ifz_9 rfl rfl rfl rfl (by first | rfl | simp [RowC.cells, fillL, splice]) rfl ?_
  intro b6 w6 hS6
  clear hS5
  refine wl_rowApp stC 1 hS6 rfl rfl rfl (hS6.rd 0 rfl (by simp)) Tryz.underlying40 Tryz.underlying40 (by intro k hk; cases hk) ifo_9 rfl (by simp; omega) rfl (by simp; omega) ?_
  intro v7 w7 hS7; dsimp only [List.set] at hS7
  clear hS6
  have h1v7 : v7.oneCell' = true := hS7.own_one 1 rfl
  refine wl_assign rfl rfl (wl_nil (qs_block_normal ?_))
  exact qs_round (L1 := [(1, _), (5, _), (11, _)]) (.cons rfl (.cons rfl (.cons rfl .nil))) (k1 := 1 * left2) (by omega) ⟨_, _, _, _, _, rfl, rfl, hS7.pick [1, 2, 3, 4, 5, 6] rfl, hks.yes hnd hck hp1⟩
 have hp1 : Lib.hasPrefix k pre = false := h4
 refine wc_skip (qs_block_normal ?_)
 exact qs_round (L1 := [(1, _), (5, _), (11, _)]) (.cons rfl (.cons rfl (.cons rfl .nil))) (k1 := 1 * left2) (by omega) ⟨_, _, _, _, _, rfl, rfl, hS3.pick [0, 1, 2, 3, 4, 5] rfl, hks.no hck hp1⟩
end Go.Proofs.YtkaikhcpcbjkcaaGreatDoor
