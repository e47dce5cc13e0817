/- world: towards Object -/
import Derived.Test.YtieelilkkpcmdaaGreatDoorWo
namespace Go.Proofs.YtieelilkkpcmdaaGreatDoor
open Go.RowKit M
set_option linter.unusedVariables false
theorem ev_sliceArr {P : Program} {L : Env} {w : World} {d : Nat} {ty : TypeId} {pos : String} {aft : Array Edge} {x : Operand} {t e N sz b o : Nat} (hu : P.underlying t = some (.array N e)) (hs : szOf P e = some sz) (hx : M.look L x = some (ptrV b o)) : Ev P L w ⟨some d, .slice t x none none none, ty, pos, aft, none⟩ (.slice (some ⟨b, o, none⟩) N N) := fun ρ hρ => by
  simp [execOp, hρ _ _ hx, Instr.sliceAt, run_underlying hu, Instr.sureAddr, Instr.sliceBounds, M.run_sizeOf hs, Addr.add]
theorem wl_sliceArr {P : Program} {n : Nat} {ops : Array Oper} {Q : Exit → Act → World → Prop} {rest : List Oper} {L : Env} {w : World} {d : Nat} {ty : TypeId} {pos : String} {aft : Array Edge} {x : Operand} {t e N sz b o : Nat} (hu : P.underlying t = some (.array N e)) (hs : szOf P e = some sz) (hx : M.look L x = some (ptrV b o)) (hd : Nat.blt d n = true) (hk : wl P n ops Q rest ((d, .slice (some ⟨b, o, none⟩) N N) :: L) w) : wl P n ops Q (⟨some d, .slice t x none none none, ty, pos, aft, none⟩ :: rest) L w := wl_val hd (ev_sliceArr hu hs hx) hk
theorem ent_page {b : Nat} {s : Bs} (hs : s.length = 64) : Ent (blkT b (bytesPg s)) (RdL byC (.slice (some ⟨b, 0, none⟩) 64 64) s) := fun {w G} h => by
  have hS : Sat w [blkT b (bytesPg s)] := ⟨G, G, fun _ => False, by simp, fun _ _ h => h, h, rfl⟩
  refine ⟨_, 64, by rw [hs], by omega, fun i c hi => ⟨b, 0, rfl, fun j u hu => ?_⟩⟩
  have hj : j = 0 := by
    have := (List.getElem?_eq_some_iff.1 hu).1
    simp [byC] at this; exact this
  subst hj
  have hu2 : u = byteV c := by simp [byC] at hu; exact hu.symm
  subst hu2
  refine hS.cell 0 rfl (o := 0 + i * byC.size + 0) ?_
  simp [bytesPg, byC, hi]
theorem maxOf_spec : ∀ (l : List Int) (a : Int), (l.foldl max a = a ∨ l.foldl max a ∈ l) ∧ a ≤ l.foldl max a ∧ ∀ k ∈ l, k ≤ l.foldl max a
  | [], a => by simp
  | x :: l, a => by
    obtain ⟨h1, h2, h3⟩ := maxOf_spec l (max a x)
    simp only [List.foldl_cons, List.mem_cons]
    refine ⟨?_, by omega, ?_⟩
    · rcases h1 with h | h
      · rw [h]; by_cases hc : a ≤ x
        · right; left; omega
        · left; omega
      · right; right; exact h
    · rintro k (rfl | hk)
      · omega
      · exact h3 k hk
theorem maxOf_mem {l : List Int} (h : l ≠ []) : Lib.maxOf l ∈ l ∧ ∀ k ∈ l, k ≤ Lib.maxOf l := by
  obtain ⟨h1, h2, h3⟩ := maxOf_spec l (l.headD 0)
  refine ⟨?_, h3⟩
  rcases h1 with h1 | h1
  · unfold Lib.maxOf; rw [h1]; cases l with
    | nil => exact absurd rfl h
    | cons a l => simp
  · exact h1
theorem max0 {w : World} {v : Value} {ks : List Int} {As : List Th} (hS : Sat w (rowT inC v ks :: As)) (hne : ks ≠ []) (hl : ks.length ≤ 1000000) : Calls Tryz.prog 52 #[v] w (Ret fun u w' => u = intV (Lib.maxOf ks) ∧ Sat w' (rowT inC v ks :: As)) := by
  have hpos : 0 < ks.length := List.length_pos_iff.2 hne
  obtain ⟨b, cap, rfl, hcap⟩ := hS.own_at 0 rfl hpos
  refine (Tryz.slices_Max_int b 0 ks.length cap ks w hpos (Nat.le_refl _) (by omega) (fun j hj => ?_)).mono fun e w' ⟨h1, h2⟩ => ⟨_, h1, by rw [List.take_length], by rw [h2]; exact hS⟩
  have hx : (inC.cells ks)[j]? = some (intV ks[j]) := by
    have := RowC.cells_at (C := inC) (l := ks) (j := j) (List.getElem?_eq_getElem hj)
    have h3 := congrArg (fun q => q[0]?) this
    simpa [inC, List.getElem?_take, List.getElem?_drop] using h3
  have := hS.ocell 0 rfl rfl hx
  rw [Nat.zero_add, this]
  simp [List.getD, hj]
theorem trim0 {w : World} {As : List Th} (hS : Sat w As) (s : Bs) (hs : s.length ≤ 1000000) : Calls Tryz.prog 56 #[strV s, strV [0]] w (Ret fun v w' => v = strV (Lib.trimRightB s 0) ∧ Sat w' As) :=
  (Tryz.strings_TrimRight_one ⟨s.toArray⟩ 0 (by decide) w (by simp [ByteArray.size]; omega)).mono fun e w' ⟨h1, h2⟩ => ⟨_, h1, rfl, by rw [h2]; exact hS⟩
def pagesB (W : WS) (nm : Bs) (k : Nat) : Bs := (List.range k).flatMap fun (q : Nat) => pageB W nm (q : Int)
def objB (W : WS) (nm : Bs) : Bs := Lib.trimRightB (pagesB W nm 256) 0
theorem pagesB_step (W : WS) (nm : Bs) (k : Nat) : pagesB W nm (k + 1) = pagesB W nm k ++ pageB W nm (k : Int) := by simp [pagesB, List.range_succ]
theorem pagesB_len {W : WS} (hI : PagesOk W.objs) (nm : Bs) (k : Nat) : (pagesB W nm k).length = 64 * k := by
  induction k with
  | zero => rfl
  | succ k ih => rw [pagesB_step, List.length_append, ih, pageB, hI.len]; omega
theorem trim_zeros (l : Bs) : ∀ n : Nat, Lib.trimRightB (l ++ List.replicate n 0) 0 = Lib.trimRightB l 0
  | 0 => by simp
  | n + 1 => by
    rw [List.replicate_succ', ← List.append_assoc]
    have h := trim_zeros l n
    simp only [Lib.trimRightB, List.reverse_append, List.reverse_cons, List.reverse_nil, List.nil_append, List.singleton_append] at h ⊢
    rw [List.dropWhile_cons_of_pos (by simp)]
    exact h
theorem objB_upto {W : WS} {nm : Bs} {M : Nat} (hM : M ≤ 256) (h : ∀ q : Int, M ≤ q → W.objs nm q = none) : Lib.trimRightB (pagesB W nm M) 0 = objB W nm := by
  have : ∀ k, Lib.trimRightB (pagesB W nm (M + k)) 0 = Lib.trimRightB (pagesB W nm M) 0 := by
    intro k
    induction k with
    | zero => rfl
    | succ k ih =>
      rw [← Nat.add_assoc, pagesB_step]
      have hz : pageB W nm ((M + k : Nat) : Int) = List.replicate 64 0 := by simp only [pageB]; rw [h _ (by omega)]; rfl
      rw [hz, trim_zeros, ih]
  rw [objB, ← this (256 - M), show M + (256 - M) = 256 by omega]
theorem keys_len {W : WS} {nm : Bs} (hI : PagesOk W.objs) : ∀ ks, Came (pagesG (W.objs nm)) ks → ks.length ≤ 256 := fun ks h => by
  have hb : ∀ k ∈ ks, 0 ≤ k ∧ k < 256 := fun k hk => by
    have h1 := h.has k hk
    cases hq : W.objs nm k with
    | none => exact absurd (pagesG_none.2 hq) h1
    | some s => have := hI.ok nm k s hq; exact ⟨this.2.2.1, this.2.2.2⟩
  have hm : (ks.map Int.toNat).Nodup := by
    refine List.pairwise_map.2 (h.nodup.imp_of_mem ?_)
    intro a b ha hb' hne e
    have := hb a ha; have := hb b hb'
    omega
  have := List.Nodup.length_le_of_subset (l₂ := List.range 256) hm (fun x hx => by
    obtain ⟨k, hk, rfl⟩ := List.mem_map.1 hx
    have := hb k hk
    simp; omega)
  simpa using this
theorem max_ok {W : WS} {nm : Bs} {ks : List Int} (hI : PagesOk W.objs) (h : AllC (pagesG (W.objs nm)) ks) (hne : ks ≠ []) : ∃ M : Nat, Lib.maxOf ks + 1 = (M : Int) ∧ M ≤ 256 ∧ ∀ q : Int, M ≤ q → W.objs nm q = none := by
  obtain ⟨h1, h2⟩ := maxOf_mem hne
  have h3 := (h.mem _).1 h1
  have hb : 0 ≤ Lib.maxOf ks ∧ Lib.maxOf ks < 256 := by
    cases hq : W.objs nm (Lib.maxOf ks) with
    | none => exact absurd (pagesG_none.2 hq) h3
    | some s => have := hI.ok nm _ s hq; exact ⟨this.2.2.1, this.2.2.2⟩
  refine ⟨(Lib.maxOf ks + 1).toNat, by omega, by omega, fun q hq => Decidable.not_not.1 fun hn => ?_⟩
  have := h2 q ((h.mem q).2 fun e => hn (pagesG_none.1 e))
  omega
theorem ne_of_some {W : WS} {nm : Bs} {ks : List Int} (h : AllC (pagesG (W.objs nm)) ks) (hs : ∃ q, W.objs nm q ≠ none) : ks ≠ [] := by
  obtain ⟨q, hq⟩ := hs
  rintro rfl
  exact absurd ((h.mem q).2 fun e => hq (pagesG_none.1 e)) (by simp)
theorem objB_none {W : WS} {nm : Bs} (h : ∀ q, W.objs nm q = none) : objB W nm = [] := by
  rw [← objB_upto (M := 0) (by omega) (fun q _ => h q)]; rfl
set_option maxRecDepth 100000 in
theorem object_sp {w : World} {p : Nat} {W : WS} {F : Th} (hS : Sat w [worldT p W, F]) (nm : Bs) :
    Calls Tryz.prog 16 #[ptrV p 0, strV nm] w (Ret fun v w' => v = strV (objB W nm) ∧ Sat w' [worldT p W, F]) := by
  obtain ⟨LL, hI, hS⟩ := worldT_open hS
  obtain ⟨Lo, hO, hS⟩ := objsT_open (hS.pull 2 rfl); dsimp only [List.eraseIdx] at hS
  refine calls_enter Tryz.func16 rfl Tryz.ntmps16 rfl ?_
  refine wc_seq ?_
  refine wc_region ?_
  refine wl_assign rfl rfl ?_
  refine wl_nil ?_
  refine qs_seq ?_
  refine wc_seq ?_
  refine wc_region ?_
  refine wl_move rfl rfl ?_
  refine wl_nilCheck rfl rfl ?_
  refine wl_fieldAddr rfl fo_63_1 rfl ?_
  refine wl_load rfl ag_61 (by first | assumption | exact hS.cell 1 rfl rfl | exact hS.cell 2 rfl rfl) rfl ?_
  refine wl_move rfl rfl ?_
  rcases hq : assoc Lo nm with _ | m
  · skip
    have hno := obj_none hO hq
    refine wl_lookup (k := nm) 0 hS keysStr Tryz.underlying61 rfl rfl rfl zr_79 (u := .map none) (by simp [namesG, hq]) rfl ?_
    refine wl_assign rfl rfl ?_
    refine wl_nil ?_
    refine qs_seq ?_
    refine wc_seq ?_
    refine wc_seq ?_
    refine wc_region ?_
    refine wl_move rfl rfl ?_
    refine wl_lenMN Tryz.underlying79 rfl rfl ?_
    refine wl_eql rfl rfl rfl ?_
    refine wl_nil ?_
    refine qs_seq ?_
    refine wc_sub (L' := [(17, _), (5, _), (4, _)]) (.cons rfl (.cons rfl (.cons rfl .nil))) ?_
    refine wc_condD rfl (fun h2 => ?_) (fun h2 => ?_)
    · skip
      refine wc_seq ?_
      refine wc_region ?_
      refine wl_assign rfl rfl ?_
      refine wl_nil ?_
      refine qs_seq ?_
      refine wc_ret ?_
      refine qs_then_ret ?_
      refine fin1 (.inr rfl) rfl rfl ?_
      exact ⟨_, rfl, by rw [objB_none hno], world_same hI hO (hS.pick [0, 1, 2, 3, 4, 5] rfl)⟩
    · skip
      exact absurd rfl (by assumption)
  · skip
    obtain ⟨im, him⟩ := assoc_mem hq
    refine wl_lookup (k := nm) 0 hS keysStr Tryz.underlying61 rfl rfl rfl zr_79 (u := .map (some m)) (by simp [namesG, hq]) rfl ?_
    have hS1 := big_out (i := im) (A := thOf W.objs (nm, m)) (hS.pull 1 rfl) (by simp [him]); dsimp only [List.eraseIdx, thOf] at hS1
    refine wl_assign rfl rfl ?_
    refine wl_nil ?_
    refine qs_seq ?_
    refine wc_seq ?_
    refine wc_seq ?_
    refine wc_region ?_
    refine wl_move rfl rfl ?_
    refine wl_lenM 0 hS1 Tryz.underlying79 keysInt.inj rfl rfl rfl ?_
    intro cn hcn
    refine wl_eql rfl rfl rfl ?_
    refine wl_nil ?_
    refine qs_seq ?_
    refine wc_sub (L' := [(17, _), (5, _), (4, _)]) (.cons rfl (.cons rfl (.cons rfl .nil))) ?_
    refine wc_condD rfl (fun h3 => ?_) (fun h3 => ?_)
    · skip
      exfalso
      obtain ⟨q0, hq0⟩ := obj_some hO him
      exact hq0 (pagesG_none.1 (hcn.zero.1 (by omega) q0))
    · skip
      refine wc_skip ?_
      refine qs_seq ?_
      refine wc_seq ?_
      refine wc_region ?_
      refine wl_allocT hS1 zr_73 (cs := [.pointer none, .slice none 0 0]) rfl rfl ?_
      intro bb wB hSB
      have hSC := bldT_shut (.inl rfl) ((bufT_nil hSB).perm (List.Perm.swap _ _ _))
      refine wl_nil ?_
      refine qs_seq ?_
      refine wc_seq ?_
      refine wc_seq ?_
      refine wc_region ?_
      refine wl_move rfl rfl ?_
      have hC4 := hSC.split [] [false, false, false, false, false, false, false, false] rfl; dsimp only [selF, pickA, nthA, List.cons_append, List.nil_append] at hC4
      refine wl_call cal_54 rfl (keysI_sp (v0 := .map (some m)) hC4 rfl) rfl ?_
      rintro e w4 ⟨_, rfl, c4, rfl, hS4⟩; refine ⟨_, rfl, ?_⟩
      replace hS4 := hS4.join rfl; dsimp only [List.dropLast, List.cons_append, List.nil_append] at hS4; clear hC4
      clear hSC
      have hS5 := Sat.fold (As := [blkT _ [.map (some m)], mapT intK m (pagesG (W.objs nm))]) (hS4.reorder [0, 2, 1, 3, 4, 5, 6, 7, 8] rfl)
      clear hS4
      have hC6 := hS5.split [0] [true, false, false, false, false, false, false, false] rfl; dsimp only [selF, pickA, nthA, List.cons_append, List.nil_append] at hC6
      refine wl_call cal_53 rfl (colI (caps := [ptrV _ 0]) hC6 cal_76 (itI _ _ _) (fun ks h => Nat.le_trans (keys_len hI ks h) (by omega))) rfl ?_
      rintro e w6 ⟨_, rfl, ks, hks, hS6⟩; refine ⟨_, rfl, ?_⟩
      replace hS6 := hS6.join rfl; dsimp only [List.dropLast, List.cons_append, List.nil_append] at hS6; clear hC6
      clear hS5
      have hkl := keys_len hI _ (Came.of_all hks)
      have hC7 := hS6.split [0] [true, false, false, false, false, false, false, false, false] rfl; dsimp only [selF, pickA, nthA, List.cons_append, List.nil_append] at hC7
      refine wl_call cal_52 rfl (max0 hC7 (ne_of_some hks (obj_some hO him)) (by omega)) rfl ?_
      rintro e w7 ⟨_, rfl, rfl, hS7⟩; refine ⟨_, rfl, ?_⟩
      replace hS7 := hS7.join rfl; dsimp only [List.dropLast, List.cons_append, List.nil_append] at hS7; clear hC7
      clear hS6
      have hS8 := (hS7.pull 1 rfl).flat; dsimp only [List.eraseIdx, List.cons_append, List.nil_append] at hS8
      clear hS7
      obtain ⟨M, hM, hM2, hM3⟩ := max_ok hI hks (ne_of_some hks (obj_some hO him))
      refine wl_add rfl rfl (by omega) (by omega) rfl ?_
      rw [hM]
      refine wl_move rfl rfl ?_
      refine wl_nil ?_
      refine qs_seq ?_
      refine wc_block ?_
      refine wc_loop (fun K0 E0 W0 => ∃ (k : Nat), K0 = M - k ∧ E0 = [(5, .map (some m)), (6, ptrV bb 0), (22, intV (M : Int)), (23, intV (k : Int))] ∧ Sat W0 [bldT bb (pagesB W nm k), mapT intK m (pagesG (W.objs nm)), starL ((Lo.map (thOf W.objs)).eraseIdx im), mapT strK LL.bo (namesG Lo), blkT p (cellsW LL W.time), mapT strK LL.bc (cellsG W.cells), mapT strK LL.bl (cellsG W.logs), F] ∧ (k ≤ M)) (L0 := [(5, _), (6, _), (22, _), (23, _)]) (M - 0) (.cons rfl (.cons rfl (.cons rfl (.cons rfl .nil)))) ⟨0, rfl, rfl, (hS8.pick [3, 1, 4, 5, 6, 7, 8, 9] rfl), by omega⟩ ?_
      rintro _ _ w9 ⟨k, rfl, rfl, hS9, hk⟩
      have hpl := pagesB_len hI nm k
      have hpg := hI.len nm (k : Int)
      refine wc_seq ?_
      refine wc_region ?_
      refine wl_lss rfl rfl rfl ?_
      refine wl_nil ?_
      refine qs_seq ?_
      refine wc_seq ?_
      refine wc_condD rfl (fun h10 => ?_) (fun h10 => ?_)
      · skip
        refine wc_skip ?_
        refine qs_seq ?_
        refine wc_seq ?_
        refine wc_block ?_
        refine wc_seq ?_
        refine wc_region ?_
        refine wl_move rfl rfl ?_
        refine wl_assign rfl rfl ?_
        refine wl_nil ?_
        refine qs_seq ?_
        refine wc_seq ?_
        refine wc_region ?_
        refine wl_move rfl rfl ?_
        refine wl_move rfl rfl ?_
        refine wl_lookup (k := (k : Int)) 1 hS9 keysInt Tryz.underlying79 rfl rfl rfl zr_sheet (u := pageV (pageB W nm (k : Int))) (pagesG_get _ _) rfl ?_
        refine wl_alloc hS9 zr_sheet (cs := bytesPg zero64) rfl rfl ?_
        intro bs w11 hS11
        clear hS9
        refine wl_storeA (vs := (bytesPg (pageB W nm (k : Int))).toArray) hS11 rfl rfl sz_87 (by have := hI.len nm (k : Int); simp [bytesPg, pageB, this]) (bytesPg_one _) (i := 0) rfl (by decide) ?_
        intro w12 hS12; dsimp only [List.set] at hS12
        rw [show splice (bytesPg zero64) 0 (bytesPg (pageB W nm (k : Int))).toArray.toList = bytesPg (pageB W nm (k : Int)) from bytesPg_splice (hI.len nm (k : Int)).symm] at hS12
        clear hS11
        refine wl_nil ?_
        refine qs_seq ?_
        refine wc_sub (L' := [(8, _), (5, _), (6, _), (22, _), (23, _)]) (.cons rfl (.cons rfl (.cons rfl (.cons rfl (.cons rfl .nil))))) ?_
        refine wc_region ?_
        refine wl_sliceArr Tryz.underlying87 sz_5 rfl rfl ?_
        have hC13 := hS12.split [1] [false, true, false, false, false, false, false, false, false] rfl; dsimp only [selF, pickA, nthA, List.cons_append, List.nil_append] at hC13
        refine wl_call cal_55 rfl (bl_write hC13 (l2 := pageB W nm (k : Int)) (Ent.starL (ent_page (hI.len nm (k : Int))) 0 rfl) (by intro h; simp only [pageB] at h; rw [h] at hpg; simp at hpg) (by simp only [pageB]; omega)) rfl ?_
        rintro e w13 ⟨_, rfl, rfl, hS13⟩; refine ⟨_, rfl, ?_⟩
        replace hS13 := hS13.join rfl; dsimp only [List.dropLast, List.cons_append, List.nil_append] at hS13; clear hC13
        clear hS12
        refine wl_nil ?_
        refine qs_block_normal ?_
        refine qs_seq ?_
        refine wc_region ?_
        refine wl_add rfl rfl (by omega) (by omega) rfl ?_
        refine wl_move rfl rfl ?_
        refine wl_nil ?_
        have hSz := hS13.pick [0, 2, 3, 4, 5, 6, 7, 8] rfl; dsimp only [pickA, nthA] at hSz; rw [← pagesB_step] at hSz
        exact qs_round (L1 := [(5, _), (6, _), (22, _), (23, intV ((k + 1 : Nat) : Int))]) (.cons rfl (.cons rfl (.cons rfl (.cons rfl .nil)))) (k1 := M - (k + 1)) (by omega) ⟨k + 1, rfl, rfl, hSz, by omega⟩
      · skip
        refine wc_exit ?_
        refine qs_then_exit ?_
        refine qs_then_exit ?_
        refine qs_block_exit ?_
        refine qs_seq ?_
        refine wc_seq ?_
        refine wc_region ?_
        have hC14 := hS9.split [0] [true, false, false, false, false, false, false, false] rfl; dsimp only [selF, pickA, nthA, List.cons_append, List.nil_append] at hC14
        refine wl_call cal_50 rfl (bl_string hC14 (by omega)) rfl ?_
        rintro e w14 ⟨_, rfl, rfl, hS14⟩; refine ⟨_, rfl, ?_⟩
        replace hS14 := hS14.join rfl; dsimp only [List.dropLast, List.cons_append, List.nil_append] at hS14; clear hC14
        clear hS9
        have hC15 := hS14.split [] [false, false, false, false, false, false, false] rfl; dsimp only [selF, pickA, nthA, List.cons_append, List.nil_append] at hC15
        refine wl_call cal_56 rfl (trim0 hC15 _ (by rw [hpl]; omega)) rfl ?_
        rintro e w15 ⟨_, rfl, rfl, hS15⟩; refine ⟨_, rfl, ?_⟩
        replace hS15 := hS15.join rfl; dsimp only [List.dropLast, List.cons_append, List.nil_append] at hS15; clear hC15
        clear hS14
        refine wl_assign rfl rfl ?_
        refine wl_nil ?_
        refine qs_seq ?_
        refine wc_ret ?_
        refine fin1 (.inr rfl) rfl rfl ?_
        exact ⟨_, rfl, by rw [show k = M by omega, objB_upto hM2 hM3], world_back0 hI hO him (hS15.pick [0, 1, 2, 3, 4, 5, 6] rfl)⟩

end Go.Proofs.YtieelilkkpcmdaaGreatDoor
