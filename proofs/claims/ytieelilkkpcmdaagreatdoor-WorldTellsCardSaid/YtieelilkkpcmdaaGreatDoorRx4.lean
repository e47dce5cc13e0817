/- reference 15: Object, Copy -/
import Derived.Test.YtieelilkkpcmdaaGreatDoorRx3
import Derived.Test.YtieelilkkpcmdaaGreatDoorWp
namespace Go.Proofs.YtieelilkkpcmdaaGreatDoor
open Go.RowKit M
set_option linter.unusedVariables false
theorem trim_take {l : Bs} {n : Nat} (hn : n ≤ l.length) (hz : ∀ k, n ≤ k → k < l.length → l[k]? = some 0) (hl : n = 0 ∨ ∃ c, l[n - 1]? = some c ∧ c ≠ 0) : Lib.trimRightB l 0 = l.take n := by
  have h1 : l.drop n = List.replicate (l.length - n) 0 := by
    refine List.ext_getElem? fun k => ?_
    rw [List.getElem?_drop, List.getElem?_replicate]
    split
    · exact hz _ (by omega) (by omega)
    · exact List.getElem?_eq_none (by omega)
  have h2 : Lib.trimRightB l 0 = Lib.trimRightB (l.take n) 0 := by
    conv => lhs; rw [← List.take_append_drop n l, h1]
    exact trim_zeros _ _
  rw [h2]
  rcases hl with rfl | ⟨c, hc, hne⟩
  · rfl
  · obtain ⟨m, rfl⟩ : ∃ m, n = m + 1 := by
      rcases Nat.eq_zero_or_pos n with rfl | q
      · exfalso
        have := hz 0 (Nat.le_refl _) (List.getElem?_eq_some_iff.1 hc).1
        rw [Nat.zero_sub] at hc; rw [this] at hc; exact hne (Option.some.inj hc).symm
      · exact ⟨n - 1, by omega⟩
    rw [Nat.add_sub_cancel] at hc
    rw [List.take_add_one, hc]
    simp [Lib.trimRightB, hne]
theorem rd_ob {w : World} {As : List Th} {p : Nat} {Z : List (Bs × Bs)} {O : List ObD} {G : List (Bs × Bs)} {t : Int} {j : Nat} {x : ObD} (h : Sat w (fullT p Z O G t :: As)) (hx : O[j]? = some x) (hl : x.data.length = 16384) : RdL byC (slV x) x.data w := by
  obtain ⟨kv, vv, nv, sv, lv, tv, hS⟩ := full_open h
  have hS2 := obs_out (hS.pull 5 rfl) hx
  exact hS2.rd (C := byC) 0 rfl (by omega)
theorem ob_cap {w : World} {As : List Th} {O : List ObD} {j : Nat} {x : ObD} (h : Sat w (starL (O.map obT) :: As)) (hx : O[j]? = some x) (hl : x.data.length = 16384) : 16384 ≤ x.cap := by
  obtain ⟨b, cap, hv, hc⟩ := (obs_out h hx).own_at (size := 1) (xs := byC.cells x.data) (m := x.data.length) 0 rfl (by omega)
  simp only [slV, Value.slice.injEq] at hv
  omega
def cpB (src tgt : Int → UInt8) (fi at_ lim : Int) (i : Int) : UInt8 := if 64 * max at_ 0 ≤ i ∧ i < lim then (if 0 ≤ fi + i / 64 - at_ ∧ fi + i / 64 - at_ < 256 then src (64 * (fi + i / 64 - at_) + i % 64) else 0) else tgt i
theorem cp_set {src tgt : Int → UInt8} {fi at_ : Int} {d : Bs} {a : Nat} {c : UInt8} (hd : ∀ i : Nat, i < 16384 → d[i]? = some (cpB src tgt fi at_ a i)) (h0 : 64 * max at_ 0 ≤ a) (ha : a < 16384) (hl : d.length = 16384) (hc : c = if 0 ≤ fi + (a : Int) / 64 - at_ ∧ fi + (a : Int) / 64 - at_ < 256 then src (64 * (fi + (a : Int) / 64 - at_) + (a : Int) % 64) else 0) : ∀ i : Nat, i < 16384 → (d.set a c)[i]? = some (cpB src tgt fi at_ ((a : Int) + 1) i) := by
  intro i hi
  rw [List.getElem?_set]
  by_cases e : a = i
  · subst e
    rw [if_pos rfl, if_pos (by omega), hc]
    unfold cpB
    rw [if_pos (by omega : 64 * max at_ 0 ≤ (a : Int) ∧ (a : Int) < (a : Int) + 1)]
  · rw [if_neg e, hd i hi]
    unfold cpB
    by_cases q : 64 * max at_ 0 ≤ (i : Int) ∧ (i : Int) < (a : Int)
    · rw [if_pos q, if_pos (show 64 * max at_ 0 ≤ (i : Int) ∧ (i : Int) < (a : Int) + 1 by omega)]
    · rw [if_neg q, if_neg (show ¬ (64 * max at_ 0 ≤ (i : Int) ∧ (i : Int) < (a : Int) + 1) by omega)]
def copyF (f : Bs → Int → UInt8) (frm : Bs) (fi n : Int) (to : Bs) (at_ : Int) : Bs → Int → UInt8 := fun m i => if m = to ∧ (0 ≤ i ∧ i < 16384) ∧ at_ ≤ i / 64 ∧ i / 64 < at_ + n then (if 0 ≤ fi + i / 64 - at_ ∧ fi + i / 64 - at_ < 256 then f frm (64 * (fi + i / 64 - at_) + i % 64) else 0) else f m i
theorem ObjR.copy {O : List ObD} {f : Bs → Int → UInt8} (h : ObjR O f) {j : Nat} {x : ObD} (hx : O[j]? = some x) {frm : Bs} {fi n at_ q : Int} {d : Bs} (hl : d.length = 16384) (hd : ∀ i : Nat, i < 16384 → d[i]? = some (cpB (f frm) (f x.name) fi at_ (64 * q) i)) (hq : q = max at_ 0 ∨ (max at_ 0 ≤ q ∧ q ≤ at_ + n ∧ q ≤ 256)) (hq2 : at_ + n ≤ q ∨ 256 ≤ q) : ObjR (O.set j { x with data := d }) (copyF f frm fi n x.name at_) := by
  refine h.upd hx hl (fun m hm i => by unfold copyF; rw [if_neg (fun q => hm q.1)]) (fun i hi => ?_) (fun i hi => by unfold copyF; rw [if_neg (fun q => by omega)]; exact h.out _ i hi)
  rw [hd i hi]
  unfold cpB copyF
  by_cases q1 : 64 * max at_ 0 ≤ (i : Int) ∧ (i : Int) < 64 * q
  · have hc : x.name = x.name ∧ (0 ≤ (i : Int) ∧ (i : Int) < 16384) ∧ at_ ≤ (i : Int) / 64 ∧ (i : Int) / 64 < at_ + n := ⟨rfl, ⟨by omega, by omega⟩, by omega, by omega⟩
    rw [if_pos q1, if_pos hc]
  · rw [if_neg q1, if_neg (fun q2 => by omega)]
set_option maxRecDepth 100000 in
theorem fObject_sp {w : World} {p : Nat} {Z : List (Bs × Bs)} {O : List ObD} {G : List (Bs × Bs)} {t : Int} {F : Th} (hS : Sat w [fullT p Z O G t, F]) {f : Bs → Int → UInt8} (hO : ObjR O f) (hn : O.length ≤ 100000) (nm : Bs) :
    Calls Tryz.prog 17 #[ptrV p 0, strV nm] w (Ret fun v w' => ∃ s, v = strV s ∧ ((∃ x ∈ O, x.name = nm ∧ s = Lib.trimRightB x.data 0) ∨ (nm ∉ O.map (·.name) ∧ s = [])) ∧ Sat w' [fullT p Z O G t, F]) := by
  obtain ⟨kv, vv, nv, sv, lv, tv, hS⟩ := full_open hS
  refine calls_enter Tryz.func17 rfl Tryz.ntmps17 rfl ?_
  refine wc_seq ?_
  refine wc_region ?_
  refine wl_assign rfl rfl ?_
  refine wl_nil ?_
  refine qs_seq ?_
  refine wc_seq ?_
  refine wc_region ?_
  refine wl_move rfl rfl ?_
  refine wl_nilCheck rfl rfl ?_
  refine wl_fieldAddr rfl fo_31_2 rfl ?_
  refine wl_load rfl ag_28 (by first | assumption | exact hS.cell 0 rfl rfl | exact hS.cell 5 rfl rfl) rfl ?_
  refine wl_move rfl rfl ?_
  have hC1 := hS.split [] [false, false, false, false, false, false, false, false, false] rfl; dsimp only [selF, pickA, nthA, List.cons_append, List.nil_append] at hC1
  refine wl_call cal_51 rfl (index_sp hC1 (Ent.starL (ent_row (C := stC) (l := O.map (·.name)) (by simp; omega)) 3 rfl) nm) rfl ?_
  rintro e w1 ⟨_, rfl, i, rfl, hix, hS1⟩; refine ⟨_, rfl, ?_⟩
  replace hS1 := hS1.join rfl; dsimp only [List.dropLast, List.cons_append, List.nil_append] at hS1; clear hC1
  refine wl_assign rfl rfl ?_
  refine wl_nil ?_
  refine qs_seq ?_
  refine wc_seq ?_
  refine wc_seq ?_
  refine wc_region ?_
  refine wl_move rfl rfl ?_
  refine wl_lss rfl rfl rfl ?_
  refine wl_nil ?_
  refine qs_seq ?_
  refine wc_sub (L' := [(15, _), (5, _), (4, _), (0, _)]) (.cons rfl (.cons rfl (.cons rfl (.cons rfl .nil)))) ?_
  refine wc_condD rfl (fun h2 => ?_) (fun h2 => ?_)
  · skip
    refine wc_seq ?_
    refine wc_region ?_
    refine wl_assign rfl rfl ?_
    refine wl_nil ?_
    refine qs_seq ?_
    refine wc_ret ?_
    refine qs_then_ret ?_
    refine fin1 (.inr rfl) rfl rfl ?_
    have hnm : nm ∉ O.map (·.name) := by rcases hix with ⟨_, q⟩ | ⟨j, q, _⟩; exact q; omega
    exact ⟨_, rfl, [], rfl, .inr ⟨hnm, rfl⟩, full_shut hS1⟩
  · skip
    obtain ⟨j, rfl, hj⟩ : ∃ j : Nat, i = (j : Int) ∧ (O.map (·.name))[j]? = some nm := by rcases hix with ⟨q, _⟩ | q; omega; exact q
    obtain ⟨x, hx, rfl⟩ := name_at hj
    have hlx := hO.len x (List.mem_of_getElem? hx)
    have hcp := ob_cap (hS1.pull 5 rfl) hx hlx
    refine wc_skip ?_
    refine qs_seq ?_
    refine wc_seq ?_
    refine wc_region ?_
    refine wl_move rfl rfl ?_
    refine wl_nilCheck rfl rfl ?_
    refine wl_fieldAddr rfl fo_31_3 rfl ?_
    refine wl_load rfl ag_29 (by first | assumption | exact hS1.cell 0 rfl rfl | exact hS1.cell 5 rfl rfl) rfl ?_
    refine wl_move rfl rfl ?_
    refine wl_rowIdx slC 4 j hS1 rfl rfl rfl (by first | rfl | omega) hx es_29 rfl ?_
    intro bx3 capx3 hvx3
    refine wl_rowLoad 4 j 0 hS1 rfl hvx3 rfl rfl hx ag_69 rfl rfl ?_
    refine wl_assign rfl rfl ?_
    refine wl_nil ?_
    refine qs_seq ?_
    refine wc_sub (L' := [(6, _), (4, _)]) (.cons rfl (.cons rfl .nil)) ?_
    refine wc_seq ?_
    refine wc_region ?_
    refine wl_move rfl rfl ?_
    first | refine wl_lenL Tryz.underlying69 rfl rfl ?_ | refine wl_lenO 1 hS1 Tryz.underlying69 rfl rfl rfl ?_ | refine wl_lenO 2 hS1 Tryz.underlying69 rfl rfl rfl ?_ | refine wl_lenO 3 hS1 Tryz.underlying69 rfl rfl rfl ?_ | refine wl_lenO 4 hS1 Tryz.underlying69 rfl rfl rfl ?_ | refine wl_lenO 6 hS1 Tryz.underlying69 rfl rfl rfl ?_ | refine wl_lenO 7 hS1 Tryz.underlying69 rfl rfl rfl ?_
    refine wl_assign rfl rfl ?_
    refine wl_nil ?_
    refine qs_seq ?_
    refine wc_seq ?_
    refine wc_block ?_
    refine wc_loop (fun K0 E0 W0 => ∃ (n : Nat), K0 = n + 1 ∧ E0 = [(6, slV x), (7, intV (n : Int))] ∧ Sat W0 [blkT p [kv, vv, nv, sv, lv, tv, intV t], rowT stC kv (Z.map (·.1)), rowT stC vv (Z.map (·.2)), rowT stC nv (O.map (·.name)), rowT slC sv O, starL (O.map obT), rowT stC lv (G.map (·.1)), rowT stC tv (G.map (·.2)), F] ∧ (n ≤ 16384) ∧ (∀ k, n ≤ k → k < 16384 → x.data[k]? = some 0)) (L0 := [(6, _), (7, _)]) (16384 + 1) (.cons rfl (.cons rfl .nil)) ⟨16384, rfl, rfl, hS1, by omega, by omega⟩ ?_
    rintro _ _ w4 ⟨n, rfl, rfl, hS4, hn0, hz⟩
    refine wc_seq ?_
    refine wc_seq ?_
    refine wc_region ?_
    refine wl_move rfl rfl ?_
    refine wl_gtr rfl rfl rfl ?_
    refine wl_move rfl rfl ?_
    refine wl_splitD 27 rfl (fun h5 => ?_) (fun h5 => ?_)
    · skip
      obtain ⟨y, hy⟩ : ∃ y, x.data[n - 1]? = some y := ⟨_, List.getElem?_eq_getElem (by omega)⟩
      refine wl_guard rfl rfl (decide_eq_true h5) ?_
      refine wl_move rfl rfl ?_
      refine wl_guard rfl rfl (decide_eq_true h5) ?_
      refine wl_move rfl rfl ?_
      refine wl_guard rfl rfl (decide_eq_true h5) ?_
      refine wl_sub' rfl rfl (by omega) (by omega) rfl ?_
      refine wl_guard rfl rfl (decide_eq_true h5) ?_
      refine wl_maxI rfl rfl rfl ?_
      refine wl_guard rfl rfl (decide_eq_true h5) ?_
      refine wl_indexAddr (n - 1) rfl rfl (by first | rfl | omega) (by omega) es_69 rfl ?_
      refine wl_guard rfl rfl (decide_eq_true h5) ?_
      refine wl_rowLoad0 byC 0 (n - 1) 0 (obs_out (hS4.pull 5 rfl) hx) rfl hy ag_5 rfl rfl rfl ?_
      refine wl_guard rfl rfl (decide_eq_true h5) ?_
      refine wl_eql rfl rfl rfl ?_
      refine wl_pickT rfl (decide_eq_true h5) rfl rfl ?_
      refine wl_nil ?_
      refine qs_seq ?_
      refine wc_sub (L' := [(35, _), (6, _), (7, _)]) (.cons rfl (.cons rfl (.cons rfl .nil))) ?_
      refine wc_condD rfl (fun h6 => ?_) (fun h6 => ?_)
      · skip
        refine wc_skip ?_
        refine qs_seq ?_
        refine wc_block ?_
        refine wc_region ?_
        refine wl_move rfl rfl ?_
        refine wl_sub' rfl rfl (by omega) (by omega) rfl ?_
        refine wl_assign rfl rfl ?_
        refine wl_nil ?_
        refine qs_block_normal ?_
        have hy0 : x.data[n - 1]? = some 0 := by rw [hy]; congr 1; exact UInt8.toNat_inj.1 (by rw [show (0 : UInt8).toNat = 0 from rfl]; omega)
        exact qs_round (L1 := [(6, _), (7, intV ((n - 1 : Nat) : Int))]) (.cons rfl (.cons (by rw [show ((n - 1 : Nat) : Int) = (n : Int) - 1 by omega]; rfl) .nil)) (k1 := n - 1 + 1) (by omega) ⟨n - 1, rfl, rfl, hS4, by omega, fun k h1 h2 => by by_cases e : k = n - 1; (subst e; exact hy0); exact hz k (by omega) h2⟩
      · skip
        refine wc_exit ?_
        refine qs_then_exit ?_
        refine qs_then_exit ?_
        refine qs_block_exit ?_
        refine qs_seq ?_
        refine wc_seq ?_
        refine wc_region ?_
        refine wl_move rfl rfl ?_
        refine wl_move rfl rfl ?_
        refine wl_slice 0 n Tryz.underlying69 sz_5 rfl (bndN _) (bndS n _ rfl (by first | rfl | omega)) (by omega) (by omega) rfl ?_
        refine wl_strB 0 (obs_out (hS4.pull 5 rfl) hx) (x.data.take n) rfl rfl rfl Tryz.underlying69 Tryz.underlying5 Tryz.underlying9 (by rw [byC_cells]; unfold bytesV; split <;> simp [List.map_take]) (by rw [List.length_take]; omega) rfl ?_
        refine wl_assign rfl rfl ?_
        refine wl_nil ?_
        refine qs_seq ?_
        refine wc_ret ?_
        refine fin1 (.inr rfl) rfl rfl ?_
        exact ⟨_, rfl, _, rfl, .inl ⟨x, List.mem_of_getElem? hx, rfl, (trim_take (by omega) (fun k h1 h2 => hz k h1 (by omega)) (.inr ⟨y, hy, fun e => by subst e; simp_all⟩)).symm⟩, full_shut hS4⟩
    · skip
      refine wl_unwanted rfl rfl (decide_eq_false h5) rfl ?_
      refine wl_unwanted rfl rfl (decide_eq_false h5) rfl ?_
      refine wl_unwanted rfl rfl (decide_eq_false h5) rfl ?_
      refine wl_unwanted rfl rfl (decide_eq_false h5) rfl ?_
      refine wl_unwanted rfl rfl (decide_eq_false h5) rfl ?_
      refine wl_unwanted rfl rfl (decide_eq_false h5) rfl ?_
      refine wl_unwanted rfl rfl (decide_eq_false h5) rfl ?_
      refine wl_pickF rfl (decide_eq_false h5) rfl rfl ?_
      refine wl_nil ?_
      refine qs_seq ?_
      refine wc_sub (L' := [(35, _), (6, _), (7, _)]) (.cons rfl (.cons rfl (.cons rfl .nil))) ?_
      refine wc_condF rfl ?_
      refine wc_exit ?_
      refine qs_then_exit ?_
      refine qs_then_exit ?_
      refine qs_block_exit ?_
      refine qs_seq ?_
      refine wc_seq ?_
      refine wc_region ?_
      refine wl_move rfl rfl ?_
      refine wl_move rfl rfl ?_
      refine wl_slice 0 n Tryz.underlying69 sz_5 rfl (bndN _) (bndS n _ rfl (by first | rfl | omega)) (by omega) (by omega) rfl ?_
      refine wl_strB 0 (obs_out (hS4.pull 5 rfl) hx) (x.data.take n) rfl rfl rfl Tryz.underlying69 Tryz.underlying5 Tryz.underlying9 (by rw [byC_cells]; unfold bytesV; split <;> simp [List.map_take]) (by rw [List.length_take]; omega) rfl ?_
      refine wl_assign rfl rfl ?_
      refine wl_nil ?_
      refine qs_seq ?_
      refine wc_ret ?_
      refine fin1 (.inr rfl) rfl rfl ?_
      exact ⟨_, rfl, _, rfl, .inl ⟨x, List.mem_of_getElem? hx, rfl, (trim_take (by omega) (fun k h1 h2 => hz k h1 (by omega)) (.inl (by omega))).symm⟩, full_shut hS4⟩

set_option maxRecDepth 100000 in
theorem fCopy_sp {w : World} {p : Nat} {Z : List (Bs × Bs)} {O : List ObD} {G : List (Bs × Bs)} {t : Int} {F : Th} (hS : Sat w [fullT p Z O G t, F]) {f : Bs → Int → UInt8} (hO : ObjR O f) (hn : O.length ≤ 100000) (frm : Bs) (fi cn : Int) (to : Bs) (at_ : Int) (h1 : -2147483648 ≤ fi ∧ fi ≤ 2147483648) (h2 : -2147483648 ≤ cn ∧ cn ≤ 2147483648) (h3 : -2147483648 ≤ at_ ∧ at_ ≤ 2147483648) (hn9 : O.length ≤ 90000) :
    Calls Tryz.prog 41 #[ptrV p 0, strV frm, intV fi, intV cn, strV to, intV at_] w (Ret fun v w' => v = .tuple #[] ∧ ∃ O' : List ObD, ObjR O' (copyF f frm fi cn to at_) ∧ O'.length ≤ O.length + 2 ∧ Sat w' [fullT p Z O' G t, F]) := by
  refine calls_enter Tryz.func41 rfl Tryz.ntmps41 rfl ?_
  refine wc_seq ?_
  refine wc_region ?_
  refine wl_rowBuild byC [] hS rfl Tryz.underlying69 ifz_5 rfl rfl rfl rfl (by first | rfl | simp [RowC.cells, fillL, splice]) rfl ?_
  intro b1 w1 hS1
  refine wl_move rfl rfl ?_
  refine wl_move rfl rfl ?_
  have hC2 := hS1.split [1] [false, true, false] rfl; dsimp only [selF, pickA, nthA, List.cons_append, List.nil_append] at hC2
  refine wl_call cal_48 rfl (fobj_sp hC2 hO hn frm) rfl ?_
  rintro e w2 ⟨_, rfl, O1, j1, x, rfl, hx, hxn, hO1, hn1, hS2⟩; refine ⟨_, rfl, ?_⟩
  replace hS2 := hS2.join rfl; dsimp only [List.dropLast, List.cons_append, List.nil_append] at hS2; clear hC2
  clear hS1
  have hlx := hO1.len x (List.mem_of_getElem? hx)
  refine wl_rowApp byC 1 hS2 rfl rfl rfl (rd_ob hS2 hx hlx) Tryz.underlying69 Tryz.underlying69 (by intro k hk; cases hk) ifo_5 rfl (by simp; omega) rfl (by simp; omega) ?_
  intro v3 w3 hS3; dsimp only [List.set] at hS3
  clear hS2
  have h1v3 : v3.oneCell' = true := hS3.own_one 1 rfl
  refine wl_assign rfl rfl ?_
  refine wl_nil ?_
  refine qs_seq ?_
  refine wc_sub (L' := [(12, _), (0, _), (2, _), (3, _), (4, _), (5, _)]) (.cons rfl (.cons rfl (.cons rfl (.cons rfl (.cons rfl (.cons rfl .nil)))))) ?_
  refine wc_seq ?_
  refine wc_region ?_
  refine wl_move rfl rfl ?_
  refine wl_move rfl rfl ?_
  have hC4 := hS3.split [0] [true, false, false] rfl; dsimp only [selF, pickA, nthA, List.cons_append, List.nil_append] at hC4
  refine wl_call cal_48 rfl (fobj_sp hC4 hO1 (by omega) to) rfl ?_
  rintro e w4 ⟨_, rfl, O2, j, y, rfl, hy, hyn, hO2, hn2, hS4⟩; refine ⟨_, rfl, ?_⟩
  replace hS4 := hS4.join rfl; dsimp only [List.dropLast, List.cons_append, List.nil_append] at hS4; clear hC4
  clear hS3
  have hly := hO2.len y (List.mem_of_getElem? hy)
  refine wl_assign rfl rfl ?_
  refine wl_nil ?_
  refine qs_seq ?_
  refine wc_seq ?_
  obtain ⟨kv, vv, nv, sv, lv, tv, hS5a⟩ := full_open (hS4.pull 0 rfl); dsimp only [List.eraseIdx] at hS5a
  have hS5 := obs_out (hS5a.pull 5 rfl) hy; dsimp only [List.eraseIdx, obT] at hS5
  clear hS4
  refine wc_region ?_
  refine wl_move rfl rfl ?_
  refine wl_maxI rfl rfl rfl ?_
  refine wl_assign rfl rfl ?_
  refine wl_nil ?_
  refine qs_seq ?_
  refine wc_sub (L' := [(14, _), (13, _), (12, _), (2, _), (3, _), (5, _)]) (.cons rfl (.cons rfl (.cons rfl (.cons rfl (.cons rfl (.cons rfl .nil)))))) ?_
  refine wc_block ?_
  refine wc_loop (fun K0 E0 W0 => ∃ (q : Nat) (d : Bs), K0 = 256 - q ∧ E0 = [(2, intV fi), (3, intV cn), (5, intV at_), (12, v3), (13, slV y), (14, intV (q : Int))] ∧ Sat W0 [rowT byC (slV y) d, starL ((O2.eraseIdx j).map obT), blkT p [kv, vv, nv, sv, lv, tv, intV t], rowT stC kv (Z.map (·.1)), rowT stC vv (Z.map (·.2)), rowT stC nv (O2.map (·.name)), rowT slC sv O2, rowT stC lv (G.map (·.1)), rowT stC tv (G.map (·.2)), rowT byC v3 x.data, F] ∧ (max at_ 0 ≤ (q : Int)) ∧ ((q : Int) = max at_ 0 ∨ ((q : Int) ≤ at_ + cn ∧ (q : Int) ≤ 256)) ∧ (d.length = 16384) ∧ (∀ i : Nat, i < 16384 → d[i]? = some (cpB (f frm) (f y.name) fi at_ (64 * (q : Int)) i))) (L0 := [(2, _), (3, _), (5, _), (12, _), (13, _), (14, _)]) (256 - (max at_ 0).toNat) (.cons rfl (.cons rfl (.cons rfl (.cons rfl (.cons rfl (.cons rfl .nil)))))) ⟨(max at_ 0).toNat, y.data, rfl, by rw [show (((max at_ 0).toNat : Nat) : Int) = max at_ 0 by omega], hS5, by omega, .inl (by omega), hly, fun i hi => by rw [hO2.val y (List.mem_of_getElem? hy) i hi]; unfold cpB; rw [if_neg (by omega)]⟩ ?_
  rintro _ _ w6 ⟨q, d, rfl, rfl, hS6, hq0, hq1, hdl, hd⟩
  refine wc_seq ?_
  refine wc_seq ?_
  refine wc_region ?_
  refine wl_move rfl rfl ?_
  refine wl_move rfl rfl ?_
  refine wl_move rfl rfl ?_
  refine wl_add rfl rfl (by omega) (by omega) rfl ?_
  refine wl_lss rfl rfl rfl ?_
  refine wl_move rfl rfl ?_
  refine wl_splitD 32 rfl (fun h7 => ?_) (fun h7 => ?_)
  · skip
    refine wl_guard rfl rfl (decide_eq_true h7) ?_
    refine wl_move rfl rfl ?_
    refine wl_guard rfl rfl (decide_eq_true h7) ?_
    refine wl_lss rfl rfl rfl ?_
    refine wl_pickT rfl (decide_eq_true h7) rfl rfl ?_
    refine wl_nil ?_
    refine qs_seq ?_
    refine wc_sub (L' := [(35, _), (2, _), (3, _), (5, _), (12, _), (13, _), (14, _)]) (.cons rfl (.cons rfl (.cons rfl (.cons rfl (.cons rfl (.cons rfl (.cons rfl .nil))))))) ?_
    refine wc_condD rfl (fun h8 => ?_) (fun h8 => ?_)
    · skip
      refine wc_skip ?_
      refine qs_seq ?_
      refine wc_seq ?_
      refine wc_block ?_
      refine wc_seq ?_
      refine wc_region ?_
      refine wl_move rfl rfl ?_
      refine wl_move rfl rfl ?_
      refine wl_add rfl rfl (by omega) (by omega) rfl ?_
      refine wl_move rfl rfl ?_
      refine wl_sub' rfl rfl (by omega) (by omega) rfl ?_
      refine wl_assign rfl rfl ?_
      refine wl_nil ?_
      refine qs_seq ?_
      refine wc_sub (L' := [(15, _), (2, _), (3, _), (5, _), (12, _), (13, _), (14, _)]) (.cons rfl (.cons rfl (.cons rfl (.cons rfl (.cons rfl (.cons rfl (.cons rfl .nil))))))) ?_
      refine wc_seq ?_
      refine wc_region ?_
      refine wl_assign rfl rfl ?_
      refine wl_nil ?_
      refine qs_seq ?_
      refine wc_block ?_
      refine wc_loop (fun K0 E0 W0 => ∃ (k : Nat) (d : Bs), K0 = 64 - k ∧ E0 = [(2, intV fi), (3, intV cn), (5, intV at_), (12, v3), (13, slV y), (14, intV (q : Int)), (15, intV (fi + (q : Int) - at_)), (16, intV (k : Int))] ∧ Sat W0 [rowT byC (slV y) d, starL ((O2.eraseIdx j).map obT), blkT p [kv, vv, nv, sv, lv, tv, intV t], rowT stC kv (Z.map (·.1)), rowT stC vv (Z.map (·.2)), rowT stC nv (O2.map (·.name)), rowT slC sv O2, rowT stC lv (G.map (·.1)), rowT stC tv (G.map (·.2)), rowT byC v3 x.data, F] ∧ (k ≤ 64) ∧ (d.length = 16384) ∧ (∀ i : Nat, i < 16384 → d[i]? = some (cpB (f frm) (f y.name) fi at_ ((64 * q + k : Nat) : Int) i))) (L0 := [(2, _), (3, _), (5, _), (12, _), (13, _), (14, _), (15, _), (16, _)]) (64 - 0) (.cons rfl (.cons rfl (.cons rfl (.cons rfl (.cons rfl (.cons rfl (.cons rfl (.cons rfl .nil)))))))) ⟨0, d, rfl, rfl, hS6, by omega, hdl, by rw [show ((64 * q + 0 : Nat) : Int) = 64 * (q : Int) by omega]; exact hd⟩ ?_
      rintro _ _ w9 ⟨k, d, rfl, rfl, hS9, hk, hdl, hd⟩
      refine wc_seq ?_
      refine wc_seq ?_
      refine wc_region ?_
      refine wl_move rfl rfl ?_
      refine wl_lss rfl rfl rfl ?_
      refine wl_nil ?_
      refine qs_seq ?_
      refine wc_condD rfl (fun h10 => ?_) (fun h10 => ?_)
      · skip
        refine wc_skip ?_
        refine qs_seq ?_
        refine wc_seq ?_
        refine wc_block ?_
        refine wc_seq ?_
        refine wc_region ?_
        refine wl_move rfl rfl ?_
        refine wl_move rfl rfl ?_
        refine wl_mul rfl rfl (by omega) (by omega) rfl ?_
        refine wl_move rfl rfl ?_
        refine wl_add rfl rfl (by omega) (by omega) rfl ?_
        obtain ⟨z, hz⟩ : ∃ z, d[64 * q + k]? = some z := ⟨_, List.getElem?_eq_getElem (by omega)⟩
        refine wl_rowIdx byC 0 (64 * q + k) hS9 rfl rfl rfl (by first | rfl | omega) hz es_69 rfl ?_
        intro bx11 capx11 hvx11
        refine wl_rowStore 0 (64 * q + k) 0 hS9 rfl hvx11 rfl rfl sz_5 (by first | rfl | (simp; done)) (by first | omega | exact (List.getElem?_eq_some_iff.1 hz).1) ?_
        intro w12 hS13; dsimp only [List.set] at hS13
        clear hS9
        refine wl_nil ?_
        refine qs_seq ?_
        refine wc_sub (L' := [(2, _), (3, _), (5, _), (12, _), (13, _), (14, _), (15, _), (16, _)]) (.cons rfl (.cons rfl (.cons rfl (.cons rfl (.cons rfl (.cons rfl (.cons rfl (.cons rfl .nil)))))))) ?_
        refine wc_seq ?_
        refine wc_region ?_
        refine wl_move rfl rfl ?_
        refine wl_geq rfl rfl rfl ?_
        refine wl_move rfl rfl ?_
        refine wl_splitD 55 rfl (fun h14 => ?_) (fun h14 => ?_)
        · skip
          refine wl_guard rfl rfl (decide_eq_true h14) ?_
          refine wl_move rfl rfl ?_
          refine wl_guard rfl rfl (decide_eq_true h14) ?_
          refine wl_lss rfl rfl rfl ?_
          refine wl_pickT rfl (decide_eq_true h14) rfl rfl ?_
          refine wl_nil ?_
          refine qs_seq ?_
          refine wc_sub (L' := [(58, _), (2, _), (3, _), (5, _), (12, _), (13, _), (14, _), (15, _), (16, _)]) (.cons rfl (.cons rfl (.cons rfl (.cons rfl (.cons rfl (.cons rfl (.cons rfl (.cons rfl (.cons rfl .nil))))))))) ?_
          refine wc_condD rfl (fun h15 => ?_) (fun h15 => ?_)
          · skip
            obtain ⟨g, hg⟩ : ∃ g : Nat, fi + (q : Int) - at_ = (g : Int) := ⟨(fi + (q : Int) - at_).toNat, by omega⟩
            have hs : x.data[64 * g + k]? = some (f frm (64 * (fi + (q : Int) - at_) + (k : Int))) := by rw [hO1.val x (List.mem_of_getElem? hx) _ (by omega), hxn, hg]; congr 1
            have hz2 : (d.set (64 * q + k) 0)[64 * q + k]? = some 0 := by rw [List.getElem?_set_self (by omega)]
            refine wc_region ?_
            refine wl_move rfl rfl ?_
            refine wl_move rfl rfl ?_
            refine wl_mul rfl rfl (by omega) (by omega) rfl ?_
            refine wl_move rfl rfl ?_
            refine wl_add rfl rfl (by omega) (by omega) rfl ?_
            refine wl_move rfl rfl ?_
            refine wl_move rfl rfl ?_
            refine wl_mul rfl rfl (by omega) (by omega) rfl ?_
            refine wl_move rfl rfl ?_
            refine wl_add rfl rfl (by omega) (by omega) rfl ?_
            refine wl_rowIdx byC 9 (64 * g + k) hS13 rfl rfl rfl (by first | rfl | omega) hs es_69 rfl ?_
            intro bx16 capx16 hvx16
            refine wl_rowLoad 9 (64 * g + k) 0 hS13 rfl hvx16 rfl rfl hs ag_5 rfl rfl ?_
            refine wl_rowIdx byC 0 (64 * q + k) hS13 rfl rfl rfl (by first | rfl | omega) hz2 es_69 rfl ?_
            intro bx17 capx17 hvx17
            refine wl_rowStore 0 (64 * q + k) (f frm (64 * (fi + (q : Int) - at_) + (k : Int))) hS13 rfl hvx17 rfl rfl sz_5 (by first | rfl | (simp; done)) (by first | omega | exact (List.getElem?_eq_some_iff.1 hz2).1) ?_
            intro w18 hS19; dsimp only [List.set] at hS19
            clear hS13
            refine wl_nil ?_
            refine qs_block_normal ?_
            refine qs_seq ?_
            refine wc_sub (L' := [(2, _), (3, _), (5, _), (12, _), (13, _), (14, _), (15, _), (16, _)]) (.cons rfl (.cons rfl (.cons rfl (.cons rfl (.cons rfl (.cons rfl (.cons rfl (.cons rfl .nil)))))))) ?_
            refine wc_region ?_
            refine wl_move rfl rfl ?_
            refine wl_add rfl rfl (by omega) (by omega) rfl ?_
            refine wl_assign rfl rfl ?_
            refine wl_nil ?_
            have hdiv : ((64 * q + k : Nat) : Int) / 64 = (q : Int) := by omega
            have hmod : ((64 * q + k : Nat) : Int) % 64 = (k : Int) := by omega
            have hsuc : ((64 * q + k : Nat) : Int) + 1 = ((64 * q + (k + 1) : Nat) : Int) := by omega
            exact qs_round (L1 := [(2, _), (3, _), (5, _), (12, _), (13, _), (14, _), (15, _), (16, intV ((k + 1 : Nat) : Int))]) (.cons rfl (.cons rfl (.cons rfl (.cons rfl (.cons rfl (.cons rfl (.cons rfl (.cons rfl .nil)))))))) (k1 := 64 - (k + 1)) (by omega) ⟨k + 1, ((d.set (64 * q + k) 0).set (64 * q + k) (f frm (64 * (fi + (q : Int) - at_) + (k : Int)))), rfl, rfl, hS19.pick [0, 1, 2, 3, 4, 5, 6, 7, 8, 9, 10] rfl, by omega, by simp only [List.length_set]; exact hdl, by rw [List.set_set]; exact fun i hi => by have := cp_set hd (by omega) (by omega) hdl (c := f frm (64 * (fi + (q : Int) - at_) + (k : Int))) (by rw [hdiv, hmod, if_pos (by omega)]) i hi; rwa [hsuc] at this⟩
          · skip
            refine wc_skip ?_
            refine qs_block_normal ?_
            refine qs_seq ?_
            refine wc_region ?_
            refine wl_move rfl rfl ?_
            refine wl_add rfl rfl (by omega) (by omega) rfl ?_
            refine wl_assign rfl rfl ?_
            refine wl_nil ?_
            have hdiv : ((64 * q + k : Nat) : Int) / 64 = (q : Int) := by omega
            have hmod : ((64 * q + k : Nat) : Int) % 64 = (k : Int) := by omega
            have hsuc : ((64 * q + k : Nat) : Int) + 1 = ((64 * q + (k + 1) : Nat) : Int) := by omega
            exact qs_round (L1 := [(2, _), (3, _), (5, _), (12, _), (13, _), (14, _), (15, _), (16, intV ((k + 1 : Nat) : Int))]) (.cons rfl (.cons rfl (.cons rfl (.cons rfl (.cons rfl (.cons rfl (.cons rfl (.cons rfl .nil)))))))) (k1 := 64 - (k + 1)) (by omega) ⟨k + 1, (d.set (64 * q + k) 0), rfl, rfl, hS13.pick [0, 1, 2, 3, 4, 5, 6, 7, 8, 9, 10] rfl, by omega, by simp only [List.length_set]; exact hdl, fun i hi => by have := cp_set hd (by omega) (by omega) hdl (c := 0) (by rw [hdiv, if_neg (by omega)]) i hi; rwa [hsuc] at this⟩
        · skip
          refine wl_unwanted rfl rfl (decide_eq_false h14) rfl ?_
          refine wl_unwanted rfl rfl (decide_eq_false h14) rfl ?_
          refine wl_pickF rfl (decide_eq_false h14) rfl rfl ?_
          refine wl_nil ?_
          refine qs_seq ?_
          refine wc_sub (L' := [(58, _), (2, _), (3, _), (5, _), (12, _), (13, _), (14, _), (15, _), (16, _)]) (.cons rfl (.cons rfl (.cons rfl (.cons rfl (.cons rfl (.cons rfl (.cons rfl (.cons rfl (.cons rfl .nil))))))))) ?_
          refine wc_condF rfl ?_
          refine wc_skip ?_
          refine qs_block_normal ?_
          refine qs_seq ?_
          refine wc_region ?_
          refine wl_move rfl rfl ?_
          refine wl_add rfl rfl (by omega) (by omega) rfl ?_
          refine wl_assign rfl rfl ?_
          refine wl_nil ?_
          have hdiv : ((64 * q + k : Nat) : Int) / 64 = (q : Int) := by omega
          have hmod : ((64 * q + k : Nat) : Int) % 64 = (k : Int) := by omega
          have hsuc : ((64 * q + k : Nat) : Int) + 1 = ((64 * q + (k + 1) : Nat) : Int) := by omega
          exact qs_round (L1 := [(2, _), (3, _), (5, _), (12, _), (13, _), (14, _), (15, _), (16, intV ((k + 1 : Nat) : Int))]) (.cons rfl (.cons rfl (.cons rfl (.cons rfl (.cons rfl (.cons rfl (.cons rfl (.cons rfl .nil)))))))) (k1 := 64 - (k + 1)) (by omega) ⟨k + 1, (d.set (64 * q + k) 0), rfl, rfl, hS13.pick [0, 1, 2, 3, 4, 5, 6, 7, 8, 9, 10] rfl, by omega, by simp only [List.length_set]; exact hdl, fun i hi => by have := cp_set hd (by omega) (by omega) hdl (c := 0) (by rw [hdiv, if_neg (by omega)]) i hi; rwa [hsuc] at this⟩
      · skip
        refine wc_exit ?_
        refine qs_then_exit ?_
        refine qs_then_exit ?_
        refine qs_block_exit ?_
        refine qs_block_normal ?_
        refine qs_seq ?_
        refine wc_region ?_
        refine wl_move rfl rfl ?_
        refine wl_add rfl rfl (by omega) (by omega) rfl ?_
        refine wl_assign rfl rfl ?_
        refine wl_nil ?_
        obtain rfl : k = 64 := by omega
        exact qs_round (L1 := [(2, _), (3, _), (5, _), (12, _), (13, _), (14, intV ((q + 1 : Nat) : Int))]) (.cons rfl (.cons rfl (.cons rfl (.cons rfl (.cons rfl (.cons rfl .nil)))))) (k1 := 256 - (q + 1)) (by omega) ⟨q + 1, d, rfl, rfl, hS9.pick [0, 1, 2, 3, 4, 5, 6, 7, 8, 9, 10] rfl, by omega, .inr (by omega), hdl, by rw [show 64 * ((q + 1 : Nat) : Int) = ((64 * q + 64 : Nat) : Int) by omega]; exact hd⟩
    · skip
      refine wc_exit ?_
      refine qs_then_exit ?_
      refine qs_then_exit ?_
      refine qs_block_exit ?_
      refine fin0 (.inl rfl) rfl ?_
      subst hyn; exact ⟨_, rfl, rfl, _, hO2.copy hy hdl hd (by omega) (by omega), by rw [List.length_set]; omega, full_put hy (hS6.pick [0, 2, 3, 4, 5, 6, 1, 7, 8, 10] rfl)⟩
  · skip
    refine wl_unwanted rfl rfl (decide_eq_false h7) rfl ?_
    refine wl_unwanted rfl rfl (decide_eq_false h7) rfl ?_
    refine wl_pickF rfl (decide_eq_false h7) rfl rfl ?_
    refine wl_nil ?_
    refine qs_seq ?_
    refine wc_sub (L' := [(35, _), (2, _), (3, _), (5, _), (12, _), (13, _), (14, _)]) (.cons rfl (.cons rfl (.cons rfl (.cons rfl (.cons rfl (.cons rfl (.cons rfl .nil))))))) ?_
    refine wc_condF rfl ?_
    refine wc_exit ?_
    refine qs_then_exit ?_
    refine qs_then_exit ?_
    refine qs_block_exit ?_
    refine fin0 (.inl rfl) rfl ?_
    subst hyn; exact ⟨_, rfl, rfl, _, hO2.copy hy hdl hd (by omega) (by omega), by rw [List.length_set]; omega, full_put hy (hS6.pick [0, 2, 3, 4, 5, 6, 1, 7, 8, 10] rfl)⟩

end Go.Proofs.YtieelilkkpcmdaaGreatDoor
