/- reference 15: Byte, SetByte, Drop, Log, Text -/
import Derived.Test.YtieelilkkpcmdaaGreatDoorRx2
namespace Go.Proofs.YtieelilkkpcmdaaGreatDoor
open Go.RowKit M
set_option linter.unusedVariables false
theorem full_put {w : World} {As : List Th} {p : Nat} {Z : List (Bs × Bs)} {O : List ObD} {G : List (Bs × Bs)} {t : Int} {kv vv nv sv lv tv : Value} {j : Nat} {x : ObD} {d : Bs} (hx : O[j]? = some x) (h : Sat w (rowT byC (slV x) d :: blkT p [kv, vv, nv, sv, lv, tv, intV t] :: rowT stC kv (Z.map (·.1)) :: rowT stC vv (Z.map (·.2)) :: rowT stC nv (O.map (·.name)) :: rowT slC sv O :: starL ((O.eraseIdx j).map obT) :: rowT stC lv (G.map (·.1)) :: rowT stC tv (G.map (·.2)) :: As)) : Sat w (fullT p Z (O.set j { x with data := d }) G t :: As) := by
  have hl := (List.getElem?_eq_some_iff.1 hx).1
  have hm : (O.set j { x with data := d }).map (·.name) = O.map (·.name) := by
    refine List.ext_getElem? fun k => ?_
    rw [List.getElem?_map, List.getElem?_map, List.getElem?_set]
    split
    · rename_i e; subst e; rw [hx]; rfl
    · rfl
  have hs : (O.set j { x with data := d }).map slV = O.map slV := by
    refine List.ext_getElem? fun k => ?_
    rw [List.getElem?_map, List.getElem?_map, List.getElem?_set]
    split
    · rename_i e; subst e; rw [hx]; rfl
    · rfl
  have hcl : ∀ l : List ObD, slC.cells l = l.map slV := fun l => by
    induction l with
    | nil => rfl
    | cons a l ih => simp only [RowC.cells, List.flatMap_cons, List.map_cons] at ih ⊢; rw [ih]; rfl
  have hr : rowT slC sv (O.set j { x with data := d }) = rowT slC sv O := by
    show ownT sv (O.set j { x with data := d }).length 1 (slC.cells (O.set j { x with data := d })) = ownT sv O.length 1 (slC.cells O)
    rw [List.length_set, hcl, hcl, hs]
  have h1 := h.pull 6 rfl; dsimp only [List.eraseIdx] at h1
  have h2 := obs_in (y := { x with data := d }) hx (h1.pull 1 rfl); dsimp only [List.eraseIdx] at h2
  refine full_shut (kv := kv) (vv := vv) (nv := nv) (sv := sv) (lv := lv) (tv := tv) ?_
  rw [hm, hr]
  exact h2.perm (by
    refine (List.Perm.swap _ _ _).trans (.cons _ ?_)
    refine (List.Perm.swap _ _ _).trans (.cons _ ?_)
    refine (List.Perm.swap _ _ _).trans (.cons _ ?_)
    refine (List.Perm.swap _ _ _).trans (.cons _ ?_)
    exact (List.Perm.swap _ _ _))
def dropF (f : Bs → Int → UInt8) (nm : Bs) : Bs → Int → UInt8 := fun m i => if m = nm then 0 else f m i
theorem ObjR.drop {O : List ObD} {f : Bs → Int → UInt8} (h : ObjR O f) {j : Nat} {x : ObD} (hx : O[j]? = some x) {d : Bs} (hd : d.length = 16384) (hz : ∀ i : Nat, i < 16384 → d[i]? = some 0) : ObjR (O.set j { x with data := d }) (dropF f x.name) :=
  h.upd hx hd (fun m hm i => by unfold dropF; rw [if_neg hm]) (fun i hi => by unfold dropF; rw [if_pos rfl]; exact hz i hi) (fun i _ => by unfold dropF; rw [if_pos rfl])
structure LogR (G : List (Bs × Bs)) (c : Bs → Bs) : Prop where
  nd : (G.map (·.1)).Nodup
  val : ∀ x ∈ G, c x.1 = x.2
  none : ∀ k, k ∉ G.map (·.1) → c k = []
theorem LogR.at {G : List (Bs × Bs)} {c : Bs → Bs} (h : LogR G c) {j : Nat} {k : Bs} (hj : (G.map (·.1))[j]? = some k) : (G.map (·.2))[j]? = some (c k) := by
  rw [List.getElem?_map] at hj ⊢
  obtain ⟨x, hx, rfl⟩ := Option.map_eq_some_iff.1 hj
  rw [hx, h.val x (List.mem_of_getElem? hx)]; rfl
def addC (c : Bs → Bs) (k s : Bs) : Bs → Bs := fun m => if m = k then c k ++ s else c m
theorem LogR.add {G : List (Bs × Bs)} {c : Bs → Bs} (h : LogR G c) {k : Bs} (hk : k ∉ G.map (·.1)) (s : Bs) : LogR (G ++ [(k, s)]) (addC c k s) := by
  refine ⟨?_, fun x hx => ?_, fun m hm => ?_⟩
  · rw [List.map_append, List.nodup_append]
    exact ⟨h.nd, by simp, fun a ha b hb => by simp at hb; subst hb; exact fun e => hk (e ▸ ha)⟩
  · rcases List.mem_append.1 hx with hx | hx
    · unfold addC; rw [if_neg (fun e => hk (by rw [← e]; exact List.mem_map.2 ⟨x, hx, rfl⟩))]; exact h.val x hx
    · simp at hx; subst hx; unfold addC; rw [if_pos rfl, h.none k hk]; rfl
  · rw [List.map_append, List.mem_append] at hm
    unfold addC; rw [if_neg (fun e => hm (.inr (by simp [e])))]; exact h.none m (fun e => hm (.inl e))
theorem LogR.upd {G : List (Bs × Bs)} {c : Bs → Bs} (h : LogR G c) {j : Nat} {k : Bs} (hj : (G.map (·.1))[j]? = some k) (s : Bs) : ∃ G', G'.map (·.1) = G.map (·.1) ∧ G'.map (·.2) = (G.map (·.2)).set j (c k ++ s) ∧ LogR G' (addC c k s) := by
  rw [List.getElem?_map] at hj
  obtain ⟨x, hx, rfl⟩ := Option.map_eq_some_iff.1 hj
  have hl := (List.getElem?_eq_some_iff.1 hx).1
  have hm : (G.set j (x.1, c x.1 ++ s)).map (·.1) = G.map (·.1) := by
    refine List.ext_getElem? fun k => ?_
    rw [List.getElem?_map, List.getElem?_map, List.getElem?_set]
    split
    · rename_i e; subst e; rw [hx]; rfl
    · rfl
  refine ⟨G.set j (x.1, c x.1 ++ s), hm, by rw [List.map_set], ⟨by rw [hm]; exact h.nd, fun y hy => ?_, fun m hm2 => ?_⟩⟩
  · obtain ⟨k, hk⟩ := List.mem_iff_getElem?.1 hy
    rw [List.getElem?_set] at hk
    split at hk
    · have := (Option.some.inj hk).symm; subst this; unfold addC; rw [if_pos rfl]
    · rename_i e
      have hne : y.1 ≠ x.1 := fun q => by
        have h1 : (G.map (·.1))[j]? = some x.1 := by rw [List.getElem?_map, hx]; rfl
        have h2 : (G.map (·.1))[k]? = some x.1 := by rw [List.getElem?_map, hk, ← q]; rfl
        exact e ((List.getElem?_inj (List.getElem?_eq_some_iff.1 h1).1 h.nd).1 (by rw [h1, h2]))
      unfold addC; rw [if_neg hne]; exact h.val y (List.mem_of_getElem? hk)
  · rw [hm] at hm2
    unfold addC; rw [if_neg (fun e => hm2 (by rw [e]; exact List.mem_map.2 ⟨x, List.mem_of_getElem? hx, rfl⟩))]; exact h.none m hm2
set_option maxRecDepth 100000 in
theorem fByte_sp {w : World} {p : Nat} {Z : List (Bs × Bs)} {O : List ObD} {G : List (Bs × Bs)} {t : Int} {F : Th} (hS : Sat w [fullT p Z O G t, F]) {f : Bs → Int → UInt8} (hO : ObjR O f) (hn : O.length ≤ 100000) (nm : Bs) (at_ : Int) :
    Calls Tryz.prog 14 #[ptrV p 0, strV nm, intV at_] w (Ret fun v w' => v = byteV (f nm at_) ∧ Sat w' [fullT p Z O G t, F]) := by
  obtain ⟨kv, vv, nv, sv, lv, tv, hS⟩ := full_open hS
  refine calls_enter Tryz.func14 rfl Tryz.ntmps14 rfl ?_
  refine wc_seq ?_
  refine wc_region ?_
  refine wl_assign rfl rfl ?_
  refine wl_nil ?_
  refine qs_seq ?_
  refine wc_seq ?_
  refine wc_region ?_
  refine wl_move rfl rfl ?_
  refine wl_nilCheck rfl rfl ?_
  refine wl_fieldAddr rfl fo_31_2 rfl ?_
  refine wl_load rfl ag_28 (by first | assumption | exact hS.cell 0 rfl rfl | exact hS.cell 5 rfl rfl) rfl ?_
  refine wl_move rfl rfl ?_
  have hC1 := hS.split [] [false, false, false, false, false, false, false, false, false] rfl; dsimp only [selF, pickA, nthA, List.cons_append, List.nil_append] at hC1
  refine wl_call cal_51 rfl (index_sp hC1 (Ent.starL (ent_row (C := stC) (l := O.map (·.name)) (by simp; omega)) 3 rfl) nm) rfl ?_
  rintro e w1 ⟨_, rfl, i, rfl, hix, hS1⟩; refine ⟨_, rfl, ?_⟩
  replace hS1 := hS1.join rfl; dsimp only [List.dropLast, List.cons_append, List.nil_append] at hS1; clear hC1
  refine wl_assign rfl rfl ?_
  refine wl_nil ?_
  refine qs_seq ?_
  refine wc_sub (L' := [(7, _), (6, _), (0, _), (2, _)]) (.cons rfl (.cons rfl (.cons rfl (.cons rfl .nil)))) ?_
  refine wc_seq ?_
  refine wc_seq ?_
  refine wc_region ?_
  refine wl_move rfl rfl ?_
  refine wl_lss rfl rfl rfl ?_
  refine wl_move rfl rfl ?_
  refine wl_splitD 16 rfl (fun h2 => ?_) (fun h2 => ?_)
  · skip
    refine wl_unwanted rfl rfl (decide_eq_true h2) rfl ?_
    refine wl_unwanted rfl rfl (decide_eq_true h2) rfl ?_
    refine wl_pickT rfl (decide_eq_true h2) rfl rfl ?_
    refine wl_move rfl rfl ?_
    refine wl_unwanted rfl rfl rfl rfl ?_
    refine wl_unwanted rfl rfl rfl rfl ?_
    refine wl_pickT rfl rfl rfl rfl ?_
    refine wl_nil ?_
    refine qs_seq ?_
    refine wc_sub (L' := [(23, _), (7, _), (6, _), (0, _), (2, _)]) (.cons rfl (.cons rfl (.cons rfl (.cons rfl (.cons rfl .nil))))) ?_
    refine wc_condT rfl ?_
    refine wc_seq ?_
    refine wc_region ?_
    refine wl_assign rfl rfl ?_
    refine wl_nil ?_
    refine qs_seq ?_
    refine wc_ret ?_
    refine qs_then_ret ?_
    refine fin1 (.inr rfl) rfl rfl ?_
    have hnm : nm ∉ O.map (·.name) := by rcases hix with ⟨_, q⟩ | ⟨j, q, _⟩; exact q; omega
    exact ⟨_, rfl, by rw [hO.none nm hnm]; rfl, full_shut hS1⟩
  · skip
    refine wl_guard rfl rfl (decide_eq_false h2) ?_
    refine wl_move rfl rfl ?_
    refine wl_guard rfl rfl (decide_eq_false h2) ?_
    refine wl_lss rfl rfl rfl ?_
    refine wl_pickF rfl (decide_eq_false h2) rfl rfl ?_
    refine wl_move rfl rfl ?_
    refine wl_splitD 20 rfl (fun h3 => ?_) (fun h3 => ?_)
    · skip
      refine wl_unwanted rfl rfl (decide_eq_true h3) rfl ?_
      refine wl_unwanted rfl rfl (decide_eq_true h3) rfl ?_
      refine wl_pickT rfl (decide_eq_true h3) rfl rfl ?_
      refine wl_nil ?_
      refine qs_seq ?_
      refine wc_sub (L' := [(23, _), (7, _), (6, _), (0, _), (2, _)]) (.cons rfl (.cons rfl (.cons rfl (.cons rfl (.cons rfl .nil))))) ?_
      refine wc_condT rfl ?_
      refine wc_seq ?_
      refine wc_region ?_
      refine wl_assign rfl rfl ?_
      refine wl_nil ?_
      refine qs_seq ?_
      refine wc_ret ?_
      refine qs_then_ret ?_
      refine fin1 (.inr rfl) rfl rfl ?_
      exact ⟨_, rfl, by rw [hO.out nm at_ (by omega)]; rfl, full_shut hS1⟩
    · skip
      refine wl_guard rfl rfl (decide_eq_false h3) ?_
      refine wl_move rfl rfl ?_
      refine wl_guard rfl rfl (decide_eq_false h3) ?_
      refine wl_geq rfl rfl rfl ?_
      refine wl_pickF rfl (decide_eq_false h3) rfl rfl ?_
      refine wl_nil ?_
      refine qs_seq ?_
      refine wc_sub (L' := [(23, _), (7, _), (6, _), (0, _), (2, _)]) (.cons rfl (.cons rfl (.cons rfl (.cons rfl (.cons rfl .nil))))) ?_
      refine wc_condD rfl (fun h4 => ?_) (fun h4 => ?_)
      · skip
        refine wc_seq ?_
        refine wc_region ?_
        refine wl_assign rfl rfl ?_
        refine wl_nil ?_
        refine qs_seq ?_
        refine wc_ret ?_
        refine qs_then_ret ?_
        refine fin1 (.inr rfl) rfl rfl ?_
        exact ⟨_, rfl, by rw [hO.out nm at_ (by omega)]; rfl, full_shut hS1⟩
      · skip
        obtain ⟨j, rfl, hj⟩ : ∃ j : Nat, i = (j : Int) ∧ (O.map (·.name))[j]? = some nm := by rcases hix with ⟨q, _⟩ | q; omega; exact q
        obtain ⟨x, hx, rfl⟩ := name_at hj
        obtain ⟨a, rfl⟩ : ∃ a : Nat, at_ = (a : Int) := ⟨at_.toNat, by omega⟩
        have hb := hO.val x (List.mem_of_getElem? hx) a (by omega)
        refine wc_skip ?_
        refine qs_seq ?_
        refine wc_seq ?_
        refine wc_region ?_
        refine wl_move rfl rfl ?_
        refine wl_nilCheck rfl rfl ?_
        refine wl_fieldAddr rfl fo_31_3 rfl ?_
        refine wl_load rfl ag_29 (by first | assumption | exact hS1.cell 0 rfl rfl | exact hS1.cell 5 rfl rfl) rfl ?_
        refine wl_move rfl rfl ?_
        refine wl_rowIdx slC 4 j hS1 rfl rfl rfl (by first | rfl | omega) hx es_29 rfl ?_
        intro bx5 capx5 hvx5
        refine wl_rowLoad 4 j 0 hS1 rfl hvx5 rfl rfl hx ag_69 rfl rfl ?_
        refine wl_move rfl rfl ?_
        refine wl_indexAddr a rfl rfl (by first | rfl | omega) (by omega) es_69 rfl ?_
        refine wl_rowLoad0 byC 0 a 0 (obs_out (hS1.pull 5 rfl) hx) rfl hb ag_5 rfl rfl rfl ?_
        refine wl_assign rfl rfl ?_
        refine wl_nil ?_
        refine qs_seq ?_
        refine wc_sub (L' := [(6, _)]) (.cons rfl .nil) ?_
        refine wc_ret ?_
        refine fin1 (.inr rfl) rfl rfl ?_
        exact ⟨_, rfl, rfl, full_shut hS1⟩

set_option maxRecDepth 100000 in
theorem fSetByte_sp {w : World} {p : Nat} {Z : List (Bs × Bs)} {O : List ObD} {G : List (Bs × Bs)} {t : Int} {F : Th} (hS : Sat w [fullT p Z O G t, F]) {f : Bs → Int → UInt8} (hO : ObjR O f) (hn : O.length ≤ 100000) (nm : Bs) (at_ : Int) (c : UInt8) :
    Calls Tryz.prog 12 #[ptrV p 0, strV nm, intV at_, byteV c] w (Ret fun v w' => v = .tuple #[] ∧ ∃ O' : List ObD, ObjR O' (setF f nm at_ c) ∧ O'.length ≤ O.length + 1 ∧ Sat w' [fullT p Z O' G t, F]) := by
  refine calls_enter Tryz.func12 rfl Tryz.ntmps12 rfl ?_
  refine wc_seq ?_
  refine wc_region ?_
  refine wl_move rfl rfl ?_
  refine wl_geq rfl rfl rfl ?_
  refine wl_move rfl rfl ?_
  refine wl_splitD 11 rfl (fun h1 => ?_) (fun h1 => ?_)
  · skip
    refine wl_guard rfl rfl (decide_eq_true h1) ?_
    refine wl_move rfl rfl ?_
    refine wl_guard rfl rfl (decide_eq_true h1) ?_
    refine wl_lss rfl rfl rfl ?_
    refine wl_pickT rfl (decide_eq_true h1) rfl rfl ?_
    refine wl_nil ?_
    refine qs_seq ?_
    refine wc_condD rfl (fun h2 => ?_) (fun h2 => ?_)
    · skip
      obtain ⟨a, rfl⟩ : ∃ a : Nat, at_ = (a : Int) := ⟨at_.toNat, by omega⟩
      refine wc_seq ?_
      refine wc_region ?_
      refine wl_move rfl rfl ?_
      refine wl_move rfl rfl ?_
      have hC3 := hS.split [0] [true, false] rfl; dsimp only [selF, pickA, nthA, List.cons_append, List.nil_append] at hC3
      refine wl_call cal_48 rfl (fobj_sp hC3 hO hn nm) rfl ?_
      rintro e w3 ⟨_, rfl, O1, j, x, rfl, hx, hxn, hO1, hn1, hS3⟩; refine ⟨_, rfl, ?_⟩
      replace hS3 := hS3.join rfl; dsimp only [List.dropLast, List.cons_append, List.nil_append] at hS3; clear hC3
      refine wl_assign rfl rfl ?_
      refine wl_nil ?_
      refine qs_seq ?_
      refine wc_sub (L' := [(8, _), (2, _), (3, _)]) (.cons rfl (.cons rfl (.cons rfl .nil))) ?_
      obtain ⟨kv, vv, nv, sv, lv, tv, hS4a⟩ := full_open (hS3.pull 0 rfl); dsimp only [List.eraseIdx] at hS4a
      have hS4 := obs_out (hS4a.pull 5 rfl) hx; dsimp only [List.eraseIdx, obT] at hS4
      clear hS3
      refine wc_region ?_
      refine wl_move rfl rfl ?_
      refine wl_move rfl rfl ?_
      refine wl_move rfl rfl ?_
      have hb := hO1.val x (List.mem_of_getElem? hx) a (by omega)
      refine wl_rowIdx byC 0 a hS4 rfl rfl rfl (by first | rfl | omega) hb es_69 rfl ?_
      intro bx5 capx5 hvx5
      refine wl_rowStore 0 a c hS4 rfl hvx5 rfl rfl sz_5 (by first | rfl | (simp; done)) (by first | omega | exact (List.getElem?_eq_some_iff.1 hb).1) ?_
      intro w6 hS7; dsimp only [List.set] at hS7
      clear hS4
      refine wl_nil ?_
      refine fin0 (.inl rfl) rfl ?_
      subst hxn; exact ⟨_, rfl, rfl, _, hO1.set hx (by omega) c, by rw [List.length_set]; exact hn1, full_put hx (hS7.pick [0, 2, 3, 4, 5, 6, 1, 7, 8, 9] rfl)⟩
    · skip
      refine wc_skip ?_
      refine fin0 (.inl rfl) rfl ?_
      exact ⟨_, rfl, rfl, O, by rw [setF_out (by omega)]; exact hO, by omega, hS⟩
  · skip
    refine wl_unwanted rfl rfl (decide_eq_false h1) rfl ?_
    refine wl_unwanted rfl rfl (decide_eq_false h1) rfl ?_
    refine wl_pickF rfl (decide_eq_false h1) rfl rfl ?_
    refine wl_nil ?_
    refine qs_seq ?_
    refine wc_condF rfl ?_
    refine wc_skip ?_
    refine fin0 (.inl rfl) rfl ?_
    exact ⟨_, rfl, rfl, O, by rw [setF_out (by omega)]; exact hO, by omega, hS⟩

set_option maxRecDepth 100000 in
theorem fText_sp {w : World} {p : Nat} {Z : List (Bs × Bs)} {O : List ObD} {G : List (Bs × Bs)} {t : Int} {F : Th} (hS : Sat w [fullT p Z O G t, F]) {cl : Bs → Bs} (hG : LogR G cl) (hn : G.length ≤ 100000) (nm : Bs) :
    Calls Tryz.prog 45 #[ptrV p 0, strV nm] w (Ret fun v w' => v = strV (cl nm) ∧ Sat w' [fullT p Z O G t, F]) := by
  obtain ⟨kv, vv, nv, sv, lv, tv, hS⟩ := full_open hS
  refine calls_enter Tryz.func45 rfl Tryz.ntmps45 rfl ?_
  refine wc_seq ?_
  refine wc_region ?_
  refine wl_assign rfl rfl ?_
  refine wl_nil ?_
  refine qs_seq ?_
  refine wc_seq ?_
  refine wc_region ?_
  refine wl_move rfl rfl ?_
  refine wl_nilCheck rfl rfl ?_
  refine wl_fieldAddr rfl fo_31_4 rfl ?_
  refine wl_load rfl ag_28 (by first | assumption | exact hS.cell 0 rfl rfl | exact hS.cell 5 rfl rfl) rfl ?_
  refine wl_move rfl rfl ?_
  have hC1 := hS.split [] [false, false, false, false, false, false, false, false, false] rfl; dsimp only [selF, pickA, nthA, List.cons_append, List.nil_append] at hC1
  refine wl_call cal_51 rfl (index_sp hC1 (Ent.starL (ent_row (C := stC) (l := G.map (·.1)) (by simp; omega)) 6 rfl) nm) rfl ?_
  rintro e w1 ⟨_, rfl, i, rfl, hix, hS1⟩; refine ⟨_, rfl, ?_⟩
  replace hS1 := hS1.join rfl; dsimp only [List.dropLast, List.cons_append, List.nil_append] at hS1; clear hC1
  refine wl_assign rfl rfl ?_
  refine wl_nil ?_
  refine qs_seq ?_
  refine wc_seq ?_
  refine wc_seq ?_
  refine wc_region ?_
  refine wl_move rfl rfl ?_
  refine wl_lss rfl rfl rfl ?_
  refine wl_nil ?_
  refine qs_seq ?_
  refine wc_sub (L' := [(13, _), (5, _), (4, _), (0, _)]) (.cons rfl (.cons rfl (.cons rfl (.cons rfl .nil)))) ?_
  refine wc_condD rfl (fun h2 => ?_) (fun h2 => ?_)
  · skip
    refine wc_seq ?_
    refine wc_region ?_
    refine wl_assign rfl rfl ?_
    refine wl_nil ?_
    refine qs_seq ?_
    refine wc_ret ?_
    refine qs_then_ret ?_
    refine fin1 (.inr rfl) rfl rfl ?_
    have hnm : nm ∉ G.map (·.1) := by rcases hix with ⟨_, q⟩ | ⟨j, q, _⟩; exact q; omega
    exact ⟨_, rfl, by rw [hG.none nm hnm], full_shut hS1⟩
  · skip
    obtain ⟨j, rfl, hj⟩ : ∃ j : Nat, i = (j : Int) ∧ (G.map (·.1))[j]? = some nm := by rcases hix with ⟨q, _⟩ | q; omega; exact q
    have hcj := hG.at hj
    refine wc_skip ?_
    refine qs_seq ?_
    refine wc_seq ?_
    refine wc_region ?_
    refine wl_move rfl rfl ?_
    refine wl_nilCheck rfl rfl ?_
    refine wl_fieldAddr rfl fo_31_5 rfl ?_
    refine wl_load rfl ag_28 (by first | assumption | exact hS1.cell 0 rfl rfl | exact hS1.cell 5 rfl rfl) rfl ?_
    refine wl_move rfl rfl ?_
    refine wl_rowIdx stC 7 j hS1 rfl rfl rfl (by first | rfl | omega) hcj es_28 rfl ?_
    intro bx3 capx3 hvx3
    refine wl_rowLoad 7 j 0 hS1 rfl hvx3 rfl rfl hcj ag_9 rfl rfl ?_
    refine wl_assign rfl rfl ?_
    refine wl_nil ?_
    refine qs_seq ?_
    refine wc_sub (L' := [(4, _)]) (.cons rfl .nil) ?_
    refine wc_ret ?_
    refine fin1 (.inr rfl) rfl rfl ?_
    exact ⟨_, rfl, rfl, full_shut hS1⟩

set_option maxRecDepth 100000 in
theorem fLog_sp {w : World} {p : Nat} {Z : List (Bs × Bs)} {O : List ObD} {G : List (Bs × Bs)} {t : Int} {F : Th} (hS : Sat w [fullT p Z O G t, F]) {cl : Bs → Bs} (hG : LogR G cl) (hn : G.length ≤ 100000) (nm s : Bs) (hsl : (cl nm).length ≤ 1000000) (hs : s.length ≤ 1000000) :
    Calls Tryz.prog 43 #[ptrV p 0, strV nm, strV s] w (Ret fun v w' => v = .tuple #[] ∧ ∃ G', LogR G' (addC cl nm s) ∧ G'.length ≤ G.length + 1 ∧ Sat w' [fullT p Z O G' t, F]) := by
  obtain ⟨kv, vv, nv, sv, lv, tv, hS⟩ := full_open hS
  refine calls_enter Tryz.func43 rfl Tryz.ntmps43 rfl ?_
  refine wc_seq ?_
  refine wc_region ?_
  refine wl_move rfl rfl ?_
  refine wl_nilCheck rfl rfl ?_
  refine wl_fieldAddr rfl fo_31_4 rfl ?_
  refine wl_load rfl ag_28 (by first | assumption | exact hS.cell 0 rfl rfl | exact hS.cell 5 rfl rfl) rfl ?_
  refine wl_move rfl rfl ?_
  have hC1 := hS.split [] [false, false, false, false, false, false, false, false, false] rfl; dsimp only [selF, pickA, nthA, List.cons_append, List.nil_append] at hC1
  refine wl_call cal_51 rfl (index_sp hC1 (Ent.starL (ent_row (C := stC) (l := G.map (·.1)) (by simp; omega)) 6 rfl) nm) rfl ?_
  rintro e w1 ⟨_, rfl, i, rfl, hix, hS1⟩; refine ⟨_, rfl, ?_⟩
  replace hS1 := hS1.join rfl; dsimp only [List.dropLast, List.cons_append, List.nil_append] at hS1; clear hC1
  refine wl_assign rfl rfl ?_
  refine wl_nil ?_
  refine qs_seq ?_
  refine wc_seq ?_
  refine wc_seq ?_
  refine wc_region ?_
  refine wl_move rfl rfl ?_
  refine wl_geq rfl rfl rfl ?_
  refine wl_nil ?_
  refine qs_seq ?_
  refine wc_sub (L' := [(14, _), (6, _), (0, _), (1, _), (2, _)]) (.cons rfl (.cons rfl (.cons rfl (.cons rfl (.cons rfl .nil))))) ?_
  refine wc_condD rfl (fun h2 => ?_) (fun h2 => ?_)
  · skip
    obtain ⟨j, rfl, hj⟩ : ∃ j : Nat, i = (j : Int) ∧ (G.map (·.1))[j]? = some nm := by rcases hix with ⟨q, _⟩ | q; omega; exact q
    have hcj := hG.at hj
    obtain ⟨G2, h1, h2, hG2⟩ := hG.upd hj s
    refine wc_seq ?_
    obtain ⟨tb, tcap, rfl, _⟩ := hS1.own_at 7 rfl (by have := (List.getElem?_eq_some_iff.1 hcj).1; omega)
    have hS3 := hS1.drew
    refine wc_draw [0, 1, 2, 3, 4, 5, 6, 7, 8, 9, 10, 11, 12, 13, 14, 15] [15] mix (by kernel_rfl) ?_
    refine vc_p rfl rfl rfl (fun _ => (ev_move rfl)) ?_
    refine vc_p rfl rfl rfl (fun _ => (ev_nilCheck rfl)) ?_
    refine vc_p rfl rfl rfl (fun _ => (ev_fieldAddr rfl fo_31_5)) ?_
    refine vc_q rfl rfl rfl (ev_load rfl ag_28 (by first | assumption | exact hS3.cell 0 rfl rfl | exact hS3.cell 5 rfl rfl)) ?_
    refine vc_p rfl rfl rfl (fun _ => (ev_move rfl)) ?_
    refine vc_p rfl rfl rfl (fun _ => (ev_move rfl)) ?_
    refine vc_p rfl rfl rfl (fun _ => (ev_nilCheck rfl)) ?_
    refine vc_p rfl rfl rfl (fun _ => (ev_fieldAddr rfl fo_31_5)) ?_
    refine vc_q rfl rfl rfl (ev_load rfl ag_28 (by first | assumption | exact hS3.cell 0 rfl rfl | exact hS3.cell 5 rfl rfl)) ?_
    refine vc_p rfl rfl rfl (fun _ => (ev_move rfl)) ?_
    refine vc_p rfl rfl rfl (fun _ => (ev_indexAddr j rfl rfl (by first | rfl | omega) (by first | omega | exact (List.getElem?_eq_some_iff.1 hcj).1) es_28)) ?_
    refine vc_q rfl rfl rfl (ev_rowLoad0 stC 7 j 0 hS3 rfl hcj ag_9 rfl rfl) ?_
    refine vc_p rfl rfl rfl (fun _ => (ev_move rfl)) ?_
    refine vc_p rfl rfl rfl (fun _ => (ev_concat rfl rfl (by omega))) ?_
    refine vc_p rfl rfl rfl (fun _ => (ev_indexAddr j rfl rfl (by first | rfl | omega) (by first | omega | exact (List.getElem?_eq_some_iff.1 hcj).1) es_28)) ?_
    refine vc_s rfl rfl rfl rfl rfl rfl ?_
    refine wl_rowStore 7 j (cl nm ++ s) hS3 rfl rfl (by have e : j * stC.size = 0 + j * 1 := (Nat.zero_add _).symm; rw [e]; rfl) rfl sz_9 (by first | rfl | (simp; done)) (List.getElem?_eq_some_iff.1 hcj).1 ?_
    intro w4 hS4; dsimp only [List.set] at hS4
    clear hS3
    refine vc_e0 (.skip (by kernel_rfl) (.skip (by kernel_rfl) (.skip (by kernel_rfl) .nil))) ?_
    refine VC.nil ?_
    refine qs_seq ?_
    refine wc_sub (L' := [(0, _), (1, _), (2, _)]) (.cons rfl (.cons rfl (.cons rfl .nil))) ?_
    refine wc_ret ?_
    refine qs_then_ret ?_
    refine fin0 (.inr rfl) rfl ?_
    exact ⟨_, rfl, rfl, G2, hG2, by have := congrArg List.length h1; simp at this; omega, full_shut (by rw [h1, h2]; exact hS4)⟩
  · skip
    have hnm : nm ∉ G.map (·.1) := by rcases hix with ⟨_, q⟩ | ⟨j, q, _⟩; exact q; omega
    refine wc_skip ?_
    refine qs_seq ?_
    refine wc_seq ?_
    refine wc_region ?_
    refine wl_move rfl rfl ?_
    refine wl_move rfl rfl ?_
    refine wl_nilCheck rfl rfl ?_
    refine wl_fieldAddr rfl fo_31_4 rfl ?_
    refine wl_load rfl ag_28 (by first | assumption | exact hS1.cell 0 rfl rfl | exact hS1.cell 5 rfl rfl) rfl ?_
    refine wl_move rfl rfl ?_
    refine wl_rowBuild stC [nm] hS1 rfl Tryz.underlying28 ifz_9 rfl rfl rfl rfl (by first | rfl | simp [RowC.cells, fillL, splice]) rfl ?_
    intro b5 w5 hS5
    clear hS1
    refine wl_rowApp stC 7 hS5 rfl rfl rfl (hS5.rd 0 rfl (by simp)) Tryz.underlying28 Tryz.underlying28 (by intro k hk; cases hk) ifo_9 rfl (by simp; omega) rfl (by simp; omega) ?_
    intro v6 w6 hS6; dsimp only [List.set] at hS6
    clear hS5
    have h1v6 : v6.oneCell' = true := hS6.own_one 7 rfl
    refine wl_nilCheck rfl rfl ?_
    refine wl_fieldAddr rfl fo_31_4 rfl ?_
    refine wl_store hS6 rfl rfl sz_28 (by first | rfl | assumption) (i := 1) rfl (by simp) ?_
    intro w7 hS7; dsimp only [List.set] at hS7
    clear hS6
    refine wl_nil ?_
    refine qs_seq ?_
    refine wc_sub (L' := [(0, _), (2, _)]) (.cons rfl (.cons rfl .nil)) ?_
    refine wc_region ?_
    refine wl_move rfl rfl ?_
    refine wl_move rfl rfl ?_
    refine wl_nilCheck rfl rfl ?_
    refine wl_fieldAddr rfl fo_31_5 rfl ?_
    refine wl_load rfl ag_28 (by first | assumption | exact hS7.cell 1 rfl rfl | exact hS7.cell 6 rfl rfl) rfl ?_
    refine wl_move rfl rfl ?_
    refine wl_rowBuild stC [s] hS7 rfl Tryz.underlying28 ifz_9 rfl rfl rfl rfl (by first | rfl | simp [RowC.cells, fillL, splice]) rfl ?_
    intro b8 w8 hS8
    clear hS7
    refine wl_rowApp stC 9 hS8 rfl rfl rfl (hS8.rd 0 rfl (by simp)) Tryz.underlying28 Tryz.underlying28 (by intro k hk; cases hk) ifo_9 rfl (by simp; omega) rfl (by simp; omega) ?_
    intro v9 w9 hS9; dsimp only [List.set] at hS9
    clear hS8
    have h1v9 : v9.oneCell' = true := hS9.own_one 9 rfl
    refine wl_nilCheck rfl rfl ?_
    refine wl_fieldAddr rfl fo_31_5 rfl ?_
    refine wl_store hS9 rfl rfl sz_28 (by first | rfl | assumption) (i := 2) rfl (by simp) ?_
    intro w10 hS10; dsimp only [List.set] at hS10
    clear hS9
    refine wl_nil ?_
    refine fin0 (.inl rfl) rfl ?_
    exact ⟨_, rfl, rfl, G ++ [(nm, s)], hG.add hnm s, by simp, full_shut (by simp only [List.map_append, List.map_cons, List.map_nil]; exact hS10.pick [2, 3, 4, 5, 6, 7, 8, 9, 10] rfl)⟩

set_option maxRecDepth 100000 in
theorem fDrop_sp {w : World} {p : Nat} {Z : List (Bs × Bs)} {O : List ObD} {G : List (Bs × Bs)} {t : Int} {F : Th} (hS : Sat w [fullT p Z O G t, F]) {f : Bs → Int → UInt8} (hO : ObjR O f) (hn : O.length ≤ 100000) (nm : Bs) :
    Calls Tryz.prog 42 #[ptrV p 0, strV nm] w (Ret fun v w' => v = .tuple #[] ∧ ∃ O' : List ObD, ObjR O' (dropF f nm) ∧ O'.length ≤ O.length + 1 ∧ Sat w' [fullT p Z O' G t, F]) := by
  refine calls_enter Tryz.func42 rfl Tryz.ntmps42 rfl ?_
  refine wc_seq ?_
  refine wc_region ?_
  refine wl_move rfl rfl ?_
  refine wl_move rfl rfl ?_
  have hC1 := hS.split [0] [true, false] rfl; dsimp only [selF, pickA, nthA, List.cons_append, List.nil_append] at hC1
  refine wl_call cal_48 rfl (fobj_sp hC1 hO hn nm) rfl ?_
  rintro e w1 ⟨_, rfl, O1, j, x, rfl, hx, hxn, hO1, hn1, hS1⟩; refine ⟨_, rfl, ?_⟩
  replace hS1 := hS1.join rfl; dsimp only [List.dropLast, List.cons_append, List.nil_append] at hS1; clear hC1
  refine wl_assign rfl rfl ?_
  refine wl_nil ?_
  refine qs_seq ?_
  refine wc_seq ?_
  obtain ⟨kv, vv, nv, sv, lv, tv, hS2a⟩ := full_open (hS1.pull 0 rfl); dsimp only [List.eraseIdx] at hS2a
  have hS2 := obs_out (hS2a.pull 5 rfl) hx; dsimp only [List.eraseIdx, obT] at hS2
  clear hS1
  refine wc_region ?_
  refine wl_assign rfl rfl ?_
  refine wl_nil ?_
  refine qs_seq ?_
  refine wc_block ?_
  refine wc_loop (fun K0 E0 W0 => ∃ (i : Nat) (d : Bs), K0 = 16384 - i ∧ E0 = [(4, slV x), (5, intV (i : Int))] ∧ Sat W0 [rowT byC (slV x) d, starL ((O1.eraseIdx j).map obT), blkT p [kv, vv, nv, sv, lv, tv, intV t], rowT stC kv (Z.map (·.1)), rowT stC vv (Z.map (·.2)), rowT stC nv (O1.map (·.name)), rowT slC sv O1, rowT stC lv (G.map (·.1)), rowT stC tv (G.map (·.2)), F] ∧ (i ≤ 16384) ∧ (d.length = 16384) ∧ (∀ k : Nat, k < i → d[k]? = some 0)) (L0 := [(4, _), (5, _)]) (16384 - 0) (.cons rfl (.cons rfl .nil)) ⟨0, x.data, rfl, rfl, hS2, by omega, hO1.len x (List.mem_of_getElem? hx), by omega⟩ ?_
  rintro _ _ w3 ⟨i, d, rfl, rfl, hS3, hi, hdl, hd⟩
  refine wc_seq ?_
  refine wc_seq ?_
  refine wc_region ?_
  refine wl_move rfl rfl ?_
  refine wl_move rfl rfl ?_
  first | refine wl_lenL Tryz.underlying69 rfl rfl ?_ | refine wl_lenO 3 hS3 Tryz.underlying69 rfl rfl rfl ?_ | refine wl_lenO 4 hS3 Tryz.underlying69 rfl rfl rfl ?_ | refine wl_lenO 5 hS3 Tryz.underlying69 rfl rfl rfl ?_ | refine wl_lenO 6 hS3 Tryz.underlying69 rfl rfl rfl ?_ | refine wl_lenO 7 hS3 Tryz.underlying69 rfl rfl rfl ?_ | refine wl_lenO 8 hS3 Tryz.underlying69 rfl rfl rfl ?_
  refine wl_lss rfl rfl rfl ?_
  refine wl_nil ?_
  refine qs_seq ?_
  refine wc_condD rfl (fun h4 => ?_) (fun h4 => ?_)
  · skip
    obtain ⟨y, hy⟩ : ∃ y, d[i]? = some y := ⟨_, List.getElem?_eq_getElem (by omega)⟩
    refine wc_skip ?_
    refine qs_seq ?_
    refine wc_seq ?_
    refine wc_block ?_
    refine wc_region ?_
    refine wl_move rfl rfl ?_
    refine wl_move rfl rfl ?_
    refine wl_rowIdx byC 0 i hS3 rfl rfl rfl (by first | rfl | omega) hy es_69 rfl ?_
    intro bx5 capx5 hvx5
    refine wl_rowStore 0 i 0 hS3 rfl hvx5 rfl rfl sz_5 (by first | rfl | (simp; done)) (by first | omega | exact (List.getElem?_eq_some_iff.1 hy).1) ?_
    intro w6 hS7; dsimp only [List.set] at hS7
    clear hS3
    refine wl_nil ?_
    refine qs_block_normal ?_
    refine qs_seq ?_
    refine wc_region ?_
    refine wl_move rfl rfl ?_
    refine wl_add rfl rfl (by omega) (by omega) rfl ?_
    refine wl_assign rfl rfl ?_
    refine wl_nil ?_
    exact qs_round (L1 := [(4, _), (5, intV ((i + 1 : Nat) : Int))]) (.cons rfl (.cons rfl .nil)) (k1 := 16384 - (i + 1)) (by omega) ⟨i + 1, d.set i 0, rfl, rfl, hS7.pick [0, 1, 2, 3, 4, 5, 6, 7, 8, 9] rfl, by omega, by rw [List.length_set]; exact hdl, fun k hk => by rw [List.getElem?_set]; split; (rw [if_pos (by omega)]); exact hd k (by omega)⟩
  · skip
    refine wc_exit ?_
    refine qs_then_exit ?_
    refine qs_then_exit ?_
    refine qs_block_exit ?_
    refine fin0 (.inl rfl) rfl ?_
    subst hxn; exact ⟨_, rfl, rfl, _, hO1.drop hx hdl (fun k hk => hd k (by omega)), by rw [List.length_set]; exact hn1, full_put hx (hS3.pick [0, 2, 3, 4, 5, 6, 1, 7, 8, 9] rfl)⟩

end Go.Proofs.YtieelilkkpcmdaaGreatDoor
