/- reference 15: Byte, SetByte, Drop, Log, Text -/
import Derived.Test.YtdkfppcafpjomaaGreatDoorRx2
namespace Go.Proofs.YtdkfppcafpjomaaGreatDoor
open Go.RowKit M
set_option linter.unusedVariables false
theorem full_put {w : World} {As : List Th} {p : Nat} {Z : List (Bs × Bs)} {O : List ObD} {G : List (Bs × Bs)} {t : Int} {kv vv nv sv lv tv : Value} {j : Nat} {x : ObD} {d : Bs} (hx : O[j]? = some x) (h : Sat w (rowT byC (slV x) d :: blkT p [kv, vv, nv, sv, lv, tv, intV t] :: rowT stC kv (Z.map (·.1)) :: rowT stC vv (Z.map (·.2)) :: rowT stC nv (O.map (·.name)) :: rowT slC sv O :: starL ((O.eraseIdx j).map obT) :: rowT stC lv (G.map (·.1)) :: rowT stC tv (G.map (·.2)) :: As)) : Sat w (fullT p Z (O.set j { x with data := d }) G t :: As) := by
  have hl := (List.getElem?_eq_some_iff.1 hx).1
  have hm : (O.set j { x with data := d }).map (·.name) = O.map (·.name) := by
    refine List.ext_getElem? fun k => ?_
    rw [List.getElem?_map, List.getElem?_map, List.getElem?_set]
    split
    · rename_i e; subst e; rw [hx]; rfl
    · rfl
  have hs : (O.set j { x with data := d }).map slV = O.map slV := by
    refine List.ext_getElem? fun k => ?_
    rw [List.getElem?_map, List.getElem?_map, List.getElem?_set]
    split
    · rename_i e; subst e; rw [hx]; rfl
    · rfl
  have hcl : ∀ l : List ObD, slC.cells l = l.map slV := fun l => by
    induction l with
    | nil => rfl
    | cons a l ih => simp only [RowC.cells, List.flatMap_cons, List.map_cons] at ih ⊢; rw [ih]; rfl
  have hr : rowT slC sv (O.set j { x with data := d }) = rowT slC sv O := by
    show ownT sv (O.set j { x with data := d }).length 1 (slC.cells (O.set j { x with data := d })) = ownT sv O.length 1 (slC.cells O)
    rw [List.length_set, hcl, hcl, hs]
  have h1 := h.pull 6 rfl; dsimp only [List.eraseIdx] at h1
  have h2 := obs_in (y := { x with data := d }) hx (h1.pull 1 rfl); dsimp only [List.eraseIdx] at h2
  refine full_shut (kv := kv) (vv := vv) (nv := nv) (sv := sv) (lv := lv) (tv := tv) ?_
  rw [hm, hr]
  exact h2.perm (by
    refine (List.Perm.swap _ _ _).trans (.cons _ ?_)
    refine (List.Perm.swap _ _ _).trans (.cons _ ?_)
    refine (List.Perm.swap _ _ _).trans (.cons _ ?_)
    refine (List.Perm.swap _ _ _).trans (.cons _ ?_)
    exact (List.Perm.swap _ _ _))
def dropF (f : Bs → Int → UInt8) (nm : Bs) : Bs → Int → UInt8 := fun m i => if m = nm then 0 else f m i
theorem ObjR.drop {O : List ObD} {f : Bs → Int → UInt8} (h : ObjR O f) {j : Nat} {x : ObD} (hx : O[j]? = some x) {d : Bs} (hd : d.length = 16384) (hz : ∀ i : Nat, i < 16384 → d[i]? = some 0) : ObjR (O.set j { x with data := d }) (dropF f x.name) :=
  h.upd hx hd (fun m hm i => by unfold dropF; rw [if_neg hm]) (fun i hi => by unfold dropF; rw [if_pos rfl]; exact hz i hi) (fun i _ => by unfold dropF; rw [if_pos rfl])
structure LogR (G : List (Bs × Bs)) (c : Bs → Bs) : Prop where
  nd : (G.map (·.1)).Nodup
  val : ∀ x ∈ G, c x.1 = x.2
  none : ∀ k, k ∉ G.map (·.1) → c k = []
theorem LogR.at {G : List (Bs × Bs)} {c : Bs → Bs} (h : LogR G c) {j : Nat} {k : Bs} (hj : (G.map (·.1))[j]? = some k) : (G.map (·.2))[j]? = some (c k) := by
  rw [List.getElem?_map] at hj ⊢
  obtain ⟨x, hx, rfl⟩ := Option.map_eq_some_iff.1 hj
  rw [hx, h.val x (List.mem_of_getElem? hx)]; rfl
def addC (c : Bs → Bs) (k s : Bs) : Bs → Bs := fun m => if m = k then c k ++ s else c m
theorem LogR.add {G : List (Bs × Bs)} {c : Bs → Bs} (h : LogR G c) {k : Bs} (hk : k ∉ G.map (·.1)) (s : Bs) : LogR (G ++ [(k, s)]) (addC c k s) := by
  refine ⟨?_, fun x hx => ?_, fun m hm => ?_⟩
  · rw [List.map_append, List.nodup_append]
    exact ⟨h.nd, by simp, fun a ha b hb => by simp at hb; subst hb; exact fun e => hk (e ▸ ha)⟩
  · rcases List.mem_append.1 hx with hx | hx
    · unfold addC; rw [if_neg (fun e => hk (by rw [← e]; exact List.mem_map.2 ⟨x, hx, rfl⟩))]; exact h.val x hx
    · simp at hx; subst hx; unfold addC; rw [if_pos rfl, h.none k hk]; rfl
  · rw [List.map_append, List.mem_append] at hm
    unfold addC; rw [if_neg (fun e => hm (.inr (by simp [e])))]; exact h.none m (fun e => hm (.inl e))
theorem LogR.upd {G : List (Bs × Bs)} {c : Bs → Bs} (h : LogR G c) {j : Nat} {k : Bs} (hj : (G.map (·.1))[j]? = some k) (s : Bs) : ∃ G', G'.map (·.1) = G.map (·.1) ∧ G'.map (·.2) = (G.map (·.2)).set j (c k ++ s) ∧ LogR G' (addC c k s) := by
  rw [List.getElem?_map] at hj
  obtain ⟨x, hx, rfl⟩ := Option.map_eq_some_iff.1 hj
  have hl := (List.getElem?_eq_some_iff.1 hx).1
  have hm : (G.set j (x.1, c x.1 ++ s)).map (·.1) = G.map (·.1) := by
    refine List.ext_getElem? fun k => ?_
    rw [List.getElem?_map, List.getElem?_map, List.getElem?_set]
    split
    · rename_i e; subst e; rw [hx]; rfl
    · rfl
  refine ⟨G.set j (x.1, c x.1 ++ s), hm, by rw [List.map_set], ⟨by rw [hm]; exact h.nd, fun y hy => ?_, fun m hm2 => ?_⟩⟩
  · obtain ⟨k, hk⟩ := List.mem_iff_getElem?.1 hy
    rw [List.getElem?_set] at hk
    split at hk
    · have := (Option.some.inj hk).symm; subst this; unfold addC; rw [if_pos rfl]
    · rename_i e
      have hne : y.1 ≠ x.1 := fun q => by
        have h1 : (G.map (·.1))[j]? = some x.1 := by rw [List.getElem?_map, hx]; rfl
        have h2 : (G.map (·.1))[k]? = some x.1 := by rw [List.getElem?_map, hk, ← q]; rfl
        exact e ((List.getElem?_inj (List.getElem?_eq_some_iff.1 h1).1 h.nd).1 (by rw [h1, h2]))
      unfold addC; rw [if_neg hne]; exact h.val y (List.mem_of_getElem? hk)
  · rw [hm] at hm2
    unfold addC; rw [if_neg (fun e => hm2 (by rw [e]; exact List.mem_map.2 ⟨x, List.mem_of_getElem? hx, rfl⟩))]; exact h.none m hm2
set_option maxRecDepth 100000 in
theorem fText_sp {w : World} {p : Nat} {Z : List (Bs × Bs)} {O : List ObD} {G : List (Bs × Bs)} {t : Int} {F : Th} (hS : Sat w [fullT p Z O G t, F]) {cl : Bs → Bs} (hG : LogR G cl) (hn : G.length ≤ 100000) (nm : Bs) :
    Calls Tryz.prog 18 #[ptrV p 0, strV nm] w (Ret fun v w' => v = strV (cl nm) ∧ Sat w' [fullT p Z O G t, F]) := by
  obtain ⟨kv, vv, nv, sv, lv, tv, hS⟩ := full_open hS
  refine calls_enter Tryz.func18 rfl Tryz.ntmps18 rfl ?_
  refine wc_seq ?_
  refine wc_region ?_
  refine wl_assign rfl rfl ?_
  refine wl_nil ?_
  refine qs_seq ?_
  refine wc_seq ?_
  refine wc_region ?_
  refine wl_move rfl rfl ?_
  refine wl_nilCheck rfl rfl ?_
  refine wl_fieldAddr rfl fo_30_4 rfl ?_
  refine wl_load rfl ag_27 (by first | assumption | exact hS.cell 0 rfl rfl | exact hS.cell 5 rfl rfl) rfl ?_
  refine wl_move rfl rfl ?_
  have hC1 := hS.split [] [false, false, false, false, false, false, false, false, false] rfl; dsimp only [selF, pickA, nthA, List.cons_append, List.nil_append] at hC1
  refine wl_call cal_54 rfl (index_sp hC1 (Ent.starL (ent_row (C := stC) (l := G.map (·.1)) (by simp; omega)) 6 rfl) nm) rfl ?_
  rintro e w1 ⟨_, rfl, i, rfl, hix, hS1⟩; refine ⟨_, rfl, ?_⟩
  replace hS1 := hS1.join rfl; dsimp only [List.dropLast, List.cons_append, List.nil_append] at hS1; clear hC1
  refine wl_assign rfl rfl ?_
  refine wl_nil ?_
  refine qs_seq ?_
  refine wc_seq ?_
  refine wc_seq ?_
  refine wc_region ?_
  refine wl_move rfl rfl ?_
  refine wl_lss rfl rfl rfl ?_
  refine wl_nil ?_
  refine qs_seq ?_
  refine wc_sub (L' := [(13, _), (5, _), (4, _), (0, _)]) (.cons rfl (.cons rfl (.cons rfl (.cons rfl .nil)))) ?_
  refine wc_condD rfl (fun h2 => ?_) (fun h2 => ?_)
  · skip
    refine wc_seq ?_
    refine wc_region ?_
    refine wl_assign rfl rfl ?_
    refine wl_nil ?_
    refine qs_seq ?_
    refine wc_ret ?_
    refine qs_then_ret ?_
    refine fin1 (.inr rfl) rfl rfl ?_
    have hnm : nm ∉ G.map (·.1) := by rcases hix with ⟨_, q⟩ | ⟨j, q, _⟩; exact q; omega
    exact ⟨_, rfl, by rw [hG.none nm hnm], full_shut hS1⟩
  · skip
    obtain ⟨j, rfl, hj⟩ : ∃ j : Nat, i = (j : Int) ∧ (G.map (·.1))[j]? = some nm := by rcases hix with ⟨q, _⟩ | q; omega; exact q
    have hcj := hG.at hj
    refine wc_skip ?_
    refine qs_seq ?_
    refine wc_seq ?_
    refine wc_region ?_
    refine wl_move rfl rfl ?_
    refine wl_nilCheck rfl rfl ?_
    refine wl_fieldAddr rfl fo_30_5 rfl ?_
    refine wl_load rfl ag_27 (by first | assumption | exact hS1.cell 0 rfl rfl | exact hS1.cell 5 rfl rfl) rfl ?_
    refine wl_move rfl rfl ?_
    refine wl_rowIdx stC 7 j hS1 rfl rfl rfl (by first | rfl | omega) hcj es_27 rfl ?_
    intro bx3 capx3 hvx3
    refine wl_rowLoad 7 j 0 hS1 rfl hvx3 rfl rfl hcj ag_9 rfl rfl ?_
    refine wl_assign rfl rfl ?_
    refine wl_nil ?_
    refine qs_seq ?_
    refine wc_sub (L' := [(4, _)]) (.cons rfl .nil) ?_
    refine wc_ret ?_
    refine fin1 (.inr rfl) rfl rfl ?_
    exact ⟨_, rfl, rfl, full_shut hS1⟩

set_option maxRecDepth 100000 in
theorem fLog_sp {w : World} {p : Nat} {Z : List (Bs × Bs)} {O : List ObD} {G : List (Bs × Bs)} {t : Int} {F : Th} (hS : Sat w [fullT p Z O G t, F]) {cl : Bs → Bs} (hG : LogR G cl) (hn : G.length ≤ 100000) (nm s : Bs) (hsl : (cl nm).length ≤ 1000000) (hs : s.length ≤ 1000000) :
    Calls Tryz.prog 37 #[ptrV p 0, strV nm, strV s] w (Ret fun v w' => v = .tuple #[] ∧ ∃ G', LogR G' (addC cl nm s) ∧ G'.length ≤ G.length + 1 ∧ Sat w' [fullT p Z O G' t, F]) := by
  obtain ⟨kv, vv, nv, sv, lv, tv, hS⟩ := full_open hS
  refine calls_enter Tryz.func37 rfl Tryz.ntmps37 rfl ?_
  refine wc_seq ?_
  refine wc_region ?_
  refine wl_move rfl rfl ?_
  refine wl_nilCheck rfl rfl ?_
  refine wl_fieldAddr rfl fo_30_4 rfl ?_
  refine wl_load rfl ag_27 (by first | assumption | exact hS.cell 0 rfl rfl | exact hS.cell 5 rfl rfl) rfl ?_
  refine wl_move rfl rfl ?_
  have hC1 := hS.split [] [false, false, false, false, false, false, false, false, false] rfl; dsimp only [selF, pickA, nthA, List.cons_append, List.nil_append] at hC1
  refine wl_call cal_54 rfl (index_sp hC1 (Ent.starL (ent_row (C := stC) (l := G.map (·.1)) (by simp; omega)) 6 rfl) nm) rfl ?_
  rintro e w1 ⟨_, rfl, i, rfl, hix, hS1⟩; refine ⟨_, rfl, ?_⟩
  replace hS1 := hS1.join rfl; dsimp only [List.dropLast, List.cons_append, List.nil_append] at hS1; clear hC1
  refine wl_assign rfl rfl ?_
  refine wl_nil ?_
  refine qs_seq ?_
  refine wc_seq ?_
  refine wc_seq ?_
  refine wc_region ?_
  refine wl_move rfl rfl ?_
  refine wl_geq rfl rfl rfl ?_
  refine wl_nil ?_
  refine qs_seq ?_
  refine wc_sub (L' := [(14, _), (6, _), (0, _), (1, _), (2, _)]) (.cons rfl (.cons rfl (.cons rfl (.cons rfl (.cons rfl .nil))))) ?_
  refine wc_condD rfl (fun h2 => ?_) (fun h2 => ?_)
  · skip
    obtain ⟨j, rfl, hj⟩ : ∃ j : Nat, i = (j : Int) ∧ (G.map (·.1))[j]? = some nm := by rcases hix with ⟨q, _⟩ | q; omega; exact q
    have hcj := hG.at hj
    obtain ⟨G2, h1, h2, hG2⟩ := hG.upd hj s
    refine wc_seq ?_
    obtain ⟨tb, tcap, rfl, _⟩ := hS1.own_at 7 rfl (by have := (List.getElem?_eq_some_iff.1 hcj).1; omega)
    have hS3 := hS1.drew
    refine wc_draw [0, 1, 2, 3, 4, 5, 6, 7, 8, 9, 10, 11, 12, 13, 14, 15] [15] mix (by kernel_rfl) ?_
    refine vc_p rfl rfl rfl (fun _ => (ev_move rfl)) ?_
    refine vc_p rfl rfl rfl (fun _ => (ev_nilCheck rfl)) ?_
    refine vc_p rfl rfl rfl (fun _ => (ev_fieldAddr rfl fo_30_5)) ?_
    refine vc_q rfl rfl rfl (ev_load rfl ag_27 (by first | assumption | exact hS3.cell 0 rfl rfl | exact hS3.cell 5 rfl rfl)) ?_
    refine vc_p rfl rfl rfl (fun _ => (ev_move rfl)) ?_
    refine vc_p rfl rfl rfl (fun _ => (ev_move rfl)) ?_
    refine vc_p rfl rfl rfl (fun _ => (ev_nilCheck rfl)) ?_
    refine vc_p rfl rfl rfl (fun _ => (ev_fieldAddr rfl fo_30_5)) ?_
    refine vc_q rfl rfl rfl (ev_load rfl ag_27 (by first | assumption | exact hS3.cell 0 rfl rfl | exact hS3.cell 5 rfl rfl)) ?_
    refine vc_p rfl rfl rfl (fun _ => (ev_move rfl)) ?_
    refine vc_p rfl rfl rfl (fun _ => (ev_indexAddr j rfl rfl (by first | rfl | omega) (by first | omega | exact (List.getElem?_eq_some_iff.1 hcj).1) es_27)) ?_
    refine vc_q rfl rfl rfl (ev_rowLoad0 stC 7 j 0 hS3 rfl hcj ag_9 rfl rfl) ?_
    refine vc_p rfl rfl rfl (fun _ => (ev_move rfl)) ?_
    refine vc_p rfl rfl rfl (fun _ => (ev_concat rfl rfl (by omega))) ?_
    refine vc_p rfl rfl rfl (fun _ => (ev_indexAddr j rfl rfl (by first | rfl | omega) (by first | omega | exact (List.getElem?_eq_some_iff.1 hcj).1) es_27)) ?_
    refine vc_s rfl rfl rfl rfl rfl rfl ?_
    refine wl_rowStore 7 j (cl nm ++ s) hS3 rfl rfl (by have e : j * stC.size = 0 + j * 1 := (Nat.zero_add _).symm; rw [e]; rfl) rfl sz_9 (by first | rfl | (simp; done)) (List.getElem?_eq_some_iff.1 hcj).1 ?_
    intro w4 hS4; dsimp only [List.set] at hS4
    clear hS3
    refine vc_e0 (.skip (by kernel_rfl) (.skip (by kernel_rfl) (.skip (by kernel_rfl) .nil))) ?_
    refine VC.nil ?_
    refine qs_seq ?_
    refine wc_sub (L' := [(0, _), (1, _), (2, _)]) (.cons rfl (.cons rfl (.cons rfl .nil))) ?_
    refine wc_ret ?_
    refine qs_then_ret ?_
    refine fin0 (.inr rfl) rfl ?_
    exact ⟨_, rfl, rfl, G2, hG2, by have := congrArg List.length h1; simp at this; omega, full_shut (by rw [h1, h2]; exact hS4)⟩
  · skip
    have hnm : nm ∉ G.map (·.1) := by rcases hix with ⟨_, q⟩ | ⟨j, q, _⟩; exact q; omega
    refine wc_skip ?_
    refine qs_seq ?_
    refine wc_seq ?_
    refine wc_region ?_
    refine wl_move rfl rfl ?_
    refine wl_move rfl rfl ?_
    refine wl_nilCheck rfl rfl ?_
    refine wl_fieldAddr rfl fo_30_4 rfl ?_
    refine wl_load rfl ag_27 (by first | assumption | exact hS1.cell 0 rfl rfl | exact hS1.cell 5 rfl rfl) rfl ?_
    refine wl_move rfl rfl ?_
    refine wl_rowBuild stC [nm] hS1 rfl Tryz.underlying27 ifz_9 rfl rfl rfl rfl (by first | rfl | simp [RowC.cells, fillL, splice]) rfl ?_
    intro b5 w5 hS5
    clear hS1
    refine wl_rowApp stC 7 hS5 rfl rfl rfl (hS5.rd 0 rfl (by simp)) Tryz.underlying27 Tryz.underlying27 (by intro k hk; cases hk) ifo_9 rfl (by simp; omega) rfl (by simp; omega) ?_
    intro v6 w6 hS6; dsimp only [List.set] at hS6
    clear hS5
    have h1v6 : v6.oneCell' = true := hS6.own_one 7 rfl
    refine wl_nilCheck rfl rfl ?_
    refine wl_fieldAddr rfl fo_30_4 rfl ?_
    refine wl_store hS6 rfl rfl sz_27 (by first | rfl | assumption) (i := 1) rfl (by simp) ?_
    intro w7 hS7; dsimp only [List.set] at hS7
    clear hS6
    refine wl_nil ?_
    refine qs_seq ?_
    refine wc_sub (L' := [(0, _), (2, _)]) (.cons rfl (.cons rfl .nil)) ?_
    refine wc_region ?_
    refine wl_move rfl rfl ?_
    refine wl_move rfl rfl ?_
    refine wl_nilCheck rfl rfl ?_
    refine wl_fieldAddr rfl fo_30_5 rfl ?_
    refine wl_load rfl ag_27 (by first | assumption | exact hS7.cell 1 rfl rfl | exact hS7.cell 6 rfl rfl) rfl ?_
    refine wl_move rfl rfl ?_
    refine wl_rowBuild stC [s] hS7 rfl Tryz.underlying27 ifz_9 rfl rfl rfl rfl (by first | rfl | simp [RowC.cells, fillL, splice]) rfl ?_
    intro b8 w8 hS8
    clear hS7
    refine wl_rowApp stC 9 hS8 rfl rfl rfl (hS8.rd 0 rfl (by simp)) Tryz.underlying27 Tryz.underlying27 (by intro k hk; cases hk) ifo_9 rfl (by simp; omega) rfl (by simp; omega) ?_
    intro v9 w9 hS9; dsimp only [List.set] at hS9
    clear hS8
    have h1v9 : v9.oneCell' = true := hS9.own_one 9 rfl
    refine wl_nilCheck rfl rfl ?_
    refine wl_fieldAddr rfl fo_30_5 rfl ?_
    refine wl_store hS9 rfl rfl sz_27 (by first | rfl | assumption) (i := 2) rfl (by simp) ?_
    intro w10 hS10; dsimp only [List.set] at hS10
    clear hS9
    refine wl_nil ?_
    refine fin0 (.inl rfl) rfl ?_
    exact ⟨_, rfl, rfl, G ++ [(nm, s)], hG.add hnm s, by simp, full_shut (by simp only [List.map_append, List.map_cons, List.map_nil]; exact hS10.pick [2, 3, 4, 5, 6, 7, 8, 9, 10] rfl)⟩

end Go.Proofs.YtdkfppcafpjomaaGreatDoor
