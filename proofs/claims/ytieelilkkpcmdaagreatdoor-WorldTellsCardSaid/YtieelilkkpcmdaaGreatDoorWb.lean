/- world: pages -/
import Derived.Test.YtieelilkkpcmdaaGreatDoorWa
import Derived.Test.YtieelilkkpcmdaaGreatDoorFw
namespace Go.Proofs.YtieelilkkpcmdaaGreatDoor
open Go.RowKit M
set_option linter.unusedVariables false
section
variable {w : World} {p : Nat} {W : WS} {LL : WL} {Lo : List (Bs × Nat)} {F : Th} {n : Bs} {m im : Nat} {O' : Bs → Int → Option Bs}
theorem world_shut (hI : PagesOk O') (L' : List (Bs × Nat)) (hO : ObjL L' O') (h : Sat w [mapT strK LL.bo (namesG L'), starL (L'.map (thOf O')), blkT p (cellsW LL W.time), mapT strK LL.bc (cellsG W.cells), mapT strK LL.bl (cellsG W.logs), F]) : Sat w [worldT p { W with objs := O' }, F] := by
  have h1 := objsT_shut L' hO h
  exact worldT_shut (W := { W with objs := O' }) LL hI (h1.reorder [1, 2, 0, 3, 4] rfl)
theorem world_same (hI : PagesOk W.objs) (hO : ObjL Lo W.objs) (h : Sat w [mapT strK LL.bo (namesG Lo), starL (Lo.map (thOf W.objs)), blkT p (cellsW LL W.time), mapT strK LL.bc (cellsG W.cells), mapT strK LL.bl (cellsG W.logs), F]) : Sat w [worldT p W, F] := world_shut (W := W) hI Lo hO h
theorem world_back (hI : PagesOk O') (hN : (Lo.map (·.1)).Nodup) (hO : ObjL Lo O') (him : Lo[im]? = some (n, m)) (ho : ∀ k, k ≠ n → O' k = W.objs k) (h : Sat w [mapT intK m (pagesG (O' n)), starL ((Lo.map (thOf W.objs)).eraseIdx im), mapT strK LL.bo (namesG Lo), blkT p (cellsW LL W.time), mapT strK LL.bc (cellsG W.cells), mapT strK LL.bl (cellsG W.logs), F]) : Sat w [worldT p { W with objs := O' }, F] := by
  rw [thOf_set hN him ho] at h
  have h1 := big_perm (big_in (i := 0) h) (perm_back (x := (n, m)) him (thOf O'))
  exact world_shut hI Lo hO (h1.perm (List.Perm.swap _ _ _))
theorem world_back0 (hI : PagesOk W.objs) (hO : ObjL Lo W.objs) (him : Lo[im]? = some (n, m)) (h : Sat w [mapT intK m (pagesG (W.objs n)), starL ((Lo.map (thOf W.objs)).eraseIdx im), mapT strK LL.bo (namesG Lo), blkT p (cellsW LL W.time), mapT strK LL.bc (cellsG W.cells), mapT strK LL.bl (cellsG W.logs), F]) : Sat w [worldT p W, F] :=
  world_back (W := W) hI hO.nodup hO him (fun _ _ => rfl) h
theorem namesG_cons (b : Nat) : upd (namesG Lo) n (some (.map (some b))) = namesG ((n, b) :: Lo) := by
  funext k
  unfold namesG
  rw [assoc_cons]
  by_cases h : k = n
  · subst h; rw [upd_self]; simp
  · rw [upd_ne h]; simp [h]
theorem namesG_del (hN : (Lo.map (·.1)).Nodup) (him : Lo[im]? = some (n, m)) : upd (namesG Lo) n none = namesG (Lo.eraseIdx im) := by
  funext k
  unfold namesG
  rw [assoc_erase hN him]
  by_cases h : k = n
  · subst h; rw [upd_self]; simp
  · rw [upd_ne h]; simp [h]
theorem namesG_none (h : assoc Lo n = none) : upd (namesG Lo) n none = namesG Lo := by
  funext k
  by_cases hk : k = n
  · subst hk; rw [upd_self]; simp [namesG, h]
  · rw [upd_ne hk]
theorem world_cons {b : Nat} (hI : PagesOk O') (hO : ObjL Lo W.objs) (hq : assoc Lo n = none) (hn : ∃ q, O' n q ≠ none) (ho : ∀ k, k ≠ n → O' k = W.objs k) (h : Sat w [mapT intK b (pagesG (O' n)), mapT strK LL.bo (upd (namesG Lo) n (some (.map (some b)))), starL (Lo.map (thOf W.objs)), blkT p (cellsW LL W.time), mapT strK LL.bc (cellsG W.cells), mapT strK LL.bl (cellsG W.logs), F]) : Sat w [worldT p { W with objs := O' }, F] := by
  rw [namesG_cons] at h
  have hnm := assoc_none.1 hq
  have e : Lo.map (thOf W.objs) = Lo.map (thOf O') := by
    apply List.map_congr_left
    intro x hx
    unfold thOf; rw [ho]
    rintro rfl; exact hnm (List.mem_map.2 ⟨x, hx, rfl⟩)
  rw [e] at h
  have h1 := h.reorder [0, 2, 1, 3, 4, 5, 6] rfl; dsimp only [pickA, nthA] at h1
  have h2 : Sat w (starL (((n, b) :: Lo).map (thOf O')) :: _) := big_in (i := 0) h1
  refine world_shut hI ((n, b) :: Lo) ⟨?_, fun k => ?_⟩ (h2.perm (List.Perm.swap _ _ _))
  · exact List.nodup_cons.2 ⟨hnm, hO.nodup⟩
  · by_cases hk : k = n
    · subst hk; simp [hn]
    · rw [ho k hk, ← hO.has k]; simp [hk]
theorem world_del (hI : PagesOk O') (hO : ObjL Lo W.objs) (him : Lo[im]? = some (n, m)) (hn : ∀ q, O' n q = none) (ho : ∀ k, k ≠ n → O' k = W.objs k) (h : Sat w [starL ((Lo.map (thOf W.objs)).eraseIdx im), mapT strK LL.bo (upd (namesG Lo) n none), blkT p (cellsW LL W.time), mapT strK LL.bc (cellsG W.cells), mapT strK LL.bl (cellsG W.logs), F]) : Sat w [worldT p { W with objs := O' }, F] := by
  rw [thOf_set hO.nodup him ho, namesG_del hO.nodup him] at h
  refine world_shut hI (Lo.eraseIdx im) ⟨hO.nodup.sublist ((List.eraseIdx_sublist Lo im).map _), fun k => ?_⟩ (h.perm (List.Perm.swap _ _ _))
  have hmem : k ∈ (Lo.eraseIdx im).map (·.1) ↔ k ∈ Lo.map (·.1) ∧ k ≠ n := by
    have h1 := assoc_erase hO.nodup him k
    constructor
    · intro hk
      have h2 : assoc (Lo.eraseIdx im) k ≠ none := fun q => assoc_none.1 q hk
      rw [h1] at h2
      by_cases hkn : k = n
      · simp [hkn] at h2
      · rw [if_neg hkn] at h2
        exact ⟨Decidable.not_not.1 fun q => h2 (assoc_none.2 q), hkn⟩
    · rintro ⟨hk, hkn⟩
      refine Decidable.not_not.1 fun q => ?_
      rw [assoc_none.2 q, if_neg hkn] at h1
      exact assoc_none.1 h1.symm hk
  rw [hmem, hO.has]
  by_cases hkn : k = n
  · subst hkn; simp [hn]
  · rw [ho k hkn]; simp [hkn]
theorem obj_none (hO : ObjL Lo W.objs) (hq : assoc Lo n = none) (q : Int) : W.objs n q = none := by
  refine Decidable.not_not.1 fun h => assoc_none.1 hq ((hO.has n).2 ⟨q, h⟩)
theorem obj_some (hO : ObjL Lo W.objs) (him : Lo[im]? = some (n, m)) : ∃ q, W.objs n q ≠ none := (hO.has n).1 (List.mem_map.2 ⟨(n, m), List.mem_of_getElem? him, rfl⟩)
end
theorem page_at {s : Bs} (hs : s.length = 64) {j : Nat} (hj : j < 64) : ((s.map byteV).toArray)[j]? = some (byteV (s.getD j 0)) := by
  have h : s[j]? = some s[j] := List.getElem?_eq_getElem (by omega)
  simp [List.getD, h]
def pageB (W : WS) (n : Bs) (q : Int) : Bs := pageOf (W.objs n q)
theorem pageB_none {W : WS} {n : Bs} (h : ∀ q, W.objs n q = none) (q : Int) : pageB W n q = zero64 := by simp [pageB, pageOf, h]
theorem zr_sheet : zeroOf Tryz.prog 87 = some (some (pageV zero64)) := by kernel_rfl
theorem byte_sp {w : World} {p : Nat} {W : WS} {F : Th} (hS : Sat w [worldT p W, F]) (nm : Bs) (i : Int) :
    Calls Tryz.prog 36 #[ptrV p 0, strV nm, intV i] w (Ret fun v w' => v = byteV (byteW W nm i) ∧ Sat w' [worldT p W, F]) := by
  refine calls_enter Tryz.func36 rfl Tryz.ntmps36 rfl ?_
  refine wc_seq ?_
  refine wc_region ?_
  refine wl_assign rfl rfl ?_
  refine wl_nil ?_
  refine qs_seq ?_
  refine wc_seq ?_
  refine wc_seq ?_
  refine wc_region ?_
  refine wl_move rfl rfl ?_
  have hC1 := hS.split [] [false, false] rfl; dsimp only [selF, pickA, nthA, List.cons_append, List.nil_append] at hC1
  refine wl_call cal_71 rfl (valid_sp hC1 i) rfl ?_
  rintro e w1 ⟨_, rfl, rfl, hS1⟩; refine ⟨_, rfl, ?_⟩
  replace hS1 := hS1.join rfl; dsimp only [List.dropLast, List.cons_append, List.nil_append] at hS1; clear hC1
  refine wl_not rfl rfl ?_
  refine wl_nil ?_
  refine qs_seq ?_
  refine wc_cond rfl (fun h2 => ?_) (fun h2 => ?_)
  · skip
    have hv : ¬ (0 ≤ i ∧ i < 16384) := by have hq := h2; simp at hq; omega
    refine wc_seq ?_
    refine wc_region ?_
    refine wl_assign rfl rfl ?_
    refine wl_nil ?_
    refine qs_seq ?_
    refine wc_ret ?_
    refine qs_then_ret ?_
    refine fin1 (.inr rfl) rfl rfl ?_
    exact ⟨_, rfl, by rw [byteW, if_neg (by simp_all)]; rfl, hS1⟩
  · skip
    have hv : 0 ≤ i ∧ i < 16384 := by simpa using h2
    refine wc_skip ?_
    refine qs_seq ?_
    refine wc_seq ?_
    have hS := hS1
    obtain ⟨LL, hI, hS⟩ := worldT_open hS
    obtain ⟨Lo, hO, hS⟩ := objsT_open (hS.pull 2 rfl); dsimp only [List.eraseIdx] at hS
    refine wc_region ?_
    refine wl_move rfl rfl ?_
    refine wl_nilCheck rfl rfl ?_
    refine wl_fieldAddr rfl fo_63_1 rfl ?_
    refine wl_load rfl ag_61 (by first | assumption | exact hS.cell 1 rfl rfl | exact hS.cell 2 rfl rfl) rfl ?_
    refine wl_move rfl rfl ?_
    rcases hq : assoc Lo nm with _ | m
    · skip
      have hno := obj_none hO hq
      refine wl_lookup (k := nm) 0 hS keysStr Tryz.underlying61 rfl rfl rfl zr_79 (u := .map none) (by simp [namesG, hq]) rfl ?_
      refine wl_move rfl rfl ?_
      refine wl_quo rfl rfl (by omega) (by omega) (by omega) rfl ?_
      refine wl_lookupNil (k := (i / 64)) keysInt Tryz.underlying79 zr_sheet rfl rfl rfl ?_
      rw [← pageB_none hno (i / 64)]
      refine wl_move rfl rfl ?_
      refine wl_rem rfl rfl (by omega) (by omega) rfl ?_
      refine wl_indexA (i % 64).toNat Tryz.underlying87 sz_5 ag_5 (by omega) (by omega) (cs := ((pageB W nm (i / 64)).map byteV).toArray) (v := byteV ((pageB W nm (i / 64)).getD (i % 64).toNat 0)) (page_at (hI.len nm (i / 64)) (by omega)) rfl rfl rfl ?_
      refine wl_assign rfl rfl ?_
      refine wl_nil ?_
      refine qs_seq ?_
      refine wc_sub (L' := [(6, _)]) (.cons rfl .nil) ?_
      refine wc_ret ?_
      refine fin1 (.inr rfl) rfl rfl ?_
      exact ⟨_, rfl, by rw [byteW, if_pos (by simp_all)]; rfl, world_same hI hO (hS.reorder [0, 1, 2, 3, 4, 5] rfl)⟩
    · skip
      obtain ⟨im, him⟩ := assoc_mem hq
      refine wl_lookup (k := nm) 0 hS keysStr Tryz.underlying61 rfl rfl rfl zr_79 (u := .map (some m)) (by simp [namesG, hq]) rfl ?_
      have hS3 := big_out (i := im) (A := thOf W.objs (nm, m)) (hS.pull 1 rfl) (by simp [him]); dsimp only [List.eraseIdx, thOf] at hS3
      refine wl_move rfl rfl ?_
      refine wl_quo rfl rfl (by omega) (by omega) (by omega) rfl ?_
      refine wl_lookup (k := (i / 64)) 0 hS3 keysInt Tryz.underlying79 rfl rfl rfl zr_sheet (u := pageV (pageB W nm (i / 64))) (pagesG_get _ _) rfl ?_
      refine wl_move rfl rfl ?_
      refine wl_rem rfl rfl (by omega) (by omega) rfl ?_
      refine wl_indexA (i % 64).toNat Tryz.underlying87 sz_5 ag_5 (by omega) (by omega) (cs := ((pageB W nm (i / 64)).map byteV).toArray) (v := byteV ((pageB W nm (i / 64)).getD (i % 64).toNat 0)) (page_at (hI.len nm (i / 64)) (by omega)) rfl rfl rfl ?_
      refine wl_assign rfl rfl ?_
      refine wl_nil ?_
      refine qs_seq ?_
      refine wc_sub (L' := [(6, _)]) (.cons rfl .nil) ?_
      refine wc_ret ?_
      refine fin1 (.inr rfl) rfl rfl ?_
      exact ⟨_, rfl, by rw [byteW, if_pos (by simp_all)]; rfl, world_back0 hI hO him (hS3.reorder [0, 1, 2, 3, 4, 5, 6] rfl)⟩

def setS (W : WS) (n : Bs) (q : Int) (s : Bs) : WS := { W with objs := setO W.objs n q s }
theorem setO_ne {O : Bs → Int → Option Bs} {n : Bs} {q : Int} {s : Bs} : ∀ k, k ≠ n → setO O n q s k = O k := by
  intro k hk; funext j; simp [setO, hk]
theorem pagesG_set {O : Bs → Int → Option Bs} {n : Bs} {q : Int} {s : Bs} : pagesG (setO O n q s n) = upd (pagesG (O n)) q (if s = zero64 then none else some (pageV s)) := by
  funext j
  by_cases hj : j = q
  · subst hj; rw [upd_self]; by_cases hs : s = zero64 <;> simp [pagesG, setO, hs]
  · rw [upd_ne hj]; simp [pagesG, setO, hj]
theorem setO_zero_none {O : Bs → Int → Option Bs} {n : Bs} {q : Int} (h : ∀ q, O n q = none) : setO O n q zero64 = O := by
  funext k j
  unfold setO
  split
  · rename_i hc; rw [hc.1, h]; simp
  · rfl
theorem pagesG_none {o : Int → Option Bs} {j : Int} : pagesG o j = none ↔ o j = none := by unfold pagesG; cases o j <;> simp
theorem setS_del {w : World} {p : Nat} {W : WS} {LL : WL} {Lo : List (Bs × Nat)} {F : Th} {n : Bs} {m im : Nat} {q : Int} {s : Bs} (hI : PagesOk W.objs) (hO : ObjL Lo W.objs) (him : Lo[im]? = some (n, m)) (hs : s = zero64) (hq : 0 ≤ q ∧ q < 256)
    (hc : Card (upd (pagesG (W.objs n)) q none) 0) (h : Sat w [starL ((Lo.map (thOf W.objs)).eraseIdx im), mapT strK LL.bo (upd (namesG Lo) n none), blkT p (cellsW LL W.time), mapT strK LL.bc (cellsG W.cells), mapT strK LL.bl (cellsG W.logs), F]) : Sat w [worldT p (setS W n q s), F] := by
  subst hs
  refine world_del (hI.set (by rfl) hq) hO him (fun j => ?_) setO_ne h
  have h1 := hc.zero.1 rfl j
  have e := pagesG_set (O := W.objs) (n := n) (q := q) (s := zero64)
  rw [if_pos rfl] at e
  rw [← e] at h1
  exact pagesG_none.1 h1
theorem setS_some {w : World} {p : Nat} {W : WS} {LL : WL} {Lo : List (Bs × Nat)} {F : Th} {n : Bs} {m im : Nat} {q : Int} {s : Bs} {g : Option Value} (hI : PagesOk W.objs) (hO : ObjL Lo W.objs) (him : Lo[im]? = some (n, m)) (hl : s.length = 64) (hq : 0 ≤ q ∧ q < 256) (hg : g = if s = zero64 then none else some (pageV s))
    (hne : ∃ j, upd (pagesG (W.objs n)) q g j ≠ none) (h : Sat w [mapT intK m (upd (pagesG (W.objs n)) q g), starL ((Lo.map (thOf W.objs)).eraseIdx im), mapT strK LL.bo (namesG Lo), blkT p (cellsW LL W.time), mapT strK LL.bc (cellsG W.cells), mapT strK LL.bl (cellsG W.logs), F]) : Sat w [worldT p (setS W n q s), F] := by
  subst hg
  rw [← pagesG_set] at h hne
  refine world_back (O' := setO W.objs n q s) (hI.set hl hq) hO.nodup ⟨hO.nodup, fun k => ?_⟩ him setO_ne h
  by_cases hk : k = n
  · subst hk
    obtain ⟨j, hj⟩ := hne
    have h1 := (hO.has k).2 (obj_some hO him)
    exact ⟨fun _ => ⟨j, fun e => hj (pagesG_none.2 e)⟩, fun _ => h1⟩
  · rw [setO_ne k hk]; exact hO.has k
theorem setS_cons {w : World} {p : Nat} {W : WS} {LL : WL} {Lo : List (Bs × Nat)} {F : Th} {n : Bs} {b : Nat} {q : Int} {s : Bs} (hI : PagesOk W.objs) (hO : ObjL Lo W.objs) (hno : assoc Lo n = none) (hl : s.length = 64) (hq : 0 ≤ q ∧ q < 256) (hz : s ≠ zero64)
    (h : Sat w [mapT intK b (upd (fun _ => none) q (some (pageV s))), mapT strK LL.bo (upd (namesG Lo) n (some (.map (some b)))), starL (Lo.map (thOf W.objs)), blkT p (cellsW LL W.time), mapT strK LL.bc (cellsG W.cells), mapT strK LL.bl (cellsG W.logs), F]) : Sat w [worldT p (setS W n q s), F] := by
  have e : upd (fun _ => none) q (some (pageV s)) = pagesG (setO W.objs n q s n) := by
    rw [pagesG_set, if_neg hz]
    congr 1
    funext j; exact (pagesG_none.2 (obj_none hO hno j)).symm
  rw [e] at h
  refine world_cons (hI.set hl hq) hO hno ⟨q, ?_⟩ setO_ne h
  simp [setO, hz]
theorem eqg_sheet : Tryz.prog.eqGuardType Tryz.prog.depth 87 = false := by kernel_rfl
theorem set_sp {w : World} {p : Nat} {W : WS} {F : Th} (hS : Sat w [worldT p W, F]) (nm : Bs) (q : Int) (s : Bs) (hk : nm.length ≤ 281474976710656) (hl : s.length = 64) (hqb : 0 ≤ q ∧ q < 256) :
    Calls Tryz.prog 72 #[ptrV p 0, strV nm, intV q, pageV s] w (Ret fun v w' => v = .tuple #[] ∧ Sat w' [worldT p (setS W nm q s), F]) := by
  obtain ⟨LL, hI, hS⟩ := worldT_open hS
  obtain ⟨Lo, hO, hS⟩ := objsT_open (hS.pull 2 rfl); dsimp only [List.eraseIdx] at hS
  refine calls_enter Tryz.func72 rfl Tryz.ntmps72 rfl ?_
  refine wc_seq ?_
  refine wc_region ?_
  refine wl_box hS rfl rfl rfl ?_
  intro b1 w1 hS1
  refine wl_nil ?_
  refine qs_seq ?_
  refine wc_seq ?_
  refine wc_region ?_
  refine wl_move rfl rfl ?_
  refine wl_nilCheck rfl rfl ?_
  refine wl_fieldAddr rfl fo_63_1 rfl ?_
  refine wl_load rfl ag_61 (by first | assumption | exact hS1.cell 0 rfl rfl | exact hS1.cell 2 rfl rfl | exact hS1.cell 3 rfl rfl) rfl ?_
  refine wl_move rfl rfl ?_
  rcases hq : assoc Lo nm with _ | m
  · skip
    have hno := obj_none hO hq
    refine wl_lookup (k := nm) 1 hS1 keysStr Tryz.underlying61 rfl rfl rfl zr_79 (u := .map none) (by simp [namesG, hq]) rfl ?_
    refine wl_assign rfl rfl ?_
    refine wl_nil ?_
    refine qs_seq ?_
    refine wc_sub (L' := [(8, _), (7, _), (0, _), (1, _), (2, _)]) (.cons rfl (.cons rfl (.cons rfl (.cons rfl (.cons rfl .nil))))) ?_
    refine wc_seq ?_
    refine wc_seq ?_
    refine wc_region ?_
    refine wl_loadA (cs := (pageV s).cells.toList) rfl ag_87 sz_87 (hS1.blk 0 rfl) (by simp [pageV, Value.cells, hl]) (vs := s.map byteV) (by simp only [pageV, Value.cells, List.drop_zero]; exact List.take_of_length_le (by simp [hl])) rfl ?_
    refine wl_buildZ Tryz.underlying87 sz_5 zr_sheet rfl ?_
    refine wl_eqlArr s zero64 Tryz.underlying87 Tryz.underlying5 sz_5 ag_5 eqg_sheet hl rfl rfl rfl rfl ?_
    refine wl_nil ?_
    refine qs_seq ?_
    refine wc_condD rfl (fun h3 => ?_) (fun h3 => ?_)
    · skip
      have hz : s = zero64 := h3
      refine wc_seq ?_
      refine wc_region ?_
      refine wl_move rfl rfl ?_
      refine wl_move rfl rfl ?_
      refine wl_deleteNil (k := q) keysInt Tryz.underlying79 rfl rfl rfl ?_
      refine wl_nil ?_
      refine qs_seq ?_
      refine wc_seq ?_
      refine wc_seq ?_
      refine wc_region ?_
      refine wl_move rfl rfl ?_
      refine wl_lenMN Tryz.underlying79 rfl rfl ?_
      refine wl_eql rfl rfl rfl ?_
      refine wl_nil ?_
      refine qs_seq ?_
      refine wc_sub (L' := [(22, _), (8, _), (7, _), (0, _), (1, _), (2, _)]) (.cons rfl (.cons rfl (.cons rfl (.cons rfl (.cons rfl (.cons rfl .nil)))))) ?_
      refine wc_condD rfl (fun h4 => ?_) (fun h4 => ?_)
      · skip
        refine wc_region ?_
        refine wl_move rfl rfl ?_
        refine wl_nilCheck rfl rfl ?_
        refine wl_fieldAddr rfl fo_63_1 rfl ?_
        refine wl_load rfl ag_61 (by first | assumption | exact hS1.cell 0 rfl rfl | exact hS1.cell 2 rfl rfl | exact hS1.cell 3 rfl rfl) rfl ?_
        refine wl_move rfl rfl ?_
        refine wl_delete (k := nm) 1 hS1 keysStr Tryz.underlying61 rfl rfl rfl rfl ?_
        intro w5 hS5; dsimp only [List.set] at hS5
        clear hS1
        refine wl_nil ?_
        refine qs_seq ?_
        refine wc_sub (L' := [(8, _), (7, _), (0, _), (1, _), (2, _)]) (.cons rfl (.cons rfl (.cons rfl (.cons rfl (.cons rfl .nil))))) ?_
        refine wc_ret ?_
        refine qs_then_ret ?_
        refine fin0 (.inr rfl) rfl ?_
        rw [show upd (namesG Lo) nm none = namesG Lo from namesG_none hq] at hS5
        exact ⟨_, rfl, rfl, by rw [show setS W nm q s = W by rw [setS, hz, setO_zero_none hno]]; exact world_same hI hO (hS5.pick [1, 2, 3, 4, 5, 6] rfl)⟩
      · skip
        refine wc_skip ?_
        refine qs_seq ?_
        refine wc_ret ?_
        refine qs_then_ret ?_
        refine fin0 (.inr rfl) rfl ?_
        exact ⟨_, rfl, rfl, by rw [show setS W nm q s = W by rw [setS, hz, setO_zero_none hno]]; exact world_same hI hO (hS1.pick [1, 2, 3, 4, 5, 6] rfl)⟩
    · skip
      have hz : s ≠ zero64 := h3
      refine wc_skip ?_
      refine qs_seq ?_
      refine wc_seq ?_
      refine wc_seq ?_
      refine wc_region ?_
      refine wl_move rfl rfl ?_
      refine wl_eqlMapNilNil Tryz.underlying79 rfl rfl rfl ?_
      refine wl_nil ?_
      refine qs_seq ?_
      refine wc_condT rfl ?_
      refine wc_seq ?_
      refine wc_region ?_
      refine wl_makeMap intK hS1 rfl ?_
      intro b6 w6 hS6
      clear hS1
      refine wl_assign rfl rfl ?_
      refine wl_nil ?_
      refine qs_seq ?_
      refine wc_sub (L' := [(8, _), (7, _), (0, _), (1, _), (2, _)]) (.cons rfl (.cons rfl (.cons rfl (.cons rfl (.cons rfl .nil))))) ?_
      have hS7 := hS6.drew
      refine wc_draw [0, 1, 2, 3, 4, 6, 5, 7] [5, 7] mix (by kernel_rfl) ?_
      refine vc_p rfl rfl rfl (fun _ => (ev_move rfl)) ?_
      refine vc_p rfl rfl rfl (fun _ => (ev_nilCheck rfl)) ?_
      refine vc_p rfl rfl rfl (fun _ => (ev_fieldAddr rfl fo_63_1)) ?_
      refine vc_q rfl rfl rfl (ev_load rfl ag_61 (by first | assumption | exact hS7.cell 1 rfl rfl | exact hS7.cell 3 rfl rfl | exact hS7.cell 4 rfl rfl)) ?_
      refine vc_p rfl rfl rfl (fun _ => (ev_move rfl)) ?_
      refine vc_p rfl rfl rfl (fun _ => (ev_move rfl)) ?_
      refine vc_s rfl rfl rfl rfl rfl rfl ?_
      have hC8 := hS7.split [] [false, false, false, false, false, false, false, false] rfl; dsimp only [selF, pickA, nthA, List.cons_append, List.nil_append] at hC8
      refine wl_call cal_60 rfl (clone_sp hC8 nm hk) rfl ?_
      rintro e w8 ⟨_, rfl, rfl, hS8⟩; refine ⟨_, rfl, ?_⟩
      replace hS8 := hS8.join rfl; dsimp only [List.dropLast, List.cons_append, List.nil_append] at hS8; clear hC8
      clear hS7
      refine vc_e (.cons (.inl ⟨rfl, (ev_load rfl ag_61 (by first | assumption | exact hS8.cell 1 rfl rfl | exact hS8.cell 3 rfl rfl | exact hS8.cell 4 rfl rfl))⟩) .nil) ?_
      refine vc_s rfl rfl rfl rfl rfl rfl ?_
      first | refine wl_mapUpdate (k := nm) 0 hS8 keysStr Tryz.underlying61 rfl rfl rfl rfl ?_ | refine wl_mapUpdate (k := nm) 2 hS8 keysStr Tryz.underlying61 rfl rfl rfl rfl ?_ | refine wl_mapUpdate (k := nm) 5 hS8 keysStr Tryz.underlying61 rfl rfl rfl rfl ?_ | refine wl_mapUpdate (k := nm) 6 hS8 keysStr Tryz.underlying61 rfl rfl rfl rfl ?_
      intro w9 hS9; dsimp only [List.set] at hS9
      clear hS8
      refine vc_e0 (.skip (by kernel_rfl) .nil) ?_
      refine VC.nil ?_
      refine qs_seq ?_
      refine wc_sub (L' := [(8, _), (7, _), (2, _)]) (.cons rfl (.cons rfl (.cons rfl .nil))) ?_
      refine wc_region ?_
      refine wl_move rfl rfl ?_
      refine wl_move rfl rfl ?_
      refine wl_loadA (cs := (pageV s).cells.toList) rfl ag_87 sz_87 (hS9.blk 1 rfl) (by simp [pageV, Value.cells, hl]) (vs := s.map byteV) (by simp only [pageV, Value.cells, List.drop_zero]; exact List.take_of_length_le (by simp [hl])) rfl ?_
      first | refine wl_mapUpdate (k := q) 0 hS9 keysInt Tryz.underlying79 rfl rfl rfl rfl ?_ | refine wl_mapUpdate (k := q) 2 hS9 keysInt Tryz.underlying79 rfl rfl rfl rfl ?_ | refine wl_mapUpdate (k := q) 5 hS9 keysInt Tryz.underlying79 rfl rfl rfl rfl ?_ | refine wl_mapUpdate (k := q) 6 hS9 keysInt Tryz.underlying79 rfl rfl rfl rfl ?_
      intro w10 hS10; dsimp only [List.set] at hS10
      clear hS9
      refine wl_nil ?_
      refine fin0 (.inl rfl) rfl ?_
      exact ⟨_, rfl, rfl, setS_cons hI hO hq hl hqb hz (hS10.pick [0, 2, 3, 4, 5, 6, 7] rfl)⟩
  · skip
    obtain ⟨im, him⟩ := assoc_mem hq
    refine wl_lookup (k := nm) 1 hS1 keysStr Tryz.underlying61 rfl rfl rfl zr_79 (u := .map (some m)) (by simp [namesG, hq]) rfl ?_
    have hS2 := big_out (i := im) (A := thOf W.objs (nm, m)) (hS1.pull 2 rfl) (by simp [him]); dsimp only [List.eraseIdx, thOf] at hS2
    clear hS1
    refine wl_assign rfl rfl ?_
    refine wl_nil ?_
    refine qs_seq ?_
    refine wc_sub (L' := [(8, _), (7, _), (0, _), (1, _), (2, _)]) (.cons rfl (.cons rfl (.cons rfl (.cons rfl (.cons rfl .nil))))) ?_
    refine wc_seq ?_
    refine wc_seq ?_
    refine wc_region ?_
    refine wl_loadA (cs := (pageV s).cells.toList) rfl ag_87 sz_87 (hS2.blk 2 rfl) (by simp [pageV, Value.cells, hl]) (vs := s.map byteV) (by simp only [pageV, Value.cells, List.drop_zero]; exact List.take_of_length_le (by simp [hl])) rfl ?_
    refine wl_buildZ Tryz.underlying87 sz_5 zr_sheet rfl ?_
    refine wl_eqlArr s zero64 Tryz.underlying87 Tryz.underlying5 sz_5 ag_5 eqg_sheet hl rfl rfl rfl rfl ?_
    refine wl_nil ?_
    refine qs_seq ?_
    refine wc_condD rfl (fun h11 => ?_) (fun h11 => ?_)
    · skip
      have hz : s = zero64 := h11
      refine wc_seq ?_
      refine wc_region ?_
      refine wl_move rfl rfl ?_
      refine wl_move rfl rfl ?_
      refine wl_delete (k := q) 0 hS2 keysInt Tryz.underlying79 rfl rfl rfl rfl ?_
      intro w12 hS12; dsimp only [List.set] at hS12
      clear hS2
      refine wl_nil ?_
      refine qs_seq ?_
      refine wc_seq ?_
      refine wc_seq ?_
      refine wc_region ?_
      refine wl_move rfl rfl ?_
      refine wl_lenM 0 hS12 Tryz.underlying79 keysInt.inj rfl rfl rfl ?_
      intro cn hcn
      refine wl_eql rfl rfl rfl ?_
      refine wl_nil ?_
      refine qs_seq ?_
      refine wc_sub (L' := [(22, _), (8, _), (7, _), (0, _), (1, _), (2, _)]) (.cons rfl (.cons rfl (.cons rfl (.cons rfl (.cons rfl (.cons rfl .nil)))))) ?_
      refine wc_condD rfl (fun h13 => ?_) (fun h13 => ?_)
      · skip
        refine wc_region ?_
        refine wl_move rfl rfl ?_
        refine wl_nilCheck rfl rfl ?_
        refine wl_fieldAddr rfl fo_63_1 rfl ?_
        refine wl_load rfl ag_61 (by first | assumption | exact hS12.cell 1 rfl rfl | exact hS12.cell 2 rfl rfl | exact hS12.cell 4 rfl rfl) rfl ?_
        refine wl_move rfl rfl ?_
        refine wl_delete (k := nm) 3 hS12 keysStr Tryz.underlying61 rfl rfl rfl rfl ?_
        intro w14 hS14; dsimp only [List.set] at hS14
        clear hS12
        refine wl_nil ?_
        refine qs_seq ?_
        refine wc_sub (L' := [(8, _), (7, _), (0, _), (1, _), (2, _)]) (.cons rfl (.cons rfl (.cons rfl (.cons rfl (.cons rfl .nil))))) ?_
        refine wc_ret ?_
        refine qs_then_ret ?_
        refine fin0 (.inr rfl) rfl ?_
        have hc0 : cn = 0 := by omega
        subst hc0
        exact ⟨_, rfl, rfl, setS_del hI hO him hz hqb hcn (hS14.pick [1, 3, 4, 5, 6, 7] rfl)⟩
      · skip
        refine wc_skip ?_
        refine qs_seq ?_
        refine wc_ret ?_
        refine qs_then_ret ?_
        refine fin0 (.inr rfl) rfl ?_
        have hex : ∃ j, upd (pagesG (W.objs nm)) q none j ≠ none := Classical.byContradiction fun hh => absurd (hcn.zero.2 fun k => Classical.byContradiction fun q1 => hh ⟨k, q1⟩) (by omega)
        exact ⟨_, rfl, rfl, setS_some hI hO him hl hqb (by rw [if_pos hz]) hex (hS12.pick [0, 1, 3, 4, 5, 6, 7] rfl)⟩
    · skip
      have hz : s ≠ zero64 := h11
      refine wc_skip ?_
      refine qs_seq ?_
      refine wc_seq ?_
      refine wc_seq ?_
      refine wc_region ?_
      refine wl_move rfl rfl ?_
      refine wl_eqlMapNil Tryz.underlying79 rfl rfl rfl ?_
      refine wl_nil ?_
      refine qs_seq ?_
      refine wc_condF rfl ?_
      refine wc_skip ?_
      refine qs_seq ?_
      refine wc_region ?_
      refine wl_move rfl rfl ?_
      refine wl_move rfl rfl ?_
      refine wl_loadA (cs := (pageV s).cells.toList) rfl ag_87 sz_87 (hS2.blk 2 rfl) (by simp [pageV, Value.cells, hl]) (vs := s.map byteV) (by simp only [pageV, Value.cells, List.drop_zero]; exact List.take_of_length_le (by simp [hl])) rfl ?_
      first | refine wl_mapUpdate (k := q) 0 hS2 keysInt Tryz.underlying79 rfl rfl rfl rfl ?_ | refine wl_mapUpdate (k := q) 3 hS2 keysInt Tryz.underlying79 rfl rfl rfl rfl ?_ | refine wl_mapUpdate (k := q) 5 hS2 keysInt Tryz.underlying79 rfl rfl rfl rfl ?_ | refine wl_mapUpdate (k := q) 6 hS2 keysInt Tryz.underlying79 rfl rfl rfl rfl ?_
      intro w15 hS15; dsimp only [List.set] at hS15
      clear hS2
      refine wl_nil ?_
      refine fin0 (.inl rfl) rfl ?_
      exact ⟨_, rfl, rfl, setS_some hI hO him hl hqb (by rw [if_neg hz]; rfl) ⟨q, by rw [upd_self]; simp⟩ (hS15.pick [0, 1, 3, 4, 5, 6, 7] rfl)⟩

end Go.Proofs.YtieelilkkpcmdaaGreatDoor
