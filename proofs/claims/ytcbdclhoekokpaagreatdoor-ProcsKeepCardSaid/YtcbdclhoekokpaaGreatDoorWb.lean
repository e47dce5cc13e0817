/- world: pages -/
import Derived.Test.YtcbdclhoekokpaaGreatDoorWa
import Derived.Test.YtcbdclhoekokpaaGreatDoorFw
namespace Go.Proofs.YtcbdclhoekokpaaGreatDoor
open Go.RowKit M
set_option linter.unusedVariables false
section
variable {w : World} {p : Nat} {W : WS} {LL : WL} {Lo : List (Bs × Nat)} {F : Th} {n : Bs} {m im : Nat} {O' : Bs → Int → Option Bs}
theorem world_shut (hI : PagesOk O') (L' : List (Bs × Nat)) (hO : ObjL L' O') (h : Sat w [mapT strK LL.bo (namesG L'), starL (L'.map (thOf O')), blkT p (cellsW LL W.time), mapT strK LL.bc (cellsG W.cells), mapT strK LL.bl (cellsG W.logs), F]) : Sat w [worldT p { W with objs := O' }, F] := by
  have h1 := objsT_shut L' hO h
  exact worldT_shut (W := { W with objs := O' }) LL hI (h1.reorder [1, 2, 0, 3, 4] rfl)
theorem world_same (hI : PagesOk W.objs) (hO : ObjL Lo W.objs) (h : Sat w [mapT strK LL.bo (namesG Lo), starL (Lo.map (thOf W.objs)), blkT p (cellsW LL W.time), mapT strK LL.bc (cellsG W.cells), mapT strK LL.bl (cellsG W.logs), F]) : Sat w [worldT p W, F] := world_shut (W := W) hI Lo hO h
theorem world_back (hI : PagesOk O') (hN : (Lo.map (·.1)).Nodup) (hO : ObjL Lo O') (him : Lo[im]? = some (n, m)) (ho : ∀ k, k ≠ n → O' k = W.objs k) (h : Sat w [mapT intK m (pagesG (O' n)), starL ((Lo.map (thOf W.objs)).eraseIdx im), mapT strK LL.bo (namesG Lo), blkT p (cellsW LL W.time), mapT strK LL.bc (cellsG W.cells), mapT strK LL.bl (cellsG W.logs), F]) : Sat w [worldT p { W with objs := O' }, F] := by
  rw [thOf_set hN him ho] at h
  have h1 := big_perm (big_in (i := 0) h) (perm_back (x := (n, m)) him (thOf O'))
  exact world_shut hI Lo hO (h1.perm (List.Perm.swap _ _ _))
theorem world_back0 (hI : PagesOk W.objs) (hO : ObjL Lo W.objs) (him : Lo[im]? = some (n, m)) (h : Sat w [mapT intK m (pagesG (W.objs n)), starL ((Lo.map (thOf W.objs)).eraseIdx im), mapT strK LL.bo (namesG Lo), blkT p (cellsW LL W.time), mapT strK LL.bc (cellsG W.cells), mapT strK LL.bl (cellsG W.logs), F]) : Sat w [worldT p W, F] :=
  world_back (W := W) hI hO.nodup hO him (fun _ _ => rfl) h
theorem namesG_cons (b : Nat) : upd (namesG Lo) n (some (.map (some b))) = namesG ((n, b) :: Lo) := by
  funext k
  unfold namesG
  rw [assoc_cons]
  by_cases h : k = n
  · subst h; rw [upd_self]; simp
  · rw [upd_ne h]; simp [h]
theorem namesG_del (hN : (Lo.map (·.1)).Nodup) (him : Lo[im]? = some (n, m)) : upd (namesG Lo) n none = namesG (Lo.eraseIdx im) := by
  funext k
  unfold namesG
  rw [assoc_erase hN him]
  by_cases h : k = n
  · subst h; rw [upd_self]; simp
  · rw [upd_ne h]; simp [h]
theorem namesG_none (h : assoc Lo n = none) : upd (namesG Lo) n none = namesG Lo := by
  funext k
  by_cases hk : k = n
  · subst hk; rw [upd_self]; simp [namesG, h]
  · rw [upd_ne hk]
theorem world_cons {b : Nat} (hI : PagesOk O') (hO : ObjL Lo W.objs) (hq : assoc Lo n = none) (hn : ∃ q, O' n q ≠ none) (ho : ∀ k, k ≠ n → O' k = W.objs k) (h : Sat w [mapT intK b (pagesG (O' n)), mapT strK LL.bo (upd (namesG Lo) n (some (.map (some b)))), starL (Lo.map (thOf W.objs)), blkT p (cellsW LL W.time), mapT strK LL.bc (cellsG W.cells), mapT strK LL.bl (cellsG W.logs), F]) : Sat w [worldT p { W with objs := O' }, F] := by
  rw [namesG_cons] at h
  have hnm := assoc_none.1 hq
  have e : Lo.map (thOf W.objs) = Lo.map (thOf O') := by
    apply List.map_congr_left
    intro x hx
    unfold thOf; rw [ho]
    rintro rfl; exact hnm (List.mem_map.2 ⟨x, hx, rfl⟩)
  rw [e] at h
  have h1 := h.reorder [0, 2, 1, 3, 4, 5, 6] rfl; dsimp only [pickA, nthA] at h1
  have h2 : Sat w (starL (((n, b) :: Lo).map (thOf O')) :: _) := big_in (i := 0) h1
  refine world_shut hI ((n, b) :: Lo) ⟨?_, fun k => ?_⟩ (h2.perm (List.Perm.swap _ _ _))
  · exact List.nodup_cons.2 ⟨hnm, hO.nodup⟩
  · by_cases hk : k = n
    · subst hk; simp [hn]
    · rw [ho k hk, ← hO.has k]; simp [hk]
theorem world_del (hI : PagesOk O') (hO : ObjL Lo W.objs) (him : Lo[im]? = some (n, m)) (hn : ∀ q, O' n q = none) (ho : ∀ k, k ≠ n → O' k = W.objs k) (h : Sat w [starL ((Lo.map (thOf W.objs)).eraseIdx im), mapT strK LL.bo (upd (namesG Lo) n none), blkT p (cellsW LL W.time), mapT strK LL.bc (cellsG W.cells), mapT strK LL.bl (cellsG W.logs), F]) : Sat w [worldT p { W with objs := O' }, F] := by
  rw [thOf_set hO.nodup him ho, namesG_del hO.nodup him] at h
  refine world_shut hI (Lo.eraseIdx im) ⟨hO.nodup.sublist ((List.eraseIdx_sublist Lo im).map _), fun k => ?_⟩ (h.perm (List.Perm.swap _ _ _))
  have hmem : k ∈ (Lo.eraseIdx im).map (·.1) ↔ k ∈ Lo.map (·.1) ∧ k ≠ n := by
    have h1 := assoc_erase hO.nodup him k
    constructor
    · intro hk
      have h2 : assoc (Lo.eraseIdx im) k ≠ none := fun q => assoc_none.1 q hk
      rw [h1] at h2
      by_cases hkn : k = n
      · simp [hkn] at h2
      · rw [if_neg hkn] at h2
        exact ⟨Decidable.not_not.1 fun q => h2 (assoc_none.2 q), hkn⟩
    · rintro ⟨hk, hkn⟩
      refine Decidable.not_not.1 fun q => ?_
      rw [assoc_none.2 q, if_neg hkn] at h1
      exact assoc_none.1 h1.symm hk
  rw [hmem, hO.has]
  by_cases hkn : k = n
  · subst hkn; simp [hn]
  · rw [ho k hkn]; simp [hkn]
theorem obj_none (hO : ObjL Lo W.objs) (hq : assoc Lo n = none) (q : Int) : W.objs n q = none := by
  refine Decidable.not_not.1 fun h => assoc_none.1 hq ((hO.has n).2 ⟨q, h⟩)
theorem obj_some (hO : ObjL Lo W.objs) (him : Lo[im]? = some (n, m)) : ∃ q, W.objs n q ≠ none := (hO.has n).1 (List.mem_map.2 ⟨(n, m), List.mem_of_getElem? him, rfl⟩)
end
theorem page_at {s : Bs} (hs : s.length = 64) {j : Nat} (hj : j < 64) : ((s.map byteV).toArray)[j]? = some (byteV (s.getD j 0)) := by
  have h : s[j]? = some s[j] := List.getElem?_eq_getElem (by omega)
  simp [List.getD, h]
def pageB (W : WS) (n : Bs) (q : Int) : Bs := pageOf (W.objs n q)
theorem pageB_none {W : WS} {n : Bs} (h : ∀ q, W.objs n q = none) (q : Int) : pageB W n q = zero64 := by simp [pageB, pageOf, h]
theorem zr_sheet : zeroOf Tryz.prog 216 = some (some (pageV zero64)) := by kernel_rfl
def setS (W : WS) (n : Bs) (q : Int) (s : Bs) : WS := { W with objs := setO W.objs n q s }
theorem setO_ne {O : Bs → Int → Option Bs} {n : Bs} {q : Int} {s : Bs} : ∀ k, k ≠ n → setO O n q s k = O k := by
  intro k hk; funext j; simp [setO, hk]
theorem pagesG_set {O : Bs → Int → Option Bs} {n : Bs} {q : Int} {s : Bs} : pagesG (setO O n q s n) = upd (pagesG (O n)) q (if s = zero64 then none else some (pageV s)) := by
  funext j
  by_cases hj : j = q
  · subst hj; rw [upd_self]; by_cases hs : s = zero64 <;> simp [pagesG, setO, hs]
  · rw [upd_ne hj]; simp [pagesG, setO, hj]
theorem setO_zero_none {O : Bs → Int → Option Bs} {n : Bs} {q : Int} (h : ∀ q, O n q = none) : setO O n q zero64 = O := by
  funext k j
  unfold setO
  split
  · rename_i hc; rw [hc.1, h]; simp
  · rfl
theorem pagesG_none {o : Int → Option Bs} {j : Int} : pagesG o j = none ↔ o j = none := by unfold pagesG; cases o j <;> simp
theorem setS_del {w : World} {p : Nat} {W : WS} {LL : WL} {Lo : List (Bs × Nat)} {F : Th} {n : Bs} {m im : Nat} {q : Int} {s : Bs} (hI : PagesOk W.objs) (hO : ObjL Lo W.objs) (him : Lo[im]? = some (n, m)) (hs : s = zero64) (hq : 0 ≤ q ∧ q < 256)
    (hc : Card (upd (pagesG (W.objs n)) q none) 0) (h : Sat w [starL ((Lo.map (thOf W.objs)).eraseIdx im), mapT strK LL.bo (upd (namesG Lo) n none), blkT p (cellsW LL W.time), mapT strK LL.bc (cellsG W.cells), mapT strK LL.bl (cellsG W.logs), F]) : Sat w [worldT p (setS W n q s), F] := by
  subst hs
  refine world_del (hI.set (by rfl) hq) hO him (fun j => ?_) setO_ne h
  have h1 := hc.zero.1 rfl j
  have e := pagesG_set (O := W.objs) (n := n) (q := q) (s := zero64)
  rw [if_pos rfl] at e
  rw [← e] at h1
  exact pagesG_none.1 h1
theorem setS_some {w : World} {p : Nat} {W : WS} {LL : WL} {Lo : List (Bs × Nat)} {F : Th} {n : Bs} {m im : Nat} {q : Int} {s : Bs} {g : Option Value} (hI : PagesOk W.objs) (hO : ObjL Lo W.objs) (him : Lo[im]? = some (n, m)) (hl : s.length = 64) (hq : 0 ≤ q ∧ q < 256) (hg : g = if s = zero64 then none else some (pageV s))
    (hne : ∃ j, upd (pagesG (W.objs n)) q g j ≠ none) (h : Sat w [mapT intK m (upd (pagesG (W.objs n)) q g), starL ((Lo.map (thOf W.objs)).eraseIdx im), mapT strK LL.bo (namesG Lo), blkT p (cellsW LL W.time), mapT strK LL.bc (cellsG W.cells), mapT strK LL.bl (cellsG W.logs), F]) : Sat w [worldT p (setS W n q s), F] := by
  subst hg
  rw [← pagesG_set] at h hne
  refine world_back (O' := setO W.objs n q s) (hI.set hl hq) hO.nodup ⟨hO.nodup, fun k => ?_⟩ him setO_ne h
  by_cases hk : k = n
  · subst hk
    obtain ⟨j, hj⟩ := hne
    have h1 := (hO.has k).2 (obj_some hO him)
    exact ⟨fun _ => ⟨j, fun e => hj (pagesG_none.2 e)⟩, fun _ => h1⟩
  · rw [setO_ne k hk]; exact hO.has k
theorem setS_cons {w : World} {p : Nat} {W : WS} {LL : WL} {Lo : List (Bs × Nat)} {F : Th} {n : Bs} {b : Nat} {q : Int} {s : Bs} (hI : PagesOk W.objs) (hO : ObjL Lo W.objs) (hno : assoc Lo n = none) (hl : s.length = 64) (hq : 0 ≤ q ∧ q < 256) (hz : s ≠ zero64)
    (h : Sat w [mapT intK b (upd (fun _ => none) q (some (pageV s))), mapT strK LL.bo (upd (namesG Lo) n (some (.map (some b)))), starL (Lo.map (thOf W.objs)), blkT p (cellsW LL W.time), mapT strK LL.bc (cellsG W.cells), mapT strK LL.bl (cellsG W.logs), F]) : Sat w [worldT p (setS W n q s), F] := by
  have e : upd (fun _ => none) q (some (pageV s)) = pagesG (setO W.objs n q s n) := by
    rw [pagesG_set, if_neg hz]
    congr 1
    funext j; exact (pagesG_none.2 (obj_none hO hno j)).symm
  rw [e] at h
  refine world_cons (hI.set hl hq) hO hno ⟨q, ?_⟩ setO_ne h
  simp [setO, hz]
theorem eqg_sheet : Tryz.prog.eqGuardType Tryz.prog.depth 216 = false := by kernel_rfl
end Go.Proofs.YtcbdclhoekokpaaGreatDoor
