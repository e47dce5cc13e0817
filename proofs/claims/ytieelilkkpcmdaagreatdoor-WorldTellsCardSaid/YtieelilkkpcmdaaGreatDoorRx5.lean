/- reference 15 as one thing -/
import Derived.Test.YtieelilkkpcmdaaGreatDoorRx4
namespace Go.Proofs.YtieelilkkpcmdaaGreatDoor
open Go.RowKit M
set_option linter.unusedVariables false
theorem pageOf_setO {O : Bs → Int → Option Bs} {n m : Bs} {q j : Int} {s : Bs} : pageOf (setO O n q s m j) = if m = n ∧ j = q then s else pageOf (O m j) := by
  unfold setO
  split
  · rename_i h
    split
    · rename_i hz; rw [hz]; rfl
    · rfl
  · rfl
theorem setByteS_ok {W : WS} (hI : PagesOk W.objs) (n : Bs) (i : Int) (c : UInt8) : PagesOk (setByteS W n i c).objs := by
  unfold setByteS
  split
  · exact hI.set (by simp [pageB, hI.len]) (by omega)
  · exact hI
theorem byteW_set {W : WS} (hI : PagesOk W.objs) (n : Bs) (i : Int) (c : UInt8) (m : Bs) (j : Int) : byteW (setByteS W n i c) m j = if (m = n ∧ j = i) ∧ 0 ≤ i ∧ i < 16384 then c else byteW W m j := by
  unfold setByteS
  by_cases hi : 0 ≤ i ∧ i < 16384
  · rw [if_pos hi]
    unfold byteW
    by_cases hj : 0 ≤ j ∧ j < 16384
    · rw [if_pos hj, if_pos hj]
      show (pageOf (setO W.objs n (i / 64) _ m (j / 64))).getD (j % 64).toNat 0 = _
      rw [pageOf_setO]
      by_cases h1 : m = n ∧ j / 64 = i / 64
      · rw [if_pos h1]
        by_cases h2 : j = i
        · subst h2
          rw [if_pos ⟨⟨h1.1, rfl⟩, hi⟩]
          have hl := hI.len n (j / 64)
          have h3 : (j % 64).toNat < (pageB W n (j / 64)).length := by simp only [pageB, hl]; omega
          simp [List.getD, h3]
        · rw [if_neg (by rintro ⟨⟨_, h⟩, _⟩; exact h2 h)]
          have h3 : (i % 64).toNat ≠ (j % 64).toNat := by omega
          obtain ⟨rfl, h4⟩ := h1
          simp [List.getD, List.getElem?_set_ne h3, pageB, h4]
      · rw [if_neg h1, if_neg (by rintro ⟨⟨h, h'⟩, _⟩; exact h1 ⟨h, by rw [h']⟩)]
    · rw [if_neg hj, if_neg hj, if_neg (by rintro ⟨⟨_, h⟩, _⟩; omega)]
  · rw [if_neg hi, if_neg (by rintro ⟨_, h⟩; exact hi h)]
theorem world_ok {w : World} {As : List Th} {p : Nat} {W : WS} (i : Nat) (h : Sat w As) (hi : As[i]? = some (worldT p W)) : PagesOk W.objs := by
  obtain ⟨_, h1, _⟩ := worldT_open (h.pull i hi)
  exact h1
theorem pages_byte {W : WS} {frm to : Bs} {fi cn at_ : Int} {i : Nat} (hI : PagesOk W.objs) (hi : i < 16384) : byteW (copyS W frm fi cn to at_) to (i : Int) = if at_ ≤ (i : Int) / 64 ∧ (i : Int) / 64 < at_ + cn then (if 0 ≤ fi + (i : Int) / 64 - at_ ∧ fi + (i : Int) / 64 - at_ < 256 then byteW W frm (64 * (fi + (i : Int) / 64 - at_) + (i : Int) % 64) else 0) else byteW W to (i : Int) := by
  have hb : (0 : Int) ≤ (i : Int) ∧ (i : Int) < 16384 := by omega
  unfold byteW
  rw [if_pos hb, if_pos hb]
  have e : (copyS W frm fi cn to at_).objs to ((i : Int) / 64) = if at_ ≤ (i : Int) / 64 ∧ (i : Int) / 64 < at_ + cn then W.objs frm (fi + (i : Int) / 64 - at_) else W.objs to ((i : Int) / 64) := by
    unfold copyS copyTo; dsimp only
    by_cases h : at_ ≤ (i : Int) / 64 ∧ (i : Int) / 64 < at_ + cn
    · rw [if_pos h, if_pos ⟨rfl, by omega, by omega⟩]
    · rw [if_neg h, if_neg (by omega)]
  rw [e]
  by_cases h : at_ ≤ (i : Int) / 64 ∧ (i : Int) / 64 < at_ + cn
  · rw [if_pos h, if_pos h]
    by_cases h2 : 0 ≤ fi + (i : Int) / 64 - at_ ∧ fi + (i : Int) / 64 - at_ < 256
    · rw [if_pos h2, if_pos (by omega)]
      rw [show (64 * (fi + (i : Int) / 64 - at_) + (i : Int) % 64) / 64 = fi + (i : Int) / 64 - at_ by omega, show (64 * (fi + (i : Int) / 64 - at_) + (i : Int) % 64) % 64 = (i : Int) % 64 by omega]
    · rw [if_neg h2]
      have hn : W.objs frm (fi + (i : Int) / 64 - at_) = none := by
        cases hq : W.objs frm (fi + (i : Int) / 64 - at_) with
        | none => rfl
        | some s => exact absurd (hI.ok _ _ _ hq).2.2 h2
      rw [hn]
      rw [pageOf, Option.getD_none, zero64, List.getD_eq_getElem?_getD, List.getElem?_replicate]
      split <;> rfl
  · rw [if_neg h, if_neg h]
structure RefR (Z : List (Bs × Bs)) (O : List ObD) (G : List (Bs × Bs)) (W : WS) (n : Nat) : Prop where
  cells : CellsR Z W.cells
  objs : ObjR O (byteW W)
  logs : LogR G W.logs
  zl : Z.length ≤ n
  ol : O.length ≤ 2 * n
  gl : G.length ≤ n
def refW (p : Nat) (W : WS) (n : Nat) : Th := exT fun q : List (Bs × Bs) × List ObD × List (Bs × Bs) => starL [pureT (RefR q.1 q.2.1 q.2.2 W n), fullT p q.1 q.2.1 q.2.2 W.time]
section
variable {w : World} {As : List Th} {p n : Nat} {W : WS}
theorem refW_open (h : Sat w (refW p W n :: As)) : ∃ Z O G, RefR Z O G W n ∧ Sat w (fullT p Z O G W.time :: As) := by
  obtain ⟨⟨Z, O, G⟩, h⟩ := h.ex
  exact ⟨Z, O, G, h.flat.pure_elim⟩
theorem refW_shut {Z O G} (hR : RefR Z O G W n) (h : Sat w (fullT p Z O G W.time :: As)) : Sat w (refW p W n :: As) :=
  Sat.ex_intro (f := fun q : List (Bs × Bs) × List ObD × List (Bs × Bs) => starL [pureT (RefR q.1 q.2.1 q.2.2 W n), fullT p q.1 q.2.1 q.2.2 W.time]) (Z, O, G) (Sat.fold (As := [pureT (RefR Z O G W n), fullT p Z O G W.time]) (Sat.pure_intro hR h))
theorem refW_up {m : Nat} (hm : n ≤ m) (h : Sat w (refW p W n :: As)) : Sat w (refW p W m :: As) := by
  obtain ⟨Z, O, G, hR, h⟩ := refW_open h
  exact refW_shut ⟨hR.cells, hR.objs, hR.logs, by have := hR.zl; omega, by have := hR.ol; omega, by have := hR.gl; omega⟩ h
theorem ref_time (h : Sat w (refW p W n :: As)) : w.cell? ⟨p, 0 + 6, none⟩ = some (intV W.time) := by
  obtain ⟨Z, O, G, hR, h⟩ := refW_open h
  obtain ⟨kv, vv, nv, sv, lv, tv, h⟩ := full_open h
  exact h.cell 0 rfl rfl
end
theorem ObjR.empty : ObjR [] (byteW emptyW) := by
  have hz : ∀ nm i, byteW emptyW nm i = 0 := fun nm i => by
    unfold byteW; split
    · show (List.replicate 64 (0 : UInt8)).getD (i % 64).toNat 0 = 0
      rw [List.getD_eq_getElem?_getD, List.getElem?_replicate]; split <;> rfl
    · rfl
  exact ⟨by simp, by simp, by simp, fun nm _ i => hz nm i, fun nm i _ => hz nm i⟩
theorem RefR.empty : RefR [] [] [] emptyW 0 := ⟨CellsR.empty, ObjR.empty, ⟨by simp, by simp, fun _ _ => rfl⟩, by simp, by simp, by simp⟩
theorem setF_byte {W : WS} (hI : PagesOk W.objs) (nm : Bs) (i : Int) (c : UInt8) : setF (byteW W) nm i c = byteW (setByteS W nm i c) := by
  funext m j
  rw [byteW_set hI]
  unfold setF
  by_cases h : (m = nm ∧ j = i) ∧ 0 ≤ i ∧ i < 16384
  · rw [if_pos h, if_pos ⟨h.1.1, h.1.2, h.2⟩]
  · rw [if_neg h, if_neg (fun q => h ⟨⟨q.1, q.2.1⟩, q.2.2⟩)]
theorem setByteS_rest (W : WS) (nm : Bs) (i : Int) (c : UInt8) : (setByteS W nm i c).cells = W.cells ∧ (setByteS W nm i c).logs = W.logs ∧ (setByteS W nm i c).time = W.time := by
  unfold setByteS; split <;> exact ⟨rfl, rfl, rfl⟩
theorem dropF_byte (W : WS) (nm : Bs) : dropF (byteW W) nm = byteW (dropS W nm) := by
  funext m i
  unfold dropF byteW dropS
  dsimp only
  by_cases h : m = nm
  · rw [if_pos h, if_pos h]
    split
    · show 0 = (List.replicate 64 (0 : UInt8)).getD (i % 64).toNat 0
      rw [List.getD_eq_getElem?_getD, List.getElem?_replicate]; split <;> rfl
    · rfl
  · rw [if_neg h, if_neg h]
theorem copyF_byte {W : WS} (hI : PagesOk W.objs) (frm : Bs) (fi n : Int) (to : Bs) (at_ : Int) : copyF (byteW W) frm fi n to at_ = byteW (copyS W frm fi n to at_) := by
  funext m i
  unfold copyF
  by_cases hm : m = to
  · subst hm
    by_cases hi : 0 ≤ i ∧ i < 16384
    · obtain ⟨a, rfl⟩ : ∃ a : Nat, i = (a : Int) := ⟨i.toNat, by omega⟩
      rw [pages_byte hI (by omega)]
      by_cases h : at_ ≤ (a : Int) / 64 ∧ (a : Int) / 64 < at_ + n
      · rw [if_pos h, if_pos ⟨rfl, hi, h⟩]
      · rw [if_neg h, if_neg (fun q => h q.2.2)]
    · rw [if_neg (fun q => hi q.2.1)]
      unfold byteW; rw [if_neg hi, if_neg hi]
  · rw [if_neg (fun q => hm q.1)]
    have : (copyS W frm fi n to at_).objs m = W.objs m := by
      funext q; simp only [copyS, copyTo]; rw [if_neg (fun e => hm e.1)]
    unfold byteW; rw [this]
theorem addC_log (W : WS) (k s : Bs) : addC W.logs k s = (logS W k s).logs := by
  funext m
  unfold addC logS
  by_cases hs : s = []
  · rw [if_pos hs, hs, List.append_nil]; split
    · rename_i e; rw [e]
    · rfl
  · rw [if_neg hs]; rfl
theorem logS_rest (W : WS) (k s : Bs) : (logS W k s).cells = W.cells ∧ (logS W k s).objs = W.objs ∧ (logS W k s).time = W.time := by
  unfold logS; split <;> exact ⟨rfl, rfl, rfl⟩
theorem byteW_objs {W W' : WS} (h : W'.objs = W.objs) : byteW W' = byteW W := by funext m i; unfold byteW; rw [h]
theorem mid5 {a b1 b2 b3 b4 b5 : Th} {l : List Th} : (a :: b1 :: b2 :: b3 :: b4 :: b5 :: l).Perm (b1 :: b2 :: b3 :: b4 :: b5 :: a :: l) :=
  (List.Perm.swap _ _ _).trans (.cons _ ((List.Perm.swap _ _ _).trans (.cons _ ((List.Perm.swap _ _ _).trans (.cons _ ((List.Perm.swap _ _ _).trans (.cons _ (List.Perm.swap _ _ _))))))))
theorem full_ref {w : World} {As : List Th} {p : Nat} {Z : List (Bs × Bs)} {O : List ObD} {G : List (Bs × Bs)} {t : Int} (h : Sat w (fullT p Z O G t :: As)) : ∃ (R : List Value) (T : Th), Sat w (refT p Z R :: T :: As) ∧ ∀ Z' w' As', Sat w' (refT p Z' R :: T :: As') → Sat w' (fullT p Z' O G t :: As') := by
  obtain ⟨kv, vv, nv, sv, lv, tv, h⟩ := full_open h
  refine ⟨[nv, sv, lv, tv, intV t], starL [rowT stC nv (O.map (·.name)), rowT slC sv O, starL (O.map obT), rowT stC lv (G.map (·.1)), rowT stC tv (G.map (·.2))], ?_, fun Z' w' As' h => ?_⟩
  · have h1 := refT_shut h
    have h2 : Sat w (rowT stC nv (O.map (·.name)) :: rowT slC sv O :: starL (O.map obT) :: rowT stC lv (G.map (·.1)) :: rowT stC tv (G.map (·.2)) :: refT p Z [nv, sv, lv, tv, intV t] :: As) := by
      exact h1.perm mid5
    exact (Sat.fold (As := [rowT stC nv (O.map (·.name)), rowT slC sv O, starL (O.map obT), rowT stC lv (G.map (·.1)), rowT stC tv (G.map (·.2))]) h2).perm (List.Perm.swap _ _ _)
  · have h2 := (h.perm (List.Perm.swap _ _ _)).flat
    have h3 : Sat w' (refT p Z' [nv, sv, lv, tv, intV t] :: rowT stC nv (O.map (·.name)) :: rowT slC sv O :: starL (O.map obT) :: rowT stC lv (G.map (·.1)) :: rowT stC tv (G.map (·.2)) :: As') := h2.perm mid5.symm
    obtain ⟨kv', vv', h4⟩ := refT_open h3
    exact full_shut h4
theorem rGet {w : World} {F : Th} {p n : Nat} {W : WS} (hS : Sat w [refW p W n, F]) (hn : n ≤ 1000) (k : Bs) :
    Calls Tryz.prog 33 #[ptrV p 0, strV k] w (Ret fun v w' => v = strV (W.cells k) ∧ Sat w' [refW p W n, F]) := by
  obtain ⟨Z, O, G, hR, hS⟩ := refW_open hS
  obtain ⟨R, T, hT, back⟩ := full_ref hS
  have hC := hT.split [0] [true, false, false] rfl; dsimp only [selF, pickA, nthA, List.cons_append, List.nil_append] at hC
  refine (fGet_sp hC (by have := hR.zl; omega) hR.cells k).mono fun e w' h => h.mono fun v w' ⟨h2, h3⟩ => ⟨h2, ?_⟩
  have h4 := h3.join rfl; dsimp only [List.dropLast, List.cons_append, List.nil_append] at h4
  exact refW_shut hR (back _ _ _ h4)
theorem rPut {w : World} {F : Th} {p n : Nat} {W : WS} (hS : Sat w [refW p W n, F]) (hn : n ≤ 1000) (k v : Bs) :
    Calls Tryz.prog 29 #[ptrV p 0, strV k, strV v] w (Ret fun r w' => r = .tuple #[] ∧ Sat w' [refW p (putS W k v) (n + 1), F]) := by
  obtain ⟨Z, O, G, hR, hS⟩ := refW_open hS
  obtain ⟨R, T, hT, back⟩ := full_ref hS
  have hC := hT.split [0] [true, false, false] rfl; dsimp only [selF, pickA, nthA, List.cons_append, List.nil_append] at hC
  refine (fPut_sp hC (by have := hR.zl; omega) k v).mono fun e w' h => h.mono fun r w' ⟨h2, h3⟩ => ⟨h2, ?_⟩
  have h4 := h3.join rfl; dsimp only [List.dropLast, List.cons_append, List.nil_append] at h4
  exact refW_shut (W := putS W k v) ⟨hR.cells.put k v, hR.objs, hR.logs, Nat.le_trans (putZ_len _ _ _) (by have := hR.zl; omega), by have := hR.ol; omega, by have := hR.gl; omega⟩ (back _ _ _ h4)
theorem rWith {w : World} {F : Th} {p n : Nat} {W : WS} (hS : Sat w [refW p W n, F]) (hn : n ≤ 1000) (q : Bs) :
    Calls Tryz.prog 21 #[ptrV p 0, strV q] w (Ret fun v w' => ∃ Z, CellsR Z W.cells ∧ Z.length ≤ n ∧ Sat w' [rowT stC v (withZ Z q), refW p W n, F]) := by
  obtain ⟨Z, O, G, hR, hS⟩ := refW_open hS
  obtain ⟨R, T, hT, back⟩ := full_ref hS
  have hC := hT.split [0] [true, false, false] rfl; dsimp only [selF, pickA, nthA, List.cons_append, List.nil_append] at hC
  refine (fWith_sp hC (by have := hR.zl; omega) q).mono fun e w' h => h.mono fun v w' h3 => ⟨Z, hR.cells, hR.zl, ?_⟩
  have h4 := h3.join rfl; dsimp only [List.dropLast, List.cons_append, List.nil_append] at h4
  exact (refW_shut hR (back _ _ _ (h4.reorder [1, 2, 0, 3] rfl))).perm (List.Perm.swap _ _ _)
theorem rByte {w : World} {F : Th} {p n : Nat} {W : WS} (hS : Sat w [refW p W n, F]) (hn : n ≤ 1000) (nm : Bs) (i : Int) :
    Calls Tryz.prog 14 #[ptrV p 0, strV nm, intV i] w (Ret fun v w' => v = byteV (byteW W nm i) ∧ Sat w' [refW p W n, F]) := by
  obtain ⟨Z, O, G, hR, hS⟩ := refW_open hS
  refine (fByte_sp hS hR.objs (by have := hR.ol; omega) nm i).mono fun e w' h => h.mono fun v w' ⟨h2, h3⟩ => ⟨h2, refW_shut hR h3⟩
theorem rText {w : World} {F : Th} {p n : Nat} {W : WS} (hS : Sat w [refW p W n, F]) (hn : n ≤ 1000) (nm : Bs) :
    Calls Tryz.prog 45 #[ptrV p 0, strV nm] w (Ret fun v w' => v = strV (W.logs nm) ∧ Sat w' [refW p W n, F]) := by
  obtain ⟨Z, O, G, hR, hS⟩ := refW_open hS
  refine (fText_sp hS hR.logs (by have := hR.gl; omega) nm).mono fun e w' h => h.mono fun v w' ⟨h2, h3⟩ => ⟨h2, refW_shut hR h3⟩
theorem rSetByte {w : World} {F : Th} {p n : Nat} {W : WS} (hS : Sat w [refW p W n, F]) (hn : n ≤ 1000) (hI : PagesOk W.objs) (nm : Bs) (i : Int) (c : UInt8) :
    Calls Tryz.prog 12 #[ptrV p 0, strV nm, intV i, byteV c] w (Ret fun v w' => v = .tuple #[] ∧ Sat w' [refW p (setByteS W nm i c) (n + 1), F]) := by
  obtain ⟨Z, O, G, hR, hS⟩ := refW_open hS
  refine (fSetByte_sp hS hR.objs (by have := hR.ol; omega) nm i c).mono fun e w' h => h.mono fun v w' ⟨h2, O2, hO2, hl2, h3⟩ => ⟨h2, refW_shut (W := setByteS W nm i c) ⟨by rw [(setByteS_rest W nm i c).1]; exact hR.cells, by rw [← setF_byte hI]; exact hO2, by rw [(setByteS_rest W nm i c).2.1]; exact hR.logs, by have := hR.zl; omega, by have := hR.ol; omega, by have := hR.gl; omega⟩ (by rw [(setByteS_rest W nm i c).2.2]; exact h3)⟩
theorem rDrop {w : World} {F : Th} {p n : Nat} {W : WS} (hS : Sat w [refW p W n, F]) (hn : n ≤ 1000) (nm : Bs) :
    Calls Tryz.prog 42 #[ptrV p 0, strV nm] w (Ret fun v w' => v = .tuple #[] ∧ Sat w' [refW p (dropS W nm) (n + 1), F]) := by
  obtain ⟨Z, O, G, hR, hS⟩ := refW_open hS
  refine (fDrop_sp hS hR.objs (by have := hR.ol; omega) nm).mono fun e w' h => h.mono fun v w' ⟨h2, O2, hO2, hl2, h3⟩ => ⟨h2, refW_shut (W := dropS W nm) ⟨hR.cells, by rw [← dropF_byte]; exact hO2, hR.logs, by have := hR.zl; omega, by have := hR.ol; omega, by have := hR.gl; omega⟩ h3⟩
theorem rCopy {w : World} {F : Th} {p n : Nat} {W : WS} (hS : Sat w [refW p W n, F]) (hn : n ≤ 1000) (hI : PagesOk W.objs) (frm : Bs) (fi cn : Int) (to : Bs) (at_ : Int) (h1 : -2147483648 ≤ fi ∧ fi ≤ 2147483648) (h2 : -2147483648 ≤ cn ∧ cn ≤ 2147483648) (h3 : -2147483648 ≤ at_ ∧ at_ ≤ 2147483648) :
    Calls Tryz.prog 41 #[ptrV p 0, strV frm, intV fi, intV cn, strV to, intV at_] w (Ret fun v w' => v = .tuple #[] ∧ Sat w' [refW p (copyS W frm fi cn to at_) (n + 1), F]) := by
  obtain ⟨Z, O, G, hR, hS⟩ := refW_open hS
  refine (fCopy_sp hS hR.objs (by have := hR.ol; omega) frm fi cn to at_ h1 h2 h3 (by have := hR.ol; omega)).mono fun e w' h => h.mono fun v w' ⟨h5, O2, hO2, hl2, h6⟩ => ⟨h5, refW_shut (W := copyS W frm fi cn to at_) ⟨hR.cells, by rw [← copyF_byte hI]; exact hO2, hR.logs, by have := hR.zl; omega, by have := hR.ol; omega, by have := hR.gl; omega⟩ h6⟩
theorem rLog {w : World} {F : Th} {p n : Nat} {W : WS} (hS : Sat w [refW p W n, F]) (hn : n ≤ 1000) (nm s : Bs) (hsl : (W.logs nm).length ≤ 1000000) (hs : s.length ≤ 1000000) :
    Calls Tryz.prog 43 #[ptrV p 0, strV nm, strV s] w (Ret fun v w' => v = .tuple #[] ∧ Sat w' [refW p (logS W nm s) (n + 1), F]) := by
  obtain ⟨Z, O, G, hR, hS⟩ := refW_open hS
  refine (fLog_sp hS hR.logs (by have := hR.gl; omega) nm s hsl hs).mono fun e w' h => h.mono fun v w' ⟨h2, G2, hG2, hl2, h3⟩ => ⟨h2, refW_shut (W := logS W nm s) ⟨by rw [(logS_rest W nm s).1]; exact hR.cells, by rw [byteW_objs (logS_rest W nm s).2.1]; exact hR.objs, by rw [← addC_log]; exact hG2, by have := hR.zl; omega, by have := hR.ol; omega, by have := hR.gl; omega⟩ (by rw [(logS_rest W nm s).2.2]; exact h3)⟩
theorem data_pages {W : WS} (hI : PagesOk W.objs) {nm : Bs} {d : Bs} (hl : d.length = 16384) (hd : ∀ i : Nat, i < 16384 → d[i]? = some (byteW W nm i)) : d = pagesB W nm 256 := by
  have key : ∀ k : Nat, k ≤ 256 → d.take (64 * k) = pagesB W nm k := by
    intro k hk
    induction k with
    | zero => rfl
    | succ k ih =>
      rw [pagesB_step, ← ih (by omega), show 64 * (k + 1) = 64 * k + 64 by omega, List.take_add]
      congr 1
      have hpl := hI.len nm (k : Int)
      refine List.ext_getElem? fun i => ?_
      rw [List.getElem?_take, List.getElem?_drop]
      by_cases hi : i < 64
      · rw [if_pos hi, hd _ (by omega)]
        unfold byteW
        rw [if_pos (by omega), show ((64 * k + i : Nat) : Int) / 64 = (k : Int) by omega, show (((64 * k + i : Nat) : Int) % 64).toNat = i by omega]
        simp only [pageB]
        rw [List.getD_eq_getElem?_getD, List.getElem?_eq_getElem (by omega)]; rfl
      · rw [if_neg hi, List.getElem?_eq_none (by simp only [pageB]; omega)]
  have := key 256 (by omega)
  rw [← this, List.take_of_length_le (by omega)]
theorem objB_zero {W : WS} (hI : PagesOk W.objs) {nm : Bs} (h : ∀ i : Int, byteW W nm i = 0) : objB W nm = [] := by
  have h1 : (List.replicate 16384 (0 : UInt8)) = pagesB W nm 256 := data_pages hI List.length_replicate (fun i hi => by rw [List.getElem?_replicate, if_pos hi, h])
  unfold objB
  rw [← h1]
  have := trim_zeros [] 16384
  rw [List.nil_append] at this
  rw [this]; rfl
theorem rObject {w : World} {F : Th} {p n : Nat} {W : WS} (hS : Sat w [refW p W n, F]) (hn : n ≤ 1000) (hI : PagesOk W.objs) (nm : Bs) :
    Calls Tryz.prog 17 #[ptrV p 0, strV nm] w (Ret fun v w' => v = strV (objB W nm) ∧ Sat w' [refW p W n, F]) := by
  obtain ⟨Z, O, G, hR, hS⟩ := refW_open hS
  refine (fObject_sp hS hR.objs (by have := hR.ol; omega) nm).mono fun e w' h => h.mono fun v w' ⟨s, h2, h4, h3⟩ => ⟨?_, refW_shut hR h3⟩
  rw [h2]
  rcases h4 with ⟨x, hx, rfl, rfl⟩ | ⟨hnm, rfl⟩
  · rw [data_pages hI (hR.objs.len x hx) (hR.objs.val x hx)]; rfl
  · rw [objB_zero hI (hR.objs.none nm hnm)]
end Go.Proofs.YtieelilkkpcmdaaGreatDoor
