/- reference 15: objects and logs -/
import Derived.Test.YtdkfppcafpjomaaGreatDoorRx1
namespace Go.Proofs.YtdkfppcafpjomaaGreatDoor
open Go.RowKit M
set_option linter.unusedVariables false
structure ObD where
  name : Bs
  b : Nat
  cap : Nat
  data : Bs
def slV (x : ObD) : Value := .slice (some ⟨x.b, 0, none⟩) 16384 x.cap
def slC : RowC ObD := ⟨fun x => [slV x], 1, by decide, fun _ => rfl, fun _ => rfl⟩
def obT (x : ObD) : Th := rowT byC (slV x) x.data
@[irreducible] def zob : Bs := List.replicate 16384 0
theorem zob_len : zob.length = 16384 := by unfold zob; exact List.length_replicate
theorem zob_at {i : Nat} (h : i < 16384) : zob[i]? = some 0 := by unfold zob; rw [List.getElem?_replicate, if_pos h]
structure FL where
  kv : Value
  vv : Value
  nv : Value
  sv : Value
  lv : Value
  tv : Value
def fullL (p : Nat) (Z : List (Bs × Bs)) (O : List ObD) (G : List (Bs × Bs)) (t : Int) (q : FL) : List Th := [blkT p [q.kv, q.vv, q.nv, q.sv, q.lv, q.tv, intV t], rowT stC q.kv (Z.map (·.1)), rowT stC q.vv (Z.map (·.2)), rowT stC q.nv (O.map (·.name)), rowT slC q.sv O, starL (O.map obT), rowT stC q.lv (G.map (·.1)), rowT stC q.tv (G.map (·.2))]
def fullT (p : Nat) (Z : List (Bs × Bs)) (O : List ObD) (G : List (Bs × Bs)) (t : Int) : Th := exT fun q : FL => starL (fullL p Z O G t q)
section
variable {w : World} {As : List Th} {p : Nat} {Z : List (Bs × Bs)} {O : List ObD} {G : List (Bs × Bs)} {t : Int}
theorem full_open (h : Sat w (fullT p Z O G t :: As)) : ∃ kv vv nv sv lv tv, Sat w (blkT p [kv, vv, nv, sv, lv, tv, intV t] :: rowT stC kv (Z.map (·.1)) :: rowT stC vv (Z.map (·.2)) :: rowT stC nv (O.map (·.name)) :: rowT slC sv O :: starL (O.map obT) :: rowT stC lv (G.map (·.1)) :: rowT stC tv (G.map (·.2)) :: As) := by
  obtain ⟨q, h⟩ := h.ex
  exact ⟨q.kv, q.vv, q.nv, q.sv, q.lv, q.tv, h.flat⟩
theorem full_shut {kv vv nv sv lv tv : Value} (h : Sat w (blkT p [kv, vv, nv, sv, lv, tv, intV t] :: rowT stC kv (Z.map (·.1)) :: rowT stC vv (Z.map (·.2)) :: rowT stC nv (O.map (·.name)) :: rowT slC sv O :: starL (O.map obT) :: rowT stC lv (G.map (·.1)) :: rowT stC tv (G.map (·.2)) :: As)) : Sat w (fullT p Z O G t :: As) :=
  Sat.ex_intro (f := fun q : FL => starL (fullL p Z O G t q)) ⟨kv, vv, nv, sv, lv, tv⟩ (Sat.fold (As := fullL p Z O G t ⟨kv, vv, nv, sv, lv, tv⟩) h)
theorem obs_out {i : Nat} {x : ObD} (h : Sat w (starL (O.map obT) :: As)) (hi : O[i]? = some x) : Sat w (obT x :: starL ((O.eraseIdx i).map obT) :: As) := by
  have := big_out (i := i) (A := obT x) h (by rw [List.getElem?_map, hi]; rfl)
  rwa [erase_map] at this
theorem obs_in {i : Nat} {x y : ObD} (hi : O[i]? = some x) (h : Sat w (obT y :: starL ((O.eraseIdx i).map obT) :: As)) : Sat w (starL ((O.set i y).map obT) :: As) := by
  refine big_perm (Xs := (y :: O.eraseIdx i).map obT) (big_in (i := 0) h) ?_
  have hl := (List.getElem?_eq_some_iff.1 hi).1
  have h2 : (O.set i y).eraseIdx i = O.eraseIdx i := by
    rw [List.eraseIdx_eq_take_drop_succ, List.eraseIdx_eq_take_drop_succ, List.take_set_of_le (Nat.le_refl _), List.drop_set_of_lt (by omega)]
  have h3 : (O.set i y)[i]? = some y := by rw [List.getElem?_set_self hl]
  have h4 := (perm_pull (As := (O.set i y).map obT) (i := i) (A := obT y) (by rw [List.getElem?_map, h3]; rfl)).symm
  rw [erase_map, h2] at h4
  exact h4
end
structure ObjR (O : List ObD) (f : Bs → Int → UInt8) : Prop where
  nd : (O.map (·.name)).Nodup
  len : ∀ x ∈ O, x.data.length = 16384
  val : ∀ x ∈ O, ∀ i : Nat, i < 16384 → x.data[i]? = some (f x.name i)
  none : ∀ nm, nm ∉ O.map (·.name) → ∀ i : Int, f nm i = 0
  out : ∀ nm (i : Int), (i < 0 ∨ 16384 ≤ i) → f nm i = 0
theorem name_at {O : List ObD} {j : Nat} {nm : Bs} (h : (O.map (·.name))[j]? = some nm) : ∃ x, O[j]? = some x ∧ x.name = nm := by
  rw [List.getElem?_map] at h
  obtain ⟨x, hx, rfl⟩ := Option.map_eq_some_iff.1 h
  exact ⟨x, hx, rfl⟩
theorem ObjR.new {O : List ObD} {f : Bs → Int → UInt8} (h : ObjR O f) {nm : Bs} (hn : nm ∉ O.map (·.name)) (b cap : Nat) : ObjR (O ++ [⟨nm, b, cap, zob⟩]) f := by
  refine ⟨?_, fun x hx => ?_, fun x hx i hi => ?_, fun k hk i => ?_, h.out⟩
  · rw [List.map_append, List.nodup_append]
    exact ⟨h.nd, by simp, fun a ha b hb => by simp at hb; subst hb; exact fun e => hn (e ▸ ha)⟩
  · rcases List.mem_append.1 hx with hx | hx
    · exact h.len x hx
    · simp at hx; subst hx; exact zob_len
  · rcases List.mem_append.1 hx with hx | hx
    · exact h.val x hx i hi
    · simp at hx; subst hx; rw [zob_at hi, h.none nm hn]
  · exact h.none k (fun e => hk (by rw [List.map_append]; exact List.mem_append_left _ e)) i
def setF (f : Bs → Int → UInt8) (nm : Bs) (i : Int) (c : UInt8) : Bs → Int → UInt8 := fun m j => if m = nm ∧ j = i ∧ 0 ≤ i ∧ i < 16384 then c else f m j
theorem name_inj {O : List ObD} (h : (O.map (·.name)).Nodup) {j k : Nat} {x y : ObD} (hx : O[j]? = some x) (hy : O[k]? = some y) (e : x.name = y.name) : j = k := by
  have h1 : (O.map (·.name))[j]? = some x.name := by rw [List.getElem?_map, hx]; rfl
  have h2 : (O.map (·.name))[k]? = some x.name := by rw [List.getElem?_map, hy, e]; rfl
  exact (List.getElem?_inj (List.getElem?_eq_some_iff.1 h1).1 h).1 (by rw [h1, h2])
theorem ObjR.upd {O : List ObD} {f g : Bs → Int → UInt8} (h : ObjR O f) {j : Nat} {x : ObD} (hx : O[j]? = some x) {d : Bs} (hd : d.length = 16384) (h1 : ∀ m, m ≠ x.name → ∀ i, g m i = f m i) (h2 : ∀ i : Nat, i < 16384 → d[i]? = some (g x.name i)) (h3 : ∀ i : Int, (i < 0 ∨ 16384 ≤ i) → g x.name i = 0) : ObjR (O.set j { x with data := d }) g := by
  have hl := (List.getElem?_eq_some_iff.1 hx).1
  have hm : (O.set j { x with data := d }).map (·.name) = O.map (·.name) := by
    refine List.ext_getElem? fun k => ?_
    rw [List.getElem?_map, List.getElem?_map, List.getElem?_set]
    split
    · rename_i e; subst e; rw [hx]; rfl
    · rfl
  have hmem : ∀ y, y ∈ O.set j { x with data := d } → y = { x with data := d } ∨ (y ∈ O ∧ y.name ≠ x.name) := fun y hy => by
    obtain ⟨k, hk⟩ := List.mem_iff_getElem?.1 hy
    rw [List.getElem?_set] at hk
    split at hk
    · exact .inl (Option.some.inj hk).symm
    · rename_i e; exact .inr ⟨List.mem_of_getElem? hk, fun q => e (name_inj h.nd hk hx q).symm⟩
  refine ⟨by rw [hm]; exact h.nd, fun y hy => ?_, fun y hy i hi => ?_, fun k hk i => ?_, fun m i hi => ?_⟩
  · rcases hmem y hy with rfl | ⟨hy, _⟩
    · exact hd
    · exact h.len y hy
  · rcases hmem y hy with rfl | ⟨hy, hne⟩
    · exact h2 i hi
    · rw [h1 _ hne]; exact h.val y hy i hi
  · rw [hm] at hk
    rw [h1 k (fun e => hk (by rw [e]; exact List.mem_map.2 ⟨x, List.mem_of_getElem? hx, rfl⟩))]
    exact h.none k hk i
  · by_cases e : m = x.name
    · rw [e]; exact h3 i hi
    · rw [h1 m e]; exact h.out m i hi
theorem ObjR.set {O : List ObD} {f : Bs → Int → UInt8} (h : ObjR O f) {j : Nat} {x : ObD} (hx : O[j]? = some x) {i : Nat} (hi : i < 16384) (c : UInt8) : ObjR (O.set j { x with data := x.data.set i c }) (setF f x.name i c) := by
  have hl := h.len x (List.mem_of_getElem? hx)
  refine h.upd hx (by rw [List.length_set]; exact hl) (fun m hm k => ?_) (fun k hk => ?_) (fun k hk => ?_)
  · unfold setF; rw [if_neg (fun q => hm q.1)]
  · rw [List.getElem?_set]
    unfold setF
    by_cases e : i = k
    · subst e; rw [if_pos rfl, if_pos (by omega), if_pos ⟨rfl, rfl, by omega, by omega⟩]
    · rw [if_neg e, if_neg (by omega)]; exact h.val x (List.mem_of_getElem? hx) k hk
  · unfold setF; rw [if_neg (by omega)]; exact h.out _ k hk
theorem setF_out {f : Bs → Int → UInt8} {nm : Bs} {i : Int} {c : UInt8} (h : ¬ (0 ≤ i ∧ i < 16384)) : setF f nm i c = f := by
  funext m j; unfold setF; rw [if_neg (by omega)]
theorem mk_ob {w : World} {As : List Th} {b : Nat} {z : List Value} (nm : Bs) (hz : z = byC.enc 0) (h : Sat w (ownT (.slice (some ⟨b, 0, none⟩) 16384 16384) 16384 1 (List.replicate 16384 z).flatten :: As)) : Sat w (obT ⟨nm, b, 16384, zob⟩ :: As) := by
  have e : (List.replicate 16384 z).flatten = byC.cells zob := by
    subst hz; unfold zob RowC.cells; rw [List.flatMap_replicate]
  show Sat w (ownT (.slice (some ⟨b, 0, none⟩) 16384 16384) zob.length 1 (byC.cells zob) :: As)
  rw [zob_len, ← e]; exact h
theorem obs_app {w : World} {B : List Th} {A1 A2 A3 A4 A5 : Th} {x : ObD} {O : List ObD} (h : Sat w (obT x :: A1 :: A2 :: A3 :: A4 :: A5 :: starL (O.map obT) :: B)) : Sat w (A1 :: A2 :: A3 :: A4 :: A5 :: starL (O.map obT ++ [x].map obT) :: B) := by
  have h1 := h.pull 6 rfl; dsimp only [List.eraseIdx] at h1
  have h2 := big_in (i := 0) (h1.pull 1 rfl); dsimp only [List.eraseIdx] at h2
  have h3 : Sat w (starL (O.map obT ++ [x].map obT) :: A1 :: A2 :: A3 :: A4 :: A5 :: B) := big_perm h2 (by simpa using (List.perm_append_comm (l₁ := [obT x]) (l₂ := O.map obT)))
  exact h3.perm (by
    refine (List.Perm.swap _ _ _).trans (.cons _ ?_)
    refine (List.Perm.swap _ _ _).trans (.cons _ ?_)
    refine (List.Perm.swap _ _ _).trans (.cons _ ?_)
    refine (List.Perm.swap _ _ _).trans (.cons _ ?_)
    exact List.Perm.swap _ _ _)
end Go.Proofs.YtdkfppcafpjomaaGreatDoor
