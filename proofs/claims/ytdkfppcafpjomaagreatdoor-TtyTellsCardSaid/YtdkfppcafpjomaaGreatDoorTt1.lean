/- tty, in plain data: the calls -/
import Derived.Test.YtdkfppcafpjomaaGreatDoorTt0
import Derived.Test.YtdkfppcafpjomaaGreatDoorWa
namespace Go.Proofs.YtdkfppcafpjomaaGreatDoor
open Go.RowKit M
set_option linter.unusedVariables false
def kIn : Bs := [116, 47, 105, 110]
def kPos : Bs := [116, 47, 112, 111, 115]
def kCtl : Bs := [116, 47, 99, 116, 108]
def kPart : Bs := [116, 47, 112, 97, 114, 116]
def kFg : Bs := [116, 47, 102, 103]

def itemsW (W : WS) : List ItemD := itemsC (W.cells kIn)
def posW (W : WS) (key : Bs) : Nat := (max (numC (W.cells key)) 0).toNat
def nextW (W : WS) (key : Bs) (ctl : Bool) : Option Nat := nextF (itemsW W) (posW W key) ctl
def ix (l : List ItemD) (i : Nat) : ItemD := (l[i]?).getD default
def fillW (W : WS) (l : List ItemD) : WS := if rightB l = true then putS (putS (putS (putS W kIn (fillC l)) kPos []) kCtl []) kPart [] else W
def fillE (l : List ItemD) : Int := if rightB l = true then 0 else 1
/-- a read: what it gives, the place and the part after it -/
def readX (l : List ItemD) (pos : Nat) (part : Bs) (now n : Int) : (Bs × Int) × Nat × Bs :=
  if n < 1 then (([], 0), pos, part)
  else if part ≠ [] then ((part.take (min n part.length).toNat, 0), pos, part.drop (min n part.length).toNat)
  else match nextF l pos false with
    | none => (([], 2), pos, part)
    | some i => if now < (ix l i).a then (([], 2), pos, part)
      else if (ix l i).k = 1 then (([], 1), i + 1, part)
      else ((((ix l i).t ++ [10]).take (min n ((ix l i).t.length + 1)).toNat, 0), i + 1, ((ix l i).t ++ [10]).drop (min n ((ix l i).t.length + 1)).toNat)
def readTV (W : WS) (now n : Int) : Bs × Int := (readX (itemsW W) (posW W kPos) (W.cells kPart) now n).1
/-- the world after a read -/
def readTW (W : WS) (now n : Int) : WS :=
  if n < 1 then W
  else if W.cells kPart ≠ [] then putS W kPart ((W.cells kPart).drop (min n (W.cells kPart).length).toNat)
  else match nextW W kPos false with
    | none => W
    | some i => if now < (ix (itemsW W) i).a then W
      else if (ix (itemsW W) i).k = 1 then putS W kPos (encN ((i : Int) + 1))
      else putS (putS W kPos (encN ((i : Int) + 1))) kPart (((ix (itemsW W) i).t ++ [10]).drop (min n ((ix (itemsW W) i).t.length + 1)).toNat)
def readyX (l : List ItemD) (pos : Nat) (part : Bs) (now : Int) : Bool := if part ≠ [] then true else match nextF l pos false with | some i => decide ((ix l i).a ≤ now) | none => false
def readyW (W : WS) (now : Int) : Bool := readyX (itemsW W) (posW W kPos) (W.cells kPart) now
def dueX (l : List ItemD) (ctl : Nat) (now : Int) : Option Nat := match nextF l ctl true with | some i => if now < (ix l i).a then none else some i | none => none
def dueI (W : WS) (now : Int) : Option Nat := dueX (itemsW W) (posW W kCtl) now
def dueW (W : WS) (now : Int) : WS := match dueI W now with | some i => putS W kCtl (encN ((i : Int) + 1)) | none => W
def zeroI : ItemD := ⟨0, 0, []⟩
/-- what Due shows -/
def dueD (W : WS) (now : Int) : ItemD := match dueI W now with | some i => ix (itemsW W) i | none => zeroI
def ctlW (W : WS) (now : Int) : Bool := (dueI W now).isSome
def nextAtF (l : List ItemD) (now : Int) : Option Int := (l.find? fun x => decide (now < x.a)).map (·.a)
def fgW (W : WS) : Int := numC (W.cells kFg)
def setFgW (W : WS) (g : Int) : WS := putS W kFg (if g = 0 then [] else encN g)
theorem ix_of {l : List ItemD} {i : Nat} {x : ItemD} (h : l[i]? = some x) : ix l i = x := by unfold ix; rw [h]; rfl
/-- the terminal -/
structure TI (W : WS) (l : List ItemD) (pos ctl : Nat) (part : Bs) : Prop where
  items : itemsW W = l
  pos : posW W kPos = pos
  ctl : posW W kCtl = ctl
  part : W.cells kPart = part
theorem keys_ne : kIn ≠ kPos ∧ kIn ≠ kCtl ∧ kIn ≠ kPart ∧ kPos ≠ kCtl ∧ kPos ≠ kPart ∧ kCtl ≠ kPart ∧ kIn ≠ kFg ∧ kPos ≠ kFg ∧ kCtl ≠ kFg ∧ kPart ≠ kFg := by decide
theorem putS_at (W : WS) (k v : Bs) : (putS W k v).cells k = v := by simp [putS, updC]
theorem putS_ne {W : WS} {k j v : Bs} (h : j ≠ k) : (putS W k v).cells j = W.cells j := by simp [putS, updC, h]
theorem posW_nil {W : WS} {k : Bs} (h : W.cells k = []) : posW W k = 0 := by unfold posW; rw [h]; rfl
theorem posW_enc {W : WS} {k : Bs} {i : Nat} (h : W.cells k = encN ((i : Int) + 1)) (hi : i ≤ 1000) : posW W k = i + 1 := by
  unfold posW; rw [h, numC_enc (by unfold inI; omega)]; omega
theorem TI.fill {W : WS} {l : List ItemD} (h : rightB l = true) : TI (fillW W l) l 0 0 [] := by
  obtain ⟨n1, n2, n3, n4, n5, n6, _⟩ := keys_ne
  unfold fillW
  rw [if_pos h]
  refine ⟨?_, posW_nil ?_, posW_nil ?_, putS_at _ _ _⟩
  · unfold itemsW; rw [putS_ne n3, putS_ne n2, putS_ne n1, putS_at]; exact items_fill h
  · rw [putS_ne n5, putS_ne n4, putS_at]
  · rw [putS_ne n6, putS_at]
section
variable {W : WS} {l : List ItemD} {pos ctl : Nat} {part : Bs} (h : TI W l pos ctl part)
include h
theorem TI.len : l.length ≤ 100 := by
  have := right_len (items_right (W.cells kIn))
  have e := h.items
  unfold itemsW at e
  rw [e] at this; exact this
theorem TI.right : rightB l = true := by
  have := items_right (W.cells kIn)
  have e := h.items
  unfold itemsW at e
  rw [e] at this; exact this
theorem TI.readV (now n : Int) : readTV W now n = (readX l pos part now n).1 := by unfold readTV; rw [h.items, h.pos, h.part]
theorem TI.read (now n : Int) : TI (readTW W now n) l (readX l pos part now n).2.1 ctl (readX l pos part now n).2.2 := by
  obtain ⟨n1, n2, n3, n4, n5, n6, _⟩ := keys_ne
  have hl := h.len
  unfold readTW readX nextW
  rw [h.items, h.pos, h.part]
  by_cases c1 : n < 1
  · rw [if_pos c1, if_pos c1]; exact h
  · rw [if_neg c1, if_neg c1]
    by_cases c2 : part ≠ []
    · rw [if_pos c2, if_pos c2]
      refine ⟨?_, ?_, ?_, putS_at _ _ _⟩
      · have e := h.items; unfold itemsW at e ⊢; rw [putS_ne n3]; exact e
      · have e := h.pos; unfold posW at e ⊢; rw [putS_ne n5]; exact e
      · have e := h.ctl; unfold posW at e ⊢; rw [putS_ne n6]; exact e
    · rw [if_neg c2, if_neg c2]
      cases hq : nextF l pos false with
      | none => exact h
      | some i =>
        have hi := nextF_lt hq
        dsimp only
        by_cases c3 : now < (ix l i).a
        · rw [if_pos c3, if_pos c3]; exact h
        · rw [if_neg c3, if_neg c3]
          by_cases c4 : (ix l i).k = 1
          · rw [if_pos c4, if_pos c4]
            refine ⟨?_, posW_enc (putS_at _ _ _) (by omega), ?_, ?_⟩
            · have e := h.items; unfold itemsW at e ⊢; rw [putS_ne n1]; exact e
            · have e := h.ctl; unfold posW at e ⊢; rw [putS_ne (Ne.symm n4)]; exact e
            · rw [putS_ne (Ne.symm n5)]; exact h.part
          · rw [if_neg c4, if_neg c4]
            refine ⟨?_, posW_enc (by rw [putS_ne n5]; exact putS_at _ _ _) (by omega), ?_, putS_at _ _ _⟩
            · have e := h.items; unfold itemsW at e ⊢; rw [putS_ne n3, putS_ne n1]; exact e
            · have e := h.ctl; unfold posW at e ⊢; rw [putS_ne n6, putS_ne (Ne.symm n4)]; exact e
theorem TI.dueI (now : Int) : dueI W now = dueX l ctl now := by unfold Go.Proofs.YtdkfppcafpjomaaGreatDoor.dueI; rw [h.items, h.ctl]
theorem TI.due (now : Int) : TI (dueW W now) l pos (match dueX l ctl now with | some i => i + 1 | none => ctl) part := by
  obtain ⟨n1, n2, n3, n4, n5, n6, _⟩ := keys_ne
  have hl := h.len
  unfold dueW
  rw [h.dueI]
  cases hq : dueX l ctl now with
  | none => exact h
  | some i =>
    have hi : i < l.length := by
      unfold dueX at hq
      split at hq
      · rename_i j hj
        split at hq
        · cases hq
        · cases hq; exact nextF_lt hj
      · cases hq
    refine ⟨?_, ?_, posW_enc (putS_at _ _ _) (by omega), ?_⟩
    · have e := h.items; unfold itemsW at e ⊢; rw [putS_ne n2]; exact e
    · have e := h.pos; unfold posW at e ⊢; rw [putS_ne n4]; exact e
    · rw [putS_ne (Ne.symm n6)]; exact h.part
theorem TI.other {k v : Bs} (h1 : k ≠ kIn) (h2 : k ≠ kPos) (h3 : k ≠ kCtl) (h4 : k ≠ kPart) : TI (putS W k v) l pos ctl part := by
  refine ⟨?_, ?_, ?_, ?_⟩
  · have e := h.items; unfold itemsW at e ⊢; rw [putS_ne (Ne.symm h1)]; exact e
  · have e := h.pos; unfold posW at e ⊢; rw [putS_ne (Ne.symm h2)]; exact e
  · have e := h.ctl; unfold posW at e ⊢; rw [putS_ne (Ne.symm h3)]; exact e
  · rw [putS_ne (Ne.symm h4)]; exact h.part
theorem TI.ready (now : Int) : readyW W now = readyX l pos part now := by unfold readyW; rw [h.items, h.pos, h.part]
end
end Go.Proofs.YtdkfppcafpjomaaGreatDoor
