/- the reference's cells as a world's; answers that are one thing -/
import Derived.Test.YtcbdclhoekokpaaGreatDoorPd3
import Derived.Test.YtcbdclhoekokpaaGreatDoorRx1
namespace Go.Proofs.YtcbdclhoekokpaaGreatDoor
open Go.RowKit M
set_option linter.unusedVariables false
def RZ0 : List Value := [.slice none 0 0, .slice none 0 0, .slice none 0 0, .slice none 0 0, intV 0]
structure RefC (Z : List (Bs × Bs)) (W : WS) (n : Nat) : Prop where
  cells : CellsR Z W.cells
  len : Z.length ≤ n
def refP (q : Nat) (W : WS) (n : Nat) : Th := exT fun Z : List (Bs × Bs) => starL [pureT (RefC Z W n), rfT q Z RZ0]
theorem refP_open {w : World} {As : List Th} {q n : Nat} {W : WS} (h : Sat w (refP q W n :: As)) : ∃ Z, RefC Z W n ∧ Sat w (rfT q Z RZ0 :: As) := by
  obtain ⟨Z, h⟩ := h.ex
  exact ⟨Z, h.flat.pure_elim⟩
theorem refP_shut {w : World} {As : List Th} {q n : Nat} {W : WS} {Z : List (Bs × Bs)} (hR : RefC Z W n) (h : Sat w (rfT q Z RZ0 :: As)) : Sat w (refP q W n :: As) :=
  Sat.ex_intro (f := fun Z : List (Bs × Bs) => starL [pureT (RefC Z W n), rfT q Z RZ0]) Z (Sat.fold (As := [pureT (RefC Z W n), rfT q Z RZ0]) (Sat.pure_intro hR h))
theorem refP_up {w : World} {As : List Th} {q n m : Nat} {W : WS} (hm : n ≤ m) (h : Sat w (refP q W n :: As)) : Sat w (refP q W m :: As) := by
  obtain ⟨Z, hR, h⟩ := refP_open h
  exact refP_shut ⟨hR.cells, by have := hR.len; omega⟩ h
theorem cellsR_keys {Z : List (Bs × Bs)} {c : Bs → Bs} (h : CellsR Z c) (q : Bs) : KeysOf c q (withZ Z q) := by
  have h1 : (withZ Z q).Pairwise (· < ·) := h.sorted.sublist (List.filter_sublist)
  have hn : (withZ Z q).Nodup := h1.imp fun {a b} hab e => by subst e; exact absurd hab (List.lt_irrefl _)
  refine ⟨withZ Z q, (sorted_eq hn h1 fun k => Iff.rfl).symm, hn, fun k => ?_⟩
  unfold withZ
  rw [List.mem_filter]
  refine and_congr_left fun _ => ⟨fun hk => ?_, fun hk => Decidable.byContradiction fun hn => hk (h.none k hn)⟩
  obtain ⟨x, hx, rfl⟩ := List.mem_map.1 hk
  have := h.val x hx
  rw [this.2]; exact this.1
theorem refP_few {w : World} {As : List Th} {q n m : Nat} {W : WS} (hP : PInv W m) (h : Sat w (refP q W n :: As)) : Sat w (refP q W m :: As) := by
  obtain ⟨Z, hR, h⟩ := refP_open h
  refine refP_shut ⟨hR.cells, ?_⟩ h
  obtain ⟨ks, h1, h2⟩ := hP.few
  have hn : (Z.map (·.1)).Nodup := hR.cells.sorted.imp fun {a b} hab e => by subst e; exact absurd hab (List.lt_irrefl _)
  have h3 : (Z.map (·.1)).length ≤ ks.length := List.Nodup.length_le_of_subset hn fun k hk => h2 k (by
    obtain ⟨x, hx, rfl⟩ := List.mem_map.1 hk
    have := hR.cells.val x hx
    rw [this.2]; exact this.1)
  rw [List.length_map] at h3; omega
theorem newP_uniq {b : Int} {zs : List Int} {n e n' e' : Int} (h : NewP b zs n e) (h' : NewP b zs n' e') : n = n' ∧ e = e' := by
  obtain ⟨h1, h2, h3⟩ := h
  obtain ⟨g1, g2, g3⟩ := h'
  by_cases q : b < 0 ∨ b > 15623
  · have a := h1 q; have c := g1 q; omega
  · by_cases r : 64 ≤ zs.length
    · have a := h2 q r; have c := g2 q r; omega
    · rcases h3 q (by omega) with ⟨a1, a2, a3, a4, a5⟩ | ⟨a1, a2, a3⟩ <;> rcases g3 q (by omega) with ⟨c1, c2, c3, c4, c5⟩ | ⟨c1, c2, c3⟩
      · refine ⟨?_, by omega⟩
        rcases Int.lt_trichotomy n n' with l | l | l
        · exact absurd (c5 n a2 l) a4
        · exact l
        · exact absurd (a5 n' c2 l) c4
      · exact absurd (c3 n a2 a3) a4
      · exact absurd (a3 n' c2 c3) c4
      · omega
theorem repP_uniq {W : WS} {pid : Int} {W1 W2 : WS} (h1 : RepP W pid W1) (h2 : RepP W pid W2) : W1 = W2 := by
  rcases h1 with ⟨a, rfl⟩ | ⟨a, kl, hk, rfl⟩ <;> rcases h2 with ⟨b, rfl⟩ | ⟨b, kl', hk', rfl⟩
  · rfl
  · exact absurd a b
  · exact absurd b a
  · rw [keysOf_uniq hk hk']
theorem doP_uniq {W : WS} {o : OpR} {W1 W2 : WS} (h1 : DoP W o W1) (h2 : DoP W o W2) : W1 = W2 := by
  rcases h1 with ⟨a, rfl⟩ | ⟨a, h1⟩ | ⟨a, rfl⟩ <;> rcases h2 with ⟨b, rfl⟩ | ⟨b, h2⟩ | ⟨b, rfl⟩
  · rfl
  · omega
  · omega
  · omega
  · exact repP_uniq h1 h2
  · omega
  · omega
  · omega
  · rfl
theorem putS_objs (W : WS) (k v : Bs) : (putS W k v).objs = W.objs := rfl
theorem putW_objs (W : WS) (x : ProcD) : (putW W x).objs = W.objs := by unfold putW; split <;> rfl
theorem rmW_objs (W : WS) (n : Int) : (rmW W n).objs = W.objs := by unfold rmW; split <;> rfl
theorem repW_objs : ∀ (l : List ProcD) (W : WS), (repW W l).objs = W.objs
  | [], _ => rfl
  | x :: l, W => by
    have h1 := repW_objs l (repF W x)
    have h2 : (repF W x).objs = W.objs := by unfold repF; split; exact rmW_objs _ _; exact putW_objs _ _
    show (repW (repF W x) l).objs = _
    rw [h1, h2]
theorem doP_objs {W : WS} {o : OpR} {W1 : WS} (h : DoP W o W1) : W1.objs = W.objs := by
  rcases h with ⟨_, rfl⟩ | ⟨_, ⟨_, rfl⟩ | ⟨_, kl, _, rfl⟩⟩ | ⟨_, rfl⟩
  · exact rmW_objs _ _
  · rfl
  · exact repW_objs _ _
  · exact putW_objs _ _
theorem qGet {w : World} {F : Th} {p n : Nat} {W : WS} (hS : Sat w [refP p W n, F]) (hn : n ≤ 1000) (k : Bs) :
    Calls Tryz.prog 34 #[ptrV p 0, strV k] w (Ret fun v w' => v = strV (W.cells k) ∧ Sat w' [refP p W n, F]) := by
  obtain ⟨Z, hR, hS⟩ := refP_open hS
  have hZl := hR.len
  exact (fGet_sp hS (by omega) hR.cells k).mono fun e w' h => h.mono fun v w' ⟨h2, h3⟩ => ⟨h2, refP_shut hR h3⟩
theorem qPut {w : World} {F : Th} {p n : Nat} {W : WS} (hS : Sat w [refP p W n, F]) (hn : n ≤ 1000) (k x : Bs) :
    Calls Tryz.prog 26 #[ptrV p 0, strV k, strV x] w (Ret fun v w' => v = .tuple #[] ∧ Sat w' [refP p (putS W k x) (n + 1), F]) := by
  obtain ⟨Z, hR, hS⟩ := refP_open hS
  have hZl := hR.len
  exact (fPut_sp hS (by omega) k x).mono fun e w' h => h.mono fun v w' ⟨h2, h3⟩ => ⟨h2, refP_shut (W := putS W k x) ⟨hR.cells.put k x, Nat.le_trans (putZ_len _ _ _) (by omega)⟩ h3⟩
theorem qWith {w : World} {F : Th} {p n : Nat} {W : WS} (hS : Sat w [refP p W n, F]) (hn : n ≤ 1000) (q : Bs) :
    Calls Tryz.prog 29 #[ptrV p 0, strV q] w (Ret fun v w' => ∃ l, KeysOf W.cells q l ∧ l.length ≤ n ∧ Sat w' [rowT stC v l, refP p W n, F]) := by
  obtain ⟨Z, hR, hS⟩ := refP_open hS
  have hZl := hR.len
  exact (fWith_sp hS (by omega) q).mono fun e w' h => h.mono fun v w' h3 => ⟨withZ Z q, cellsR_keys hR.cells q, Nat.le_trans (by unfold withZ; exact Nat.le_trans (List.length_filter_le _ _) (by simp)) hZl, (refP_shut hR (h3.reorder [1, 0, 2] rfl)).reorder [1, 0, 2] rfl⟩
end Go.Proofs.YtcbdclhoekokpaaGreatDoor
