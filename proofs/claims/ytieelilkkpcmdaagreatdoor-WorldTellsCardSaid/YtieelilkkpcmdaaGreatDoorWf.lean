/- laws of world: few, do, played -/
import Derived.Test.YtieelilkkpcmdaaGreatDoorWe
namespace Go.Proofs.YtieelilkkpcmdaaGreatDoor
open Go.RowKit M
set_option linter.unusedVariables false
structure OpD where
  k : Int
  a : Bs
  b : Bs
  x : Int
  y : Int
  z : Int
def opV (o : OpD) : List Value := [intV o.k, strV o.a, strV o.b, intV o.x, intV o.y, intV o.z]
def opC : RowC OpD := ⟨opV, 6, by decide, fun _ => rfl, fun _ => rfl⟩
def fitsB (o : OpD) : Bool := !(decide (o.k = 5) && decide (1099511627776 < o.x)) && (decide (o.a.length ≤ 60) && decide (o.b.length ≤ 60) && decide (-2147483648 ≤ o.x) && decide (-2147483648 ≤ o.y) && decide (-2147483648 ≤ o.z) && (decide (o.x ≤ 2147483648) || decide (o.k = 5)) && decide (o.y ≤ 2147483648) && decide (o.z ≤ 2147483648))
structure Fit (o : OpD) : Prop where
  a : o.a.length ≤ 60
  b : o.b.length ≤ 60
  x0 : -2147483648 ≤ o.x
  x : o.k ≠ 5 → o.x ≤ 2147483648
  x5 : o.x ≤ 1099511627776
  y : -2147483648 ≤ o.y ∧ o.y ≤ 2147483648
  z : -2147483648 ≤ o.z ∧ o.z ≤ 2147483648
theorem fit_of {o : OpD} (h : fitsB o = true) : Fit o := by
  simp [fitsB] at h
  constructor <;> omega
def fewB (l : List OpD) (n : Int) : Bool := l.all fitsB && decide ((l.length : Int) ≤ n)
def u8 (y : Int) : UInt8 := UInt8.ofNat (y % 256).toNat
theorem wrapU8 (y : Int) : IntKind.u8.wrap y = ((u8 y).toNat : Int) := by
  have h : IntKind.u8.wrap y = y % 256 := by simp [IntKind.wrap, IntKind.signed, IntKind.bits]
  rw [h, u8]
  simp; omega
def doS (W : WS) (o : OpD) : WS := if o.k = 0 then putS W o.a o.b else if o.k = 1 then setByteS W o.a o.x (u8 o.y) else if o.k = 2 then copyS W o.a o.x o.z o.b o.y else if o.k = 3 then dropS W o.a else if o.k = 4 then logS W o.a o.b else if o.k = 5 then { W with time := W.time + max o.x 0 } else W
structure PInv (W : WS) (i : Nat) : Prop where
  time : 0 ≤ W.time ∧ W.time ≤ i * 1099511627776
  logs : ∀ n, (W.logs n).length ≤ 60 * i
  keys : KeysIn W.cells i
theorem PInv.empty : PInv emptyW 0 := ⟨by simp [emptyW], by simp [emptyW], ⟨⟨[], by simp, by simp [emptyW]⟩, by simp [emptyW]⟩⟩
theorem PInv.up {W : WS} {i : Nat} (h : PInv W i) : PInv W (i + 1) := ⟨by have := h.time; omega, fun n => by have := h.logs n; omega, ⟨by obtain ⟨ks, h1, h2⟩ := h.keys.few; exact ⟨ks, by omega, h2⟩, h.keys.short⟩⟩
theorem PInv.step {W : WS} {i : Nat} {o : OpD} (h : PInv W i) (hf : Fit o) : PInv (doS W o) (i + 1) := by
  have ht := h.time
  unfold doS
  split
  · refine ⟨by simp only [putS]; omega, fun n => by have := h.logs n; simp only [putS]; omega, ?_⟩
    obtain ⟨ks, h1, h2⟩ := h.keys.few
    refine ⟨⟨o.a :: ks, by simp; omega, fun k hk => ?_⟩, fun k hk => ?_⟩
    · simp only [putS, updC] at hk
      split at hk
      · rename_i e; subst e; simp
      · exact List.mem_cons_of_mem _ (h2 k hk)
    · simp only [putS, updC] at hk
      split at hk
      · rename_i e; subst e; have := hf.a; omega
      · exact h.keys.short k hk
  split
  · have h' := h.up
    unfold setByteS; split
    · exact ⟨h'.time, h'.logs, h'.keys⟩
    · exact h'
  split
  · have h' := h.up; exact ⟨h'.time, h'.logs, h'.keys⟩
  split
  · have h' := h.up; exact ⟨h'.time, h'.logs, h'.keys⟩
  split
  · have h' := h.up
    unfold logS; split
    · exact h'
    · refine ⟨h'.time, fun n => ?_, h'.keys⟩
      simp only [updC]
      split
      · rename_i e; subst e; have := h.logs o.a; have := hf.b; simp; omega
      · exact h'.logs n
  split
  · have h' := h.up; have := hf.x5; exact ⟨by simp only; omega, h'.logs, h'.keys⟩
  · exact h.up
def playW (l : List OpD) : WS := l.foldl doS emptyW
def playedW (l : List OpD) : WS := if fewB l 40 = true then playW l else emptyW
theorem play_step {l : List OpD} {i : Nat} {o : OpD} (ho : l[i]? = some o) : playW (l.take (i + 1)) = doS (playW (l.take i)) o := by
  rw [List.take_add_one, ho]; simp [playW]
theorem play_inv {l : List OpD} (h : l.all fitsB = true) : ∀ i, i ≤ l.length → PInv (playW (l.take i)) i
  | 0, _ => by simpa [playW] using PInv.empty
  | i + 1, hi => by
    have ho : l[i]? = some l[i] := List.getElem?_eq_getElem (by omega)
    rw [play_step ho]
    exact (play_inv h i (by omega)).step (fit_of (List.all_eq_true.1 h _ (List.mem_of_getElem? ho)))
theorem played_inv (l : List OpD) : PInv (playedW l) 40 := by
  have up : ∀ (W : WS) (i j : Nat), PInv W i → PInv W (i + j) := fun W i j h => by
    induction j with
    | zero => exact h
    | succ j ih => exact ih.up
  unfold playedW
  split
  · rename_i hf
    simp [fewB] at hf
    have h1 := play_inv (l := l) (by simpa using hf.1) l.length (Nat.le_refl _)
    rw [List.take_length] at h1
    have := up _ _ (40 - l.length) h1
    rwa [show l.length + (40 - l.length) = 40 by omega] at this
  · simpa using up _ 0 40 PInv.empty
set_option maxRecDepth 100000 in
theorem fits_sp {w : World} {F : Th} (hS : Sat w [F]) (o : OpD) :
    Calls Tryz.prog 37 #[.agg #[intV o.k, strV o.a, strV o.b, intV o.x, intV o.y, intV o.z]] w (Ret fun v w' => v = .bool (fitsB o) ∧ Sat w' [F]) := by
  refine calls_enter Tryz.func37 rfl Tryz.ntmps37 rfl ?_
  refine wc_seq ?_
  refine wc_region ?_
  refine wl_box hS rfl rfl rfl ?_
  intro b1 w1 hS1
  refine wl_assign rfl rfl ?_
  refine wl_nil ?_
  refine qs_seq ?_
  refine wc_seq ?_
  refine wc_seq ?_
  refine wc_region ?_
  refine wl_fieldAddr rfl fo_34_0 rfl ?_
  refine wl_load rfl ag_3 (by first | assumption | exact hS1.cell 0 rfl rfl) rfl ?_
  refine wl_eql rfl rfl rfl ?_
  refine wl_move rfl rfl ?_
  refine wl_splitD 7 rfl (fun h2 => ?_) (fun h2 => ?_)
  · skip
    refine wl_guard rfl rfl (decide_eq_true h2) ?_
    refine wl_fieldAddr rfl fo_34_3 rfl ?_
    refine wl_guard rfl rfl (decide_eq_true h2) ?_
    refine wl_load rfl ag_3 (by first | assumption | exact hS1.cell 0 rfl rfl) rfl ?_
    refine wl_guard rfl rfl (decide_eq_true h2) ?_
    refine wl_gtr rfl rfl rfl ?_
    refine wl_pickT rfl (decide_eq_true h2) rfl rfl ?_
    refine wl_nil ?_
    refine qs_seq ?_
    refine wc_sub (L' := [(11, _), (2, _), (1, _)]) (.cons rfl (.cons rfl (.cons rfl .nil))) ?_
    refine wc_condD rfl (fun h3 => ?_) (fun h3 => ?_)
    · skip
      refine wc_seq ?_
      refine wc_region ?_
      refine wl_assign rfl rfl ?_
      refine wl_nil ?_
      refine qs_seq ?_
      refine wc_ret ?_
      refine qs_then_ret ?_
      refine fin1 (.inr rfl) rfl rfl ?_
      exact ⟨_, rfl, by congr 1; rw [Bool.eq_iff_iff]; simp [fitsB]; omega, hS1.tail⟩
    · skip
      refine wc_skip ?_
      refine qs_seq ?_
      refine wc_seq ?_
      refine wc_region ?_
      refine wl_assign rfl rfl ?_
      refine wl_nil ?_
      refine qs_seq ?_
      refine wc_seq ?_
      refine wc_region ?_
      refine wl_fieldAddr rfl fo_34_1 rfl ?_
      refine wl_load rfl ag_9 (by first | assumption | exact hS1.cell 0 rfl rfl) rfl ?_
      refine wl_lenS Tryz.underlying9 rfl rfl ?_
      refine wl_leq rfl rfl rfl ?_
      refine wl_move rfl rfl ?_
      refine wl_splitD 16 rfl (fun h4 => ?_) (fun h4 => ?_)
      · skip
        refine wl_guard rfl rfl (decide_eq_true h4) ?_
        refine wl_fieldAddr rfl fo_34_2 rfl ?_
        refine wl_guard rfl rfl (decide_eq_true h4) ?_
        refine wl_load rfl ag_9 (by first | assumption | exact hS1.cell 0 rfl rfl) rfl ?_
        refine wl_guard rfl rfl (decide_eq_true h4) ?_
        refine wl_lenS Tryz.underlying9 rfl rfl ?_
        refine wl_guard rfl rfl (decide_eq_true h4) ?_
        refine wl_leq rfl rfl rfl ?_
        refine wl_pickT rfl (decide_eq_true h4) rfl rfl ?_
        refine wl_move rfl rfl ?_
        refine wl_splitD 22 rfl (fun h5 => ?_) (fun h5 => ?_)
        · skip
          refine wl_guard rfl rfl (decide_eq_true h5) ?_
          refine wl_fieldAddr rfl fo_34_3 rfl ?_
          refine wl_guard rfl rfl (decide_eq_true h5) ?_
          refine wl_load rfl ag_3 (by first | assumption | exact hS1.cell 0 rfl rfl) rfl ?_
          refine wl_guard rfl rfl (decide_eq_true h5) ?_
          refine wl_move rfl rfl ?_
          refine wl_guard rfl rfl (decide_eq_true h5) ?_
          refine wl_neg rfl (by omega) (by omega) rfl ?_
          refine wl_guard rfl rfl (decide_eq_true h5) ?_
          refine wl_geq rfl rfl rfl ?_
          refine wl_pickT rfl (decide_eq_true h5) rfl rfl ?_
          refine wl_move rfl rfl ?_
          refine wl_splitD 29 rfl (fun h6 => ?_) (fun h6 => ?_)
          · skip
            refine wl_guard rfl rfl (decide_eq_true h6) ?_
            refine wl_fieldAddr rfl fo_34_4 rfl ?_
            refine wl_guard rfl rfl (decide_eq_true h6) ?_
            refine wl_load rfl ag_3 (by first | assumption | exact hS1.cell 0 rfl rfl) rfl ?_
            refine wl_guard rfl rfl (decide_eq_true h6) ?_
            refine wl_move rfl rfl ?_
            refine wl_guard rfl rfl (decide_eq_true h6) ?_
            refine wl_neg rfl (by omega) (by omega) rfl ?_
            refine wl_guard rfl rfl (decide_eq_true h6) ?_
            refine wl_geq rfl rfl rfl ?_
            refine wl_pickT rfl (decide_eq_true h6) rfl rfl ?_
            refine wl_move rfl rfl ?_
            refine wl_splitD 36 rfl (fun h7 => ?_) (fun h7 => ?_)
            · skip
              refine wl_guard rfl rfl (decide_eq_true h7) ?_
              refine wl_fieldAddr rfl fo_34_5 rfl ?_
              refine wl_guard rfl rfl (decide_eq_true h7) ?_
              refine wl_load rfl ag_3 (by first | assumption | exact hS1.cell 0 rfl rfl) rfl ?_
              refine wl_guard rfl rfl (decide_eq_true h7) ?_
              refine wl_move rfl rfl ?_
              refine wl_guard rfl rfl (decide_eq_true h7) ?_
              refine wl_neg rfl (by omega) (by omega) rfl ?_
              refine wl_guard rfl rfl (decide_eq_true h7) ?_
              refine wl_geq rfl rfl rfl ?_
              refine wl_pickT rfl (decide_eq_true h7) rfl rfl ?_
              refine wl_move rfl rfl ?_
              refine wl_splitD 43 rfl (fun h8 => ?_) (fun h8 => ?_)
              · skip
                refine wl_guard rfl rfl (decide_eq_true h8) ?_
                refine wl_fieldAddr rfl fo_34_3 rfl ?_
                refine wl_guard rfl rfl (decide_eq_true h8) ?_
                refine wl_load rfl ag_3 (by first | assumption | exact hS1.cell 0 rfl rfl) rfl ?_
                refine wl_guard rfl rfl (decide_eq_true h8) ?_
                refine wl_move rfl rfl ?_
                refine wl_guard rfl rfl (decide_eq_true h8) ?_
                refine wl_leq rfl rfl rfl ?_
                refine wl_guard rfl rfl (decide_eq_true h8) ?_
                refine wl_move rfl rfl ?_
                refine wl_splitD 48 rfl (fun h9 => ?_) (fun h9 => ?_)
                · skip
                  refine wl_unwanted rfl rfl (decide_eq_true h9) rfl ?_
                  refine wl_unwanted rfl rfl (decide_eq_true h9) rfl ?_
                  refine wl_unwanted rfl rfl (decide_eq_true h9) rfl ?_
                  refine wl_guard rfl rfl (decide_eq_true h8) ?_
                  refine wl_pickT rfl (decide_eq_true h9) rfl rfl ?_
                  refine wl_pickT rfl (decide_eq_true h8) rfl rfl ?_
                  refine wl_move rfl rfl ?_
                  refine wl_guard rfl rfl rfl ?_
                  refine wl_fieldAddr rfl fo_34_4 rfl ?_
                  refine wl_guard rfl rfl rfl ?_
                  refine wl_load rfl ag_3 (by first | assumption | exact hS1.cell 0 rfl rfl) rfl ?_
                  refine wl_guard rfl rfl rfl ?_
                  refine wl_move rfl rfl ?_
                  refine wl_guard rfl rfl rfl ?_
                  refine wl_leq rfl rfl rfl ?_
                  refine wl_pickT rfl rfl rfl rfl ?_
                  refine wl_move rfl rfl ?_
                  refine wl_splitD 60 rfl (fun h10 => ?_) (fun h10 => ?_)
                  · skip
                    refine wl_guard rfl rfl (decide_eq_true h10) ?_
                    refine wl_fieldAddr rfl fo_34_5 rfl ?_
                    refine wl_guard rfl rfl (decide_eq_true h10) ?_
                    refine wl_load rfl ag_3 (by first | assumption | exact hS1.cell 0 rfl rfl) rfl ?_
                    refine wl_guard rfl rfl (decide_eq_true h10) ?_
                    refine wl_move rfl rfl ?_
                    refine wl_guard rfl rfl (decide_eq_true h10) ?_
                    refine wl_leq rfl rfl rfl ?_
                    refine wl_pickT rfl (decide_eq_true h10) rfl rfl ?_
                    refine wl_assign rfl rfl ?_
                    refine wl_nil ?_
                    refine qs_seq ?_
                    refine wc_sub (L' := [(2, _)]) (.cons rfl .nil) ?_
                    refine wc_ret ?_
                    refine fin1 (.inr rfl) rfl rfl ?_
                    exact ⟨_, rfl, by congr 1; rw [Bool.eq_iff_iff]; simp [fitsB]; omega, hS1.tail⟩
                  · skip
                    refine wl_unwanted rfl rfl (decide_eq_false h10) rfl ?_
                    refine wl_unwanted rfl rfl (decide_eq_false h10) rfl ?_
                    refine wl_unwanted rfl rfl (decide_eq_false h10) rfl ?_
                    refine wl_unwanted rfl rfl (decide_eq_false h10) rfl ?_
                    refine wl_pickF rfl (decide_eq_false h10) rfl rfl ?_
                    refine wl_assign rfl rfl ?_
                    refine wl_nil ?_
                    refine qs_seq ?_
                    refine wc_sub (L' := [(2, _)]) (.cons rfl .nil) ?_
                    refine wc_ret ?_
                    refine fin1 (.inr rfl) rfl rfl ?_
                    exact ⟨_, rfl, by congr 1; rw [Bool.eq_iff_iff]; simp [fitsB]; omega, hS1.tail⟩
                · skip
                  refine wl_guard rfl rfl (decide_eq_false h9) ?_
                  refine wl_fieldAddr rfl fo_34_0 rfl ?_
                  refine wl_guard rfl rfl (decide_eq_false h9) ?_
                  refine wl_load rfl ag_3 (by first | assumption | exact hS1.cell 0 rfl rfl) rfl ?_
                  refine wl_guard rfl rfl (decide_eq_false h9) ?_
                  refine wl_eql rfl rfl rfl ?_
                  refine wl_guard rfl rfl (decide_eq_true h8) ?_
                  refine wl_pickF rfl (decide_eq_false h9) rfl rfl ?_
                  refine wl_pickT rfl (decide_eq_true h8) rfl rfl ?_
                  refine wl_move rfl rfl ?_
                  refine wl_splitD 54 rfl (fun h11 => ?_) (fun h11 => ?_)
                  · skip
                    refine wl_guard rfl rfl (decide_eq_true h11) ?_
                    refine wl_fieldAddr rfl fo_34_4 rfl ?_
                    refine wl_guard rfl rfl (decide_eq_true h11) ?_
                    refine wl_load rfl ag_3 (by first | assumption | exact hS1.cell 0 rfl rfl) rfl ?_
                    refine wl_guard rfl rfl (decide_eq_true h11) ?_
                    refine wl_move rfl rfl ?_
                    refine wl_guard rfl rfl (decide_eq_true h11) ?_
                    refine wl_leq rfl rfl rfl ?_
                    refine wl_pickT rfl (decide_eq_true h11) rfl rfl ?_
                    refine wl_move rfl rfl ?_
                    refine wl_splitD 60 rfl (fun h12 => ?_) (fun h12 => ?_)
                    · skip
                      refine wl_guard rfl rfl (decide_eq_true h12) ?_
                      refine wl_fieldAddr rfl fo_34_5 rfl ?_
                      refine wl_guard rfl rfl (decide_eq_true h12) ?_
                      refine wl_load rfl ag_3 (by first | assumption | exact hS1.cell 0 rfl rfl) rfl ?_
                      refine wl_guard rfl rfl (decide_eq_true h12) ?_
                      refine wl_move rfl rfl ?_
                      refine wl_guard rfl rfl (decide_eq_true h12) ?_
                      refine wl_leq rfl rfl rfl ?_
                      refine wl_pickT rfl (decide_eq_true h12) rfl rfl ?_
                      refine wl_assign rfl rfl ?_
                      refine wl_nil ?_
                      refine qs_seq ?_
                      refine wc_sub (L' := [(2, _)]) (.cons rfl .nil) ?_
                      refine wc_ret ?_
                      refine fin1 (.inr rfl) rfl rfl ?_
                      exact ⟨_, rfl, by congr 1; rw [Bool.eq_iff_iff]; simp [fitsB]; omega, hS1.tail⟩
                    · skip
                      refine wl_unwanted rfl rfl (decide_eq_false h12) rfl ?_
                      refine wl_unwanted rfl rfl (decide_eq_false h12) rfl ?_
                      refine wl_unwanted rfl rfl (decide_eq_false h12) rfl ?_
                      refine wl_unwanted rfl rfl (decide_eq_false h12) rfl ?_
                      refine wl_pickF rfl (decide_eq_false h12) rfl rfl ?_
                      refine wl_assign rfl rfl ?_
                      refine wl_nil ?_
                      refine qs_seq ?_
                      refine wc_sub (L' := [(2, _)]) (.cons rfl .nil) ?_
                      refine wc_ret ?_
                      refine fin1 (.inr rfl) rfl rfl ?_
                      exact ⟨_, rfl, by congr 1; rw [Bool.eq_iff_iff]; simp [fitsB]; omega, hS1.tail⟩
                  · skip
                    refine wl_unwanted rfl rfl (decide_eq_false h11) rfl ?_
                    refine wl_unwanted rfl rfl (decide_eq_false h11) rfl ?_
                    refine wl_unwanted rfl rfl (decide_eq_false h11) rfl ?_
                    refine wl_unwanted rfl rfl (decide_eq_false h11) rfl ?_
                    refine wl_pickF rfl (decide_eq_false h11) rfl rfl ?_
                    refine wl_move rfl rfl ?_
                    refine wl_unwanted rfl rfl rfl rfl ?_
                    refine wl_unwanted rfl rfl rfl rfl ?_
                    refine wl_unwanted rfl rfl rfl rfl ?_
                    refine wl_unwanted rfl rfl rfl rfl ?_
                    refine wl_pickF rfl rfl rfl rfl ?_
                    refine wl_assign rfl rfl ?_
                    refine wl_nil ?_
                    refine qs_seq ?_
                    refine wc_sub (L' := [(2, _)]) (.cons rfl .nil) ?_
                    refine wc_ret ?_
                    refine fin1 (.inr rfl) rfl rfl ?_
                    exact ⟨_, rfl, by congr 1; rw [Bool.eq_iff_iff]; simp [fitsB]; omega, hS1.tail⟩
              · skip
                refine wl_unwanted rfl rfl (decide_eq_false h8) rfl ?_
                refine wl_unwanted rfl rfl (decide_eq_false h8) rfl ?_
                refine wl_unwanted rfl rfl (decide_eq_false h8) rfl ?_
                refine wl_unwanted rfl rfl (decide_eq_false h8) rfl ?_
                refine wl_unwanted rfl rfl (decide_eq_false h8) rfl ?_
                refine wl_unguarded rfl rfl rfl ?_
                refine wl_unguarded rfl rfl rfl ?_
                refine wl_unguarded rfl rfl rfl ?_
                refine wl_unwanted rfl rfl (decide_eq_false h8) rfl ?_
                refine wl_pickF rfl (decide_eq_false h8) rfl rfl ?_
                refine wl_move rfl rfl ?_
                refine wl_unwanted rfl rfl rfl rfl ?_
                refine wl_unwanted rfl rfl rfl rfl ?_
                refine wl_unwanted rfl rfl rfl rfl ?_
                refine wl_unwanted rfl rfl rfl rfl ?_
                refine wl_pickF rfl rfl rfl rfl ?_
                refine wl_move rfl rfl ?_
                refine wl_unwanted rfl rfl rfl rfl ?_
                refine wl_unwanted rfl rfl rfl rfl ?_
                refine wl_unwanted rfl rfl rfl rfl ?_
                refine wl_unwanted rfl rfl rfl rfl ?_
                refine wl_pickF rfl rfl rfl rfl ?_
                refine wl_assign rfl rfl ?_
                refine wl_nil ?_
                refine qs_seq ?_
                refine wc_sub (L' := [(2, _)]) (.cons rfl .nil) ?_
                refine wc_ret ?_
                refine fin1 (.inr rfl) rfl rfl ?_
                exact ⟨_, rfl, by congr 1; rw [Bool.eq_iff_iff]; simp [fitsB]; omega, hS1.tail⟩
            · skip
              refine wl_unwanted rfl rfl (decide_eq_false h7) rfl ?_
              refine wl_unwanted rfl rfl (decide_eq_false h7) rfl ?_
              refine wl_unwanted rfl rfl (decide_eq_false h7) rfl ?_
              refine wl_unwanted rfl rfl (decide_eq_false h7) rfl ?_
              refine wl_unwanted rfl rfl (decide_eq_false h7) rfl ?_
              refine wl_pickF rfl (decide_eq_false h7) rfl rfl ?_
              refine wl_move rfl rfl ?_
              refine wl_unwanted rfl rfl rfl rfl ?_
              refine wl_unwanted rfl rfl rfl rfl ?_
              refine wl_unwanted rfl rfl rfl rfl ?_
              refine wl_unwanted rfl rfl rfl rfl ?_
              refine wl_unwanted rfl rfl rfl rfl ?_
              refine wl_unguarded rfl rfl rfl ?_
              refine wl_unguarded rfl rfl rfl ?_
              refine wl_unguarded rfl rfl rfl ?_
              refine wl_unwanted rfl rfl rfl rfl ?_
              refine wl_pickF rfl rfl rfl rfl ?_
              refine wl_move rfl rfl ?_
              refine wl_unwanted rfl rfl rfl rfl ?_
              refine wl_unwanted rfl rfl rfl rfl ?_
              refine wl_unwanted rfl rfl rfl rfl ?_
              refine wl_unwanted rfl rfl rfl rfl ?_
              refine wl_pickF rfl rfl rfl rfl ?_
              refine wl_move rfl rfl ?_
              refine wl_unwanted rfl rfl rfl rfl ?_
              refine wl_unwanted rfl rfl rfl rfl ?_
              refine wl_unwanted rfl rfl rfl rfl ?_
              refine wl_unwanted rfl rfl rfl rfl ?_
              refine wl_pickF rfl rfl rfl rfl ?_
              refine wl_assign rfl rfl ?_
              refine wl_nil ?_
              refine qs_seq ?_
              refine wc_sub (L' := [(2, _)]) (.cons rfl .nil) ?_
              refine wc_ret ?_
              refine fin1 (.inr rfl) rfl rfl ?_
              exact ⟨_, rfl, by congr 1; rw [Bool.eq_iff_iff]; simp [fitsB]; omega, hS1.tail⟩
          · skip
            refine wl_unwanted rfl rfl (decide_eq_false h6) rfl ?_
            refine wl_unwanted rfl rfl (decide_eq_false h6) rfl ?_
            refine wl_unwanted rfl rfl (decide_eq_false h6) rfl ?_
            refine wl_unwanted rfl rfl (decide_eq_false h6) rfl ?_
            refine wl_unwanted rfl rfl (decide_eq_false h6) rfl ?_
            refine wl_pickF rfl (decide_eq_false h6) rfl rfl ?_
            refine wl_move rfl rfl ?_
            refine wl_unwanted rfl rfl rfl rfl ?_
            refine wl_unwanted rfl rfl rfl rfl ?_
            refine wl_unwanted rfl rfl rfl rfl ?_
            refine wl_unwanted rfl rfl rfl rfl ?_
            refine wl_unwanted rfl rfl rfl rfl ?_
            refine wl_pickF rfl rfl rfl rfl ?_
            refine wl_move rfl rfl ?_
            refine wl_unwanted rfl rfl rfl rfl ?_
            refine wl_unwanted rfl rfl rfl rfl ?_
            refine wl_unwanted rfl rfl rfl rfl ?_
            refine wl_unwanted rfl rfl rfl rfl ?_
            refine wl_unwanted rfl rfl rfl rfl ?_
            refine wl_unguarded rfl rfl rfl ?_
            refine wl_unguarded rfl rfl rfl ?_
            refine wl_unguarded rfl rfl rfl ?_
            refine wl_unwanted rfl rfl rfl rfl ?_
            refine wl_pickF rfl rfl rfl rfl ?_
            refine wl_move rfl rfl ?_
            refine wl_unwanted rfl rfl rfl rfl ?_
            refine wl_unwanted rfl rfl rfl rfl ?_
            refine wl_unwanted rfl rfl rfl rfl ?_
            refine wl_unwanted rfl rfl rfl rfl ?_
            refine wl_pickF rfl rfl rfl rfl ?_
            refine wl_move rfl rfl ?_
            refine wl_unwanted rfl rfl rfl rfl ?_
            refine wl_unwanted rfl rfl rfl rfl ?_
            refine wl_unwanted rfl rfl rfl rfl ?_
            refine wl_unwanted rfl rfl rfl rfl ?_
            refine wl_pickF rfl rfl rfl rfl ?_
            refine wl_assign rfl rfl ?_
            refine wl_nil ?_
            refine qs_seq ?_
            refine wc_sub (L' := [(2, _)]) (.cons rfl .nil) ?_
            refine wc_ret ?_
            refine fin1 (.inr rfl) rfl rfl ?_
            exact ⟨_, rfl, by congr 1; rw [Bool.eq_iff_iff]; simp [fitsB]; omega, hS1.tail⟩
        · skip
          refine wl_unwanted rfl rfl (decide_eq_false h5) rfl ?_
          refine wl_unwanted rfl rfl (decide_eq_false h5) rfl ?_
          refine wl_unwanted rfl rfl (decide_eq_false h5) rfl ?_
          refine wl_unwanted rfl rfl (decide_eq_false h5) rfl ?_
          refine wl_unwanted rfl rfl (decide_eq_false h5) rfl ?_
          refine wl_pickF rfl (decide_eq_false h5) rfl rfl ?_
          refine wl_move rfl rfl ?_
          refine wl_unwanted rfl rfl rfl rfl ?_
          refine wl_unwanted rfl rfl rfl rfl ?_
          refine wl_unwanted rfl rfl rfl rfl ?_
          refine wl_unwanted rfl rfl rfl rfl ?_
          refine wl_unwanted rfl rfl rfl rfl ?_
          refine wl_pickF rfl rfl rfl rfl ?_
          refine wl_move rfl rfl ?_
          refine wl_unwanted rfl rfl rfl rfl ?_
          refine wl_unwanted rfl rfl rfl rfl ?_
          refine wl_unwanted rfl rfl rfl rfl ?_
          refine wl_unwanted rfl rfl rfl rfl ?_
          refine wl_unwanted rfl rfl rfl rfl ?_
          refine wl_pickF rfl rfl rfl rfl ?_
          refine wl_move rfl rfl ?_
          refine wl_unwanted rfl rfl rfl rfl ?_
          refine wl_unwanted rfl rfl rfl rfl ?_
          refine wl_unwanted rfl rfl rfl rfl ?_
          refine wl_unwanted rfl rfl rfl rfl ?_
          refine wl_unwanted rfl rfl rfl rfl ?_
          refine wl_unguarded rfl rfl rfl ?_
          refine wl_unguarded rfl rfl rfl ?_
          refine wl_unguarded rfl rfl rfl ?_
          refine wl_unwanted rfl rfl rfl rfl ?_
          refine wl_pickF rfl rfl rfl rfl ?_
          refine wl_move rfl rfl ?_
          refine wl_unwanted rfl rfl rfl rfl ?_
          refine wl_unwanted rfl rfl rfl rfl ?_
          refine wl_unwanted rfl rfl rfl rfl ?_
          refine wl_unwanted rfl rfl rfl rfl ?_
          refine wl_pickF rfl rfl rfl rfl ?_
          refine wl_move rfl rfl ?_
          refine wl_unwanted rfl rfl rfl rfl ?_
          refine wl_unwanted rfl rfl rfl rfl ?_
          refine wl_unwanted rfl rfl rfl rfl ?_
          refine wl_unwanted rfl rfl rfl rfl ?_
          refine wl_pickF rfl rfl rfl rfl ?_
          refine wl_assign rfl rfl ?_
          refine wl_nil ?_
          refine qs_seq ?_
          refine wc_sub (L' := [(2, _)]) (.cons rfl .nil) ?_
          refine wc_ret ?_
          refine fin1 (.inr rfl) rfl rfl ?_
          exact ⟨_, rfl, by congr 1; rw [Bool.eq_iff_iff]; simp [fitsB]; omega, hS1.tail⟩
      · skip
        refine wl_unwanted rfl rfl (decide_eq_false h4) rfl ?_
        refine wl_unwanted rfl rfl (decide_eq_false h4) rfl ?_
        refine wl_unwanted rfl rfl (decide_eq_false h4) rfl ?_
        refine wl_unwanted rfl rfl (decide_eq_false h4) rfl ?_
        refine wl_pickF rfl (decide_eq_false h4) rfl rfl ?_
        refine wl_move rfl rfl ?_
        refine wl_unwanted rfl rfl rfl rfl ?_
        refine wl_unwanted rfl rfl rfl rfl ?_
        refine wl_unwanted rfl rfl rfl rfl ?_
        refine wl_unwanted rfl rfl rfl rfl ?_
        refine wl_unwanted rfl rfl rfl rfl ?_
        refine wl_pickF rfl rfl rfl rfl ?_
        refine wl_move rfl rfl ?_
        refine wl_unwanted rfl rfl rfl rfl ?_
        refine wl_unwanted rfl rfl rfl rfl ?_
        refine wl_unwanted rfl rfl rfl rfl ?_
        refine wl_unwanted rfl rfl rfl rfl ?_
        refine wl_unwanted rfl rfl rfl rfl ?_
        refine wl_pickF rfl rfl rfl rfl ?_
        refine wl_move rfl rfl ?_
        refine wl_unwanted rfl rfl rfl rfl ?_
        refine wl_unwanted rfl rfl rfl rfl ?_
        refine wl_unwanted rfl rfl rfl rfl ?_
        refine wl_unwanted rfl rfl rfl rfl ?_
        refine wl_unwanted rfl rfl rfl rfl ?_
        refine wl_pickF rfl rfl rfl rfl ?_
        refine wl_move rfl rfl ?_
        refine wl_unwanted rfl rfl rfl rfl ?_
        refine wl_unwanted rfl rfl rfl rfl ?_
        refine wl_unwanted rfl rfl rfl rfl ?_
        refine wl_unwanted rfl rfl rfl rfl ?_
        refine wl_unwanted rfl rfl rfl rfl ?_
        refine wl_unguarded rfl rfl rfl ?_
        refine wl_unguarded rfl rfl rfl ?_
        refine wl_unguarded rfl rfl rfl ?_
        refine wl_unwanted rfl rfl rfl rfl ?_
        refine wl_pickF rfl rfl rfl rfl ?_
        refine wl_move rfl rfl ?_
        refine wl_unwanted rfl rfl rfl rfl ?_
        refine wl_unwanted rfl rfl rfl rfl ?_
        refine wl_unwanted rfl rfl rfl rfl ?_
        refine wl_unwanted rfl rfl rfl rfl ?_
        refine wl_pickF rfl rfl rfl rfl ?_
        refine wl_move rfl rfl ?_
        refine wl_unwanted rfl rfl rfl rfl ?_
        refine wl_unwanted rfl rfl rfl rfl ?_
        refine wl_unwanted rfl rfl rfl rfl ?_
        refine wl_unwanted rfl rfl rfl rfl ?_
        refine wl_pickF rfl rfl rfl rfl ?_
        refine wl_assign rfl rfl ?_
        refine wl_nil ?_
        refine qs_seq ?_
        refine wc_sub (L' := [(2, _)]) (.cons rfl .nil) ?_
        refine wc_ret ?_
        refine fin1 (.inr rfl) rfl rfl ?_
        exact ⟨_, rfl, by congr 1; rw [Bool.eq_iff_iff]; simp [fitsB]; omega, hS1.tail⟩
  · skip
    refine wl_unwanted rfl rfl (decide_eq_false h2) rfl ?_
    refine wl_unwanted rfl rfl (decide_eq_false h2) rfl ?_
    refine wl_unwanted rfl rfl (decide_eq_false h2) rfl ?_
    refine wl_pickF rfl (decide_eq_false h2) rfl rfl ?_
    refine wl_nil ?_
    refine qs_seq ?_
    refine wc_sub (L' := [(11, _), (2, _), (1, _)]) (.cons rfl (.cons rfl (.cons rfl .nil))) ?_
    refine wc_condF rfl ?_
    refine wc_skip ?_
    refine qs_seq ?_
    refine wc_seq ?_
    refine wc_region ?_
    refine wl_assign rfl rfl ?_
    refine wl_nil ?_
    refine qs_seq ?_
    refine wc_seq ?_
    refine wc_region ?_
    refine wl_fieldAddr rfl fo_34_1 rfl ?_
    refine wl_load rfl ag_9 (by first | assumption | exact hS1.cell 0 rfl rfl) rfl ?_
    refine wl_lenS Tryz.underlying9 rfl rfl ?_
    refine wl_leq rfl rfl rfl ?_
    refine wl_move rfl rfl ?_
    refine wl_splitD 16 rfl (fun h13 => ?_) (fun h13 => ?_)
    · skip
      refine wl_guard rfl rfl (decide_eq_true h13) ?_
      refine wl_fieldAddr rfl fo_34_2 rfl ?_
      refine wl_guard rfl rfl (decide_eq_true h13) ?_
      refine wl_load rfl ag_9 (by first | assumption | exact hS1.cell 0 rfl rfl) rfl ?_
      refine wl_guard rfl rfl (decide_eq_true h13) ?_
      refine wl_lenS Tryz.underlying9 rfl rfl ?_
      refine wl_guard rfl rfl (decide_eq_true h13) ?_
      refine wl_leq rfl rfl rfl ?_
      refine wl_pickT rfl (decide_eq_true h13) rfl rfl ?_
      refine wl_move rfl rfl ?_
      refine wl_splitD 22 rfl (fun h14 => ?_) (fun h14 => ?_)
      · skip
        refine wl_guard rfl rfl (decide_eq_true h14) ?_
        refine wl_fieldAddr rfl fo_34_3 rfl ?_
        refine wl_guard rfl rfl (decide_eq_true h14) ?_
        refine wl_load rfl ag_3 (by first | assumption | exact hS1.cell 0 rfl rfl) rfl ?_
        refine wl_guard rfl rfl (decide_eq_true h14) ?_
        refine wl_move rfl rfl ?_
        refine wl_guard rfl rfl (decide_eq_true h14) ?_
        refine wl_neg rfl (by omega) (by omega) rfl ?_
        refine wl_guard rfl rfl (decide_eq_true h14) ?_
        refine wl_geq rfl rfl rfl ?_
        refine wl_pickT rfl (decide_eq_true h14) rfl rfl ?_
        refine wl_move rfl rfl ?_
        refine wl_splitD 29 rfl (fun h15 => ?_) (fun h15 => ?_)
        · skip
          refine wl_guard rfl rfl (decide_eq_true h15) ?_
          refine wl_fieldAddr rfl fo_34_4 rfl ?_
          refine wl_guard rfl rfl (decide_eq_true h15) ?_
          refine wl_load rfl ag_3 (by first | assumption | exact hS1.cell 0 rfl rfl) rfl ?_
          refine wl_guard rfl rfl (decide_eq_true h15) ?_
          refine wl_move rfl rfl ?_
          refine wl_guard rfl rfl (decide_eq_true h15) ?_
          refine wl_neg rfl (by omega) (by omega) rfl ?_
          refine wl_guard rfl rfl (decide_eq_true h15) ?_
          refine wl_geq rfl rfl rfl ?_
          refine wl_pickT rfl (decide_eq_true h15) rfl rfl ?_
          refine wl_move rfl rfl ?_
          refine wl_splitD 36 rfl (fun h16 => ?_) (fun h16 => ?_)
          · skip
            refine wl_guard rfl rfl (decide_eq_true h16) ?_
            refine wl_fieldAddr rfl fo_34_5 rfl ?_
            refine wl_guard rfl rfl (decide_eq_true h16) ?_
            refine wl_load rfl ag_3 (by first | assumption | exact hS1.cell 0 rfl rfl) rfl ?_
            refine wl_guard rfl rfl (decide_eq_true h16) ?_
            refine wl_move rfl rfl ?_
            refine wl_guard rfl rfl (decide_eq_true h16) ?_
            refine wl_neg rfl (by omega) (by omega) rfl ?_
            refine wl_guard rfl rfl (decide_eq_true h16) ?_
            refine wl_geq rfl rfl rfl ?_
            refine wl_pickT rfl (decide_eq_true h16) rfl rfl ?_
            refine wl_move rfl rfl ?_
            refine wl_splitD 43 rfl (fun h17 => ?_) (fun h17 => ?_)
            · skip
              refine wl_guard rfl rfl (decide_eq_true h17) ?_
              refine wl_fieldAddr rfl fo_34_3 rfl ?_
              refine wl_guard rfl rfl (decide_eq_true h17) ?_
              refine wl_load rfl ag_3 (by first | assumption | exact hS1.cell 0 rfl rfl) rfl ?_
              refine wl_guard rfl rfl (decide_eq_true h17) ?_
              refine wl_move rfl rfl ?_
              refine wl_guard rfl rfl (decide_eq_true h17) ?_
              refine wl_leq rfl rfl rfl ?_
              refine wl_guard rfl rfl (decide_eq_true h17) ?_
              refine wl_move rfl rfl ?_
              refine wl_splitD 48 rfl (fun h18 => ?_) (fun h18 => ?_)
              · skip
                refine wl_unwanted rfl rfl (decide_eq_true h18) rfl ?_
                refine wl_unwanted rfl rfl (decide_eq_true h18) rfl ?_
                refine wl_unwanted rfl rfl (decide_eq_true h18) rfl ?_
                refine wl_guard rfl rfl (decide_eq_true h17) ?_
                refine wl_pickT rfl (decide_eq_true h18) rfl rfl ?_
                refine wl_pickT rfl (decide_eq_true h17) rfl rfl ?_
                refine wl_move rfl rfl ?_
                refine wl_guard rfl rfl rfl ?_
                refine wl_fieldAddr rfl fo_34_4 rfl ?_
                refine wl_guard rfl rfl rfl ?_
                refine wl_load rfl ag_3 (by first | assumption | exact hS1.cell 0 rfl rfl) rfl ?_
                refine wl_guard rfl rfl rfl ?_
                refine wl_move rfl rfl ?_
                refine wl_guard rfl rfl rfl ?_
                refine wl_leq rfl rfl rfl ?_
                refine wl_pickT rfl rfl rfl rfl ?_
                refine wl_move rfl rfl ?_
                refine wl_splitD 60 rfl (fun h19 => ?_) (fun h19 => ?_)
                · skip
                  refine wl_guard rfl rfl (decide_eq_true h19) ?_
                  refine wl_fieldAddr rfl fo_34_5 rfl ?_
                  refine wl_guard rfl rfl (decide_eq_true h19) ?_
                  refine wl_load rfl ag_3 (by first | assumption | exact hS1.cell 0 rfl rfl) rfl ?_
                  refine wl_guard rfl rfl (decide_eq_true h19) ?_
                  refine wl_move rfl rfl ?_
                  refine wl_guard rfl rfl (decide_eq_true h19) ?_
                  refine wl_leq rfl rfl rfl ?_
                  refine wl_pickT rfl (decide_eq_true h19) rfl rfl ?_
                  refine wl_assign rfl rfl ?_
                  refine wl_nil ?_
                  refine qs_seq ?_
                  refine wc_sub (L' := [(2, _)]) (.cons rfl .nil) ?_
                  refine wc_ret ?_
                  refine fin1 (.inr rfl) rfl rfl ?_
                  exact ⟨_, rfl, by congr 1; rw [Bool.eq_iff_iff]; simp [fitsB]; omega, hS1.tail⟩
                · skip
                  refine wl_unwanted rfl rfl (decide_eq_false h19) rfl ?_
                  refine wl_unwanted rfl rfl (decide_eq_false h19) rfl ?_
                  refine wl_unwanted rfl rfl (decide_eq_false h19) rfl ?_
                  refine wl_unwanted rfl rfl (decide_eq_false h19) rfl ?_
                  refine wl_pickF rfl (decide_eq_false h19) rfl rfl ?_
                  refine wl_assign rfl rfl ?_
                  refine wl_nil ?_
                  refine qs_seq ?_
                  refine wc_sub (L' := [(2, _)]) (.cons rfl .nil) ?_
                  refine wc_ret ?_
                  refine fin1 (.inr rfl) rfl rfl ?_
                  exact ⟨_, rfl, by congr 1; rw [Bool.eq_iff_iff]; simp [fitsB]; omega, hS1.tail⟩
              · skip
                refine wl_guard rfl rfl (decide_eq_false h18) ?_
                refine wl_fieldAddr rfl fo_34_0 rfl ?_
                refine wl_guard rfl rfl (decide_eq_false h18) ?_
                refine wl_load rfl ag_3 (by first | assumption | exact hS1.cell 0 rfl rfl) rfl ?_
                refine wl_guard rfl rfl (decide_eq_false h18) ?_
                refine wl_eql rfl rfl rfl ?_
                refine wl_guard rfl rfl (decide_eq_true h17) ?_
                refine wl_pickF rfl (decide_eq_false h18) rfl rfl ?_
                refine wl_pickT rfl (decide_eq_true h17) rfl rfl ?_
                refine wl_move rfl rfl ?_
                refine wl_splitD 54 rfl (fun h20 => ?_) (fun h20 => ?_)
                · skip
                  refine wl_guard rfl rfl (decide_eq_true h20) ?_
                  refine wl_fieldAddr rfl fo_34_4 rfl ?_
                  refine wl_guard rfl rfl (decide_eq_true h20) ?_
                  refine wl_load rfl ag_3 (by first | assumption | exact hS1.cell 0 rfl rfl) rfl ?_
                  refine wl_guard rfl rfl (decide_eq_true h20) ?_
                  refine wl_move rfl rfl ?_
                  refine wl_guard rfl rfl (decide_eq_true h20) ?_
                  refine wl_leq rfl rfl rfl ?_
                  refine wl_pickT rfl (decide_eq_true h20) rfl rfl ?_
                  refine wl_move rfl rfl ?_
                  refine wl_splitD 60 rfl (fun h21 => ?_) (fun h21 => ?_)
                  · skip
                    refine wl_guard rfl rfl (decide_eq_true h21) ?_
                    refine wl_fieldAddr rfl fo_34_5 rfl ?_
                    refine wl_guard rfl rfl (decide_eq_true h21) ?_
                    refine wl_load rfl ag_3 (by first | assumption | exact hS1.cell 0 rfl rfl) rfl ?_
                    refine wl_guard rfl rfl (decide_eq_true h21) ?_
                    refine wl_move rfl rfl ?_
                    refine wl_guard rfl rfl (decide_eq_true h21) ?_
                    refine wl_leq rfl rfl rfl ?_
                    refine wl_pickT rfl (decide_eq_true h21) rfl rfl ?_
                    refine wl_assign rfl rfl ?_
                    refine wl_nil ?_
                    refine qs_seq ?_
                    refine wc_sub (L' := [(2, _)]) (.cons rfl .nil) ?_
                    refine wc_ret ?_
                    refine fin1 (.inr rfl) rfl rfl ?_
                    exact ⟨_, rfl, by congr 1; rw [Bool.eq_iff_iff]; simp [fitsB]; omega, hS1.tail⟩
                  · skip
                    refine wl_unwanted rfl rfl (decide_eq_false h21) rfl ?_
                    refine wl_unwanted rfl rfl (decide_eq_false h21) rfl ?_
                    refine wl_unwanted rfl rfl (decide_eq_false h21) rfl ?_
                    refine wl_unwanted rfl rfl (decide_eq_false h21) rfl ?_
                    refine wl_pickF rfl (decide_eq_false h21) rfl rfl ?_
                    refine wl_assign rfl rfl ?_
                    refine wl_nil ?_
                    refine qs_seq ?_
                    refine wc_sub (L' := [(2, _)]) (.cons rfl .nil) ?_
                    refine wc_ret ?_
                    refine fin1 (.inr rfl) rfl rfl ?_
                    exact ⟨_, rfl, by congr 1; rw [Bool.eq_iff_iff]; simp [fitsB]; omega, hS1.tail⟩
                · skip
                  refine wl_unwanted rfl rfl (decide_eq_false h20) rfl ?_
                  refine wl_unwanted rfl rfl (decide_eq_false h20) rfl ?_
                  refine wl_unwanted rfl rfl (decide_eq_false h20) rfl ?_
                  refine wl_unwanted rfl rfl (decide_eq_false h20) rfl ?_
                  refine wl_pickF rfl (decide_eq_false h20) rfl rfl ?_
                  refine wl_move rfl rfl ?_
                  refine wl_unwanted rfl rfl rfl rfl ?_
                  refine wl_unwanted rfl rfl rfl rfl ?_
                  refine wl_unwanted rfl rfl rfl rfl ?_
                  refine wl_unwanted rfl rfl rfl rfl ?_
                  refine wl_pickF rfl rfl rfl rfl ?_
                  refine wl_assign rfl rfl ?_
                  refine wl_nil ?_
                  refine qs_seq ?_
                  refine wc_sub (L' := [(2, _)]) (.cons rfl .nil) ?_
                  refine wc_ret ?_
                  refine fin1 (.inr rfl) rfl rfl ?_
                  exact ⟨_, rfl, by congr 1; rw [Bool.eq_iff_iff]; simp [fitsB]; omega, hS1.tail⟩
            · skip
              refine wl_unwanted rfl rfl (decide_eq_false h17) rfl ?_
              refine wl_unwanted rfl rfl (decide_eq_false h17) rfl ?_
              refine wl_unwanted rfl rfl (decide_eq_false h17) rfl ?_
              refine wl_unwanted rfl rfl (decide_eq_false h17) rfl ?_
              refine wl_unwanted rfl rfl (decide_eq_false h17) rfl ?_
              refine wl_unguarded rfl rfl rfl ?_
              refine wl_unguarded rfl rfl rfl ?_
              refine wl_unguarded rfl rfl rfl ?_
              refine wl_unwanted rfl rfl (decide_eq_false h17) rfl ?_
              refine wl_pickF rfl (decide_eq_false h17) rfl rfl ?_
              refine wl_move rfl rfl ?_
              refine wl_unwanted rfl rfl rfl rfl ?_
              refine wl_unwanted rfl rfl rfl rfl ?_
              refine wl_unwanted rfl rfl rfl rfl ?_
              refine wl_unwanted rfl rfl rfl rfl ?_
              refine wl_pickF rfl rfl rfl rfl ?_
              refine wl_move rfl rfl ?_
              refine wl_unwanted rfl rfl rfl rfl ?_
              refine wl_unwanted rfl rfl rfl rfl ?_
              refine wl_unwanted rfl rfl rfl rfl ?_
              refine wl_unwanted rfl rfl rfl rfl ?_
              refine wl_pickF rfl rfl rfl rfl ?_
              refine wl_assign rfl rfl ?_
              refine wl_nil ?_
              refine qs_seq ?_
              refine wc_sub (L' := [(2, _)]) (.cons rfl .nil) ?_
              refine wc_ret ?_
              refine fin1 (.inr rfl) rfl rfl ?_
              exact ⟨_, rfl, by congr 1; rw [Bool.eq_iff_iff]; simp [fitsB]; omega, hS1.tail⟩
          · skip
            refine wl_unwanted rfl rfl (decide_eq_false h16) rfl ?_
            refine wl_unwanted rfl rfl (decide_eq_false h16) rfl ?_
            refine wl_unwanted rfl rfl (decide_eq_false h16) rfl ?_
            refine wl_unwanted rfl rfl (decide_eq_false h16) rfl ?_
            refine wl_unwanted rfl rfl (decide_eq_false h16) rfl ?_
            refine wl_pickF rfl (decide_eq_false h16) rfl rfl ?_
            refine wl_move rfl rfl ?_
            refine wl_unwanted rfl rfl rfl rfl ?_
            refine wl_unwanted rfl rfl rfl rfl ?_
            refine wl_unwanted rfl rfl rfl rfl ?_
            refine wl_unwanted rfl rfl rfl rfl ?_
            refine wl_unwanted rfl rfl rfl rfl ?_
            refine wl_unguarded rfl rfl rfl ?_
            refine wl_unguarded rfl rfl rfl ?_
            refine wl_unguarded rfl rfl rfl ?_
            refine wl_unwanted rfl rfl rfl rfl ?_
            refine wl_pickF rfl rfl rfl rfl ?_
            refine wl_move rfl rfl ?_
            refine wl_unwanted rfl rfl rfl rfl ?_
            refine wl_unwanted rfl rfl rfl rfl ?_
            refine wl_unwanted rfl rfl rfl rfl ?_
            refine wl_unwanted rfl rfl rfl rfl ?_
            refine wl_pickF rfl rfl rfl rfl ?_
            refine wl_move rfl rfl ?_
            refine wl_unwanted rfl rfl rfl rfl ?_
            refine wl_unwanted rfl rfl rfl rfl ?_
            refine wl_unwanted rfl rfl rfl rfl ?_
            refine wl_unwanted rfl rfl rfl rfl ?_
            refine wl_pickF rfl rfl rfl rfl ?_
            refine wl_assign rfl rfl ?_
            refine wl_nil ?_
            refine qs_seq ?_
            refine wc_sub (L' := [(2, _)]) (.cons rfl .nil) ?_
            refine wc_ret ?_
            refine fin1 (.inr rfl) rfl rfl ?_
            exact ⟨_, rfl, by congr 1; rw [Bool.eq_iff_iff]; simp [fitsB]; omega, hS1.tail⟩
        · skip
          refine wl_unwanted rfl rfl (decide_eq_false h15) rfl ?_
          refine wl_unwanted rfl rfl (decide_eq_false h15) rfl ?_
          refine wl_unwanted rfl rfl (decide_eq_false h15) rfl ?_
          refine wl_unwanted rfl rfl (decide_eq_false h15) rfl ?_
          refine wl_unwanted rfl rfl (decide_eq_false h15) rfl ?_
          refine wl_pickF rfl (decide_eq_false h15) rfl rfl ?_
          refine wl_move rfl rfl ?_
          refine wl_unwanted rfl rfl rfl rfl ?_
          refine wl_unwanted rfl rfl rfl rfl ?_
          refine wl_unwanted rfl rfl rfl rfl ?_
          refine wl_unwanted rfl rfl rfl rfl ?_
          refine wl_unwanted rfl rfl rfl rfl ?_
          refine wl_pickF rfl rfl rfl rfl ?_
          refine wl_move rfl rfl ?_
          refine wl_unwanted rfl rfl rfl rfl ?_
          refine wl_unwanted rfl rfl rfl rfl ?_
          refine wl_unwanted rfl rfl rfl rfl ?_
          refine wl_unwanted rfl rfl rfl rfl ?_
          refine wl_unwanted rfl rfl rfl rfl ?_
          refine wl_unguarded rfl rfl rfl ?_
          refine wl_unguarded rfl rfl rfl ?_
          refine wl_unguarded rfl rfl rfl ?_
          refine wl_unwanted rfl rfl rfl rfl ?_
          refine wl_pickF rfl rfl rfl rfl ?_
          refine wl_move rfl rfl ?_
          refine wl_unwanted rfl rfl rfl rfl ?_
          refine wl_unwanted rfl rfl rfl rfl ?_
          refine wl_unwanted rfl rfl rfl rfl ?_
          refine wl_unwanted rfl rfl rfl rfl ?_
          refine wl_pickF rfl rfl rfl rfl ?_
          refine wl_move rfl rfl ?_
          refine wl_unwanted rfl rfl rfl rfl ?_
          refine wl_unwanted rfl rfl rfl rfl ?_
          refine wl_unwanted rfl rfl rfl rfl ?_
          refine wl_unwanted rfl rfl rfl rfl ?_
          refine wl_pickF rfl rfl rfl rfl ?_
          refine wl_assign rfl rfl ?_
          refine wl_nil ?_
          refine qs_seq ?_
          refine wc_sub (L' := [(2, _)]) (.cons rfl .nil) ?_
          refine wc_ret ?_
          refine fin1 (.inr rfl) rfl rfl ?_
          exact ⟨_, rfl, by congr 1; rw [Bool.eq_iff_iff]; simp [fitsB]; omega, hS1.tail⟩
      · skip
        refine wl_unwanted rfl rfl (decide_eq_false h14) rfl ?_
        refine wl_unwanted rfl rfl (decide_eq_false h14) rfl ?_
        refine wl_unwanted rfl rfl (decide_eq_false h14) rfl ?_
        refine wl_unwanted rfl rfl (decide_eq_false h14) rfl ?_
        refine wl_unwanted rfl rfl (decide_eq_false h14) rfl ?_
        refine wl_pickF rfl (decide_eq_false h14) rfl rfl ?_
        refine wl_move rfl rfl ?_
        refine wl_unwanted rfl rfl rfl rfl ?_
        refine wl_unwanted rfl rfl rfl rfl ?_
        refine wl_unwanted rfl rfl rfl rfl ?_
        refine wl_unwanted rfl rfl rfl rfl ?_
        refine wl_unwanted rfl rfl rfl rfl ?_
        refine wl_pickF rfl rfl rfl rfl ?_
        refine wl_move rfl rfl ?_
        refine wl_unwanted rfl rfl rfl rfl ?_
        refine wl_unwanted rfl rfl rfl rfl ?_
        refine wl_unwanted rfl rfl rfl rfl ?_
        refine wl_unwanted rfl rfl rfl rfl ?_
        refine wl_unwanted rfl rfl rfl rfl ?_
        refine wl_pickF rfl rfl rfl rfl ?_
        refine wl_move rfl rfl ?_
        refine wl_unwanted rfl rfl rfl rfl ?_
        refine wl_unwanted rfl rfl rfl rfl ?_
        refine wl_unwanted rfl rfl rfl rfl ?_
        refine wl_unwanted rfl rfl rfl rfl ?_
        refine wl_unwanted rfl rfl rfl rfl ?_
        refine wl_unguarded rfl rfl rfl ?_
        refine wl_unguarded rfl rfl rfl ?_
        refine wl_unguarded rfl rfl rfl ?_
        refine wl_unwanted rfl rfl rfl rfl ?_
        refine wl_pickF rfl rfl rfl rfl ?_
        refine wl_move rfl rfl ?_
        refine wl_unwanted rfl rfl rfl rfl ?_
        refine wl_unwanted rfl rfl rfl rfl ?_
        refine wl_unwanted rfl rfl rfl rfl ?_
        refine wl_unwanted rfl rfl rfl rfl ?_
        refine wl_pickF rfl rfl rfl rfl ?_
        refine wl_move rfl rfl ?_
        refine wl_unwanted rfl rfl rfl rfl ?_
        refine wl_unwanted rfl rfl rfl rfl ?_
        refine wl_unwanted rfl rfl rfl rfl ?_
        refine wl_unwanted rfl rfl rfl rfl ?_
        refine wl_pickF rfl rfl rfl rfl ?_
        refine wl_assign rfl rfl ?_
        refine wl_nil ?_
        refine qs_seq ?_
        refine wc_sub (L' := [(2, _)]) (.cons rfl .nil) ?_
        refine wc_ret ?_
        refine fin1 (.inr rfl) rfl rfl ?_
        exact ⟨_, rfl, by congr 1; rw [Bool.eq_iff_iff]; simp [fitsB]; omega, hS1.tail⟩
    · skip
      refine wl_unwanted rfl rfl (decide_eq_false h13) rfl ?_
      refine wl_unwanted rfl rfl (decide_eq_false h13) rfl ?_
      refine wl_unwanted rfl rfl (decide_eq_false h13) rfl ?_
      refine wl_unwanted rfl rfl (decide_eq_false h13) rfl ?_
      refine wl_pickF rfl (decide_eq_false h13) rfl rfl ?_
      refine wl_move rfl rfl ?_
      refine wl_unwanted rfl rfl rfl rfl ?_
      refine wl_unwanted rfl rfl rfl rfl ?_
      refine wl_unwanted rfl rfl rfl rfl ?_
      refine wl_unwanted rfl rfl rfl rfl ?_
      refine wl_unwanted rfl rfl rfl rfl ?_
      refine wl_pickF rfl rfl rfl rfl ?_
      refine wl_move rfl rfl ?_
      refine wl_unwanted rfl rfl rfl rfl ?_
      refine wl_unwanted rfl rfl rfl rfl ?_
      refine wl_unwanted rfl rfl rfl rfl ?_
      refine wl_unwanted rfl rfl rfl rfl ?_
      refine wl_unwanted rfl rfl rfl rfl ?_
      refine wl_pickF rfl rfl rfl rfl ?_
      refine wl_move rfl rfl ?_
      refine wl_unwanted rfl rfl rfl rfl ?_
      refine wl_unwanted rfl rfl rfl rfl ?_
      refine wl_unwanted rfl rfl rfl rfl ?_
      refine wl_unwanted rfl rfl rfl rfl ?_
      refine wl_unwanted rfl rfl rfl rfl ?_
      refine wl_pickF rfl rfl rfl rfl ?_
      refine wl_move rfl rfl ?_
      refine wl_unwanted rfl rfl rfl rfl ?_
      refine wl_unwanted rfl rfl rfl rfl ?_
      refine wl_unwanted rfl rfl rfl rfl ?_
      refine wl_unwanted rfl rfl rfl rfl ?_
      refine wl_unwanted rfl rfl rfl rfl ?_
      refine wl_unguarded rfl rfl rfl ?_
      refine wl_unguarded rfl rfl rfl ?_
      refine wl_unguarded rfl rfl rfl ?_
      refine wl_unwanted rfl rfl rfl rfl ?_
      refine wl_pickF rfl rfl rfl rfl ?_
      refine wl_move rfl rfl ?_
      refine wl_unwanted rfl rfl rfl rfl ?_
      refine wl_unwanted rfl rfl rfl rfl ?_
      refine wl_unwanted rfl rfl rfl rfl ?_
      refine wl_unwanted rfl rfl rfl rfl ?_
      refine wl_pickF rfl rfl rfl rfl ?_
      refine wl_move rfl rfl ?_
      refine wl_unwanted rfl rfl rfl rfl ?_
      refine wl_unwanted rfl rfl rfl rfl ?_
      refine wl_unwanted rfl rfl rfl rfl ?_
      refine wl_unwanted rfl rfl rfl rfl ?_
      refine wl_pickF rfl rfl rfl rfl ?_
      refine wl_assign rfl rfl ?_
      refine wl_nil ?_
      refine qs_seq ?_
      refine wc_sub (L' := [(2, _)]) (.cons rfl .nil) ?_
      refine wc_ret ?_
      refine fin1 (.inr rfl) rfl rfl ?_
      exact ⟨_, rfl, by congr 1; rw [Bool.eq_iff_iff]; simp [fitsB]; omega, hS1.tail⟩

theorem few_bad {l : List OpD} {n : Int} {i : Nat} {o : OpD} (ho : l[i]? = some o) (h : fitsB o = false) : Value.bool false = .bool (fewB l n) := by
  have : l.all fitsB = false := by
    rw [List.all_eq_false]; exact ⟨o, List.mem_of_getElem? ho, by rw [h]; simp⟩
  simp [fewB, this]
theorem few_end {l : List OpD} {n : Int} {i : Nat} (hok : ∀ j o, j < i → l[j]? = some o → fitsB o = true) (he : ¬ (i : Int) < l.length ∨ ¬ (i : Int) ≤ n) (hi : i ≤ l.length) : Value.bool (decide ((l.length : Int) ≤ n)) = .bool (fewB l n) := by
  by_cases hn : (l.length : Int) ≤ n
  · have : l.all fitsB = true := by
      rw [List.all_eq_true]; intro o ho
      obtain ⟨j, hj⟩ := List.mem_iff_getElem?.1 ho
      exact hok j o (by have := (List.getElem?_eq_some_iff.1 hj).1; omega) hj
    simp [fewB, this]
  · simp [fewB, hn]
set_option maxRecDepth 100000 in
theorem few_sp {w : World} {F : Th} (hS : Sat w [F]) {lv : Value} {l : List OpD} (hL : Ent F (RdL opC lv l)) (n : Int) :
    Calls Tryz.prog 6 #[lv, intV n] w (Ret fun v w' => v = .bool (fewB l n) ∧ Sat w' [F]) := by
  obtain ⟨ao, cap, rfl, hmax⟩ := (hL.sat hS 0 rfl).shape
  refine calls_enter Tryz.func6 rfl Tryz.ntmps6 rfl ?_
  refine wc_seq ?_
  refine wc_region ?_
  refine wl_assign rfl rfl ?_
  refine wl_nil ?_
  refine qs_seq ?_
  refine wc_seq ?_
  refine wc_seq ?_
  refine wc_region ?_
  refine wl_assign rfl rfl ?_
  refine wl_nil ?_
  refine qs_seq ?_
  refine wc_block ?_
  refine wc_loop (fun K0 E0 W0 => ∃ (i : Nat), K0 = l.length - i ∧ E0 = [(0, .slice ao l.length cap), (1, intV n), (5, intV (i : Int))] ∧ Sat W0 [F] ∧ (i ≤ l.length) ∧ (∀ j o, j < i → l[j]? = some o → fitsB o = true)) (L0 := [(0, _), (1, _), (5, _)]) (l.length - 0) (.cons rfl (.cons rfl (.cons rfl .nil))) ⟨0, rfl, rfl, hS, by omega, by omega⟩ ?_
  rintro _ _ w1 ⟨i, rfl, rfl, hS1, hi, hok⟩
  refine wc_seq ?_
  refine wc_seq ?_
  refine wc_region ?_
  refine wl_move rfl rfl ?_
  refine wl_move rfl rfl ?_
  refine wl_lenL Tryz.underlying22 rfl rfl ?_
  refine wl_lss rfl rfl rfl ?_
  refine wl_move rfl rfl ?_
  refine wl_splitD 10 rfl (fun h2 => ?_) (fun h2 => ?_)
  · skip
    refine wl_guard rfl rfl (decide_eq_true h2) ?_
    refine wl_move rfl rfl ?_
    refine wl_guard rfl rfl (decide_eq_true h2) ?_
    refine wl_move rfl rfl ?_
    refine wl_guard rfl rfl (decide_eq_true h2) ?_
    refine wl_leq rfl rfl rfl ?_
    refine wl_pickT rfl (decide_eq_true h2) rfl rfl ?_
    refine wl_nil ?_
    refine qs_seq ?_
    refine wc_sub (L' := [(14, _), (0, _), (1, _), (5, _)]) (.cons rfl (.cons rfl (.cons rfl (.cons rfl .nil)))) ?_
    refine wc_condD rfl (fun h3 => ?_) (fun h3 => ?_)
    · skip
      obtain ⟨o, ho⟩ : ∃ o, l[i]? = some o := ⟨_, List.getElem?_eq_getElem (by omega)⟩
      obtain ⟨b, off, rfl, hc⟩ := (hL.sat hS1 0 rfl).get ho
      refine wc_skip ?_
      refine qs_seq ?_
      refine wc_seq ?_
      refine wc_block ?_
      refine wc_seq ?_
      refine wc_region ?_
      refine wl_move rfl rfl ?_
      refine wl_move rfl rfl ?_
      refine wl_indexAddr _ rfl rfl (by first | rfl | omega) (by omega) es_22 rfl ?_
      refine wl_loadAt rfl ag_34 sz_34 (vs := opV o) hc rfl ?_
      have hC4 := hS1.split [] [false] rfl; dsimp only [selF, pickA, nthA, List.cons_append, List.nil_append] at hC4
      refine wl_call cal_37 rfl (fits_sp hC4 o) rfl ?_
      rintro e w4 ⟨_, rfl, rfl, hS4⟩; refine ⟨_, rfl, ?_⟩
      replace hS4 := hS4.join rfl; dsimp only [List.dropLast, List.cons_append, List.nil_append] at hS4; clear hC4
      clear hS1
      refine wl_not rfl rfl ?_
      refine wl_nil ?_
      refine qs_seq ?_
      refine wc_cond rfl (fun h5 => ?_) (fun h5 => ?_)
      · skip
        have hfo : fitsB o = false := by simpa using h5
        refine wc_seq ?_
        refine wc_region ?_
        refine wl_assign rfl rfl ?_
        refine wl_nil ?_
        refine qs_seq ?_
        refine wc_sub (L' := [(4, _), (0, _), (1, _), (5, _)]) (.cons rfl (.cons rfl (.cons rfl (.cons rfl .nil)))) ?_
        refine wc_ret ?_
        refine qs_block_ret ?_
        refine qs_then_ret ?_
        refine qs_then_ret ?_
        refine qs_block_ret ?_
        refine qs_then_ret ?_
        refine fin1 (.inr rfl) rfl rfl ?_
        exact ⟨_, rfl, few_bad ho hfo, hS4⟩
      · skip
        have hfo : fitsB o = true := by simpa using h5
        refine wc_skip ?_
        refine qs_block_normal ?_
        refine qs_seq ?_
        refine wc_region ?_
        refine wl_move rfl rfl ?_
        refine wl_add rfl rfl (by omega) (by omega) rfl ?_
        refine wl_assign rfl rfl ?_
        refine wl_nil ?_
        exact qs_round (L1 := [(0, _), (1, _), (5, intV ((i + 1 : Nat) : Int))]) (.cons rfl (.cons rfl (.cons rfl .nil))) (k1 := l.length - (i + 1)) (by omega) ⟨i + 1, rfl, rfl, hS4, by omega, fun j q hj hq => by by_cases e : j = i; (subst e; rw [ho] at hq; cases hq; exact hfo); exact hok j q (by omega) hq⟩
    · skip
      refine wc_exit ?_
      refine qs_then_exit ?_
      refine qs_then_exit ?_
      refine qs_block_exit ?_
      refine qs_seq ?_
      refine wc_seq ?_
      refine wc_region ?_
      refine wl_move rfl rfl ?_
      refine wl_lenL Tryz.underlying22 rfl rfl ?_
      refine wl_move rfl rfl ?_
      refine wl_leq rfl rfl rfl ?_
      refine wl_assign rfl rfl ?_
      refine wl_nil ?_
      refine qs_seq ?_
      refine wc_ret ?_
      refine fin1 (.inr rfl) rfl rfl ?_
      exact ⟨_, rfl, few_end hok (by first | exact .inl (by assumption) | exact .inr (by assumption)) hi, hS1⟩
  · skip
    refine wl_unwanted rfl rfl (decide_eq_false h2) rfl ?_
    refine wl_unwanted rfl rfl (decide_eq_false h2) rfl ?_
    refine wl_unwanted rfl rfl (decide_eq_false h2) rfl ?_
    refine wl_pickF rfl (decide_eq_false h2) rfl rfl ?_
    refine wl_nil ?_
    refine qs_seq ?_
    refine wc_sub (L' := [(14, _), (0, _), (1, _), (5, _)]) (.cons rfl (.cons rfl (.cons rfl (.cons rfl .nil)))) ?_
    refine wc_condF rfl ?_
    refine wc_exit ?_
    refine qs_then_exit ?_
    refine qs_then_exit ?_
    refine qs_block_exit ?_
    refine qs_seq ?_
    refine wc_seq ?_
    refine wc_region ?_
    refine wl_move rfl rfl ?_
    refine wl_lenL Tryz.underlying22 rfl rfl ?_
    refine wl_move rfl rfl ?_
    refine wl_leq rfl rfl rfl ?_
    refine wl_assign rfl rfl ?_
    refine wl_nil ?_
    refine qs_seq ?_
    refine wc_ret ?_
    refine fin1 (.inr rfl) rfl rfl ?_
    exact ⟨_, rfl, few_end hok (by first | exact .inl (by assumption) | exact .inr (by assumption)) hi, hS1⟩

set_option maxRecDepth 100000 in
theorem do_sp {w : World} {p : Nat} {W : WS} {F : Th} (hS : Sat w [worldT p W, F]) (o : OpD) (hf : Fit o) {i : Nat} (hP : PInv W i) (hi : i ≤ 1000) :
    Calls Tryz.prog 8 #[ptrV p 0, .agg #[intV o.k, strV o.a, strV o.b, intV o.x, intV o.y, intV o.z]] w (Ret fun v w' => v = .tuple #[] ∧ Sat w' [worldT p (doS W o), F]) := by
  have hfa := hf.a; have hfb := hf.b; have hfx := hf.x; have hf0 := hf.x0; have hf5 := hf.x5; have hfy := hf.y; have hfz := hf.z; have htm := hP.time; have hlg := hP.logs o.a
  refine calls_enter Tryz.func8 rfl Tryz.ntmps8 rfl ?_
  refine wc_seq ?_
  refine wc_region ?_
  refine wl_box hS rfl rfl rfl ?_
  intro b1 w1 hS1
  refine wl_nil ?_
  refine qs_seq ?_
  refine wc_seq ?_
  refine wc_region ?_
  refine wl_fieldAddr rfl fo_34_0 rfl ?_
  refine wl_load rfl ag_3 (by first | assumption | exact hS1.cell 0 rfl rfl) rfl ?_
  refine wl_nil ?_
  refine qs_seq ?_
  refine wc_block ?_
  refine wc_seq ?_
  refine wc_region ?_
  refine wl_eql rfl rfl rfl ?_
  refine wl_assign rfl rfl ?_
  refine wl_nil ?_
  refine qs_seq ?_
  refine wc_condD rfl (fun h2 => ?_) (fun h2 => ?_)
  · skip
    have hT0 : o.k = 0 := h2
    refine wc_region ?_
    refine wl_move rfl rfl ?_
    refine wl_fieldAddr rfl fo_34_1 rfl ?_
    refine wl_load rfl ag_9 (by first | assumption | exact hS1.cell 0 rfl rfl) rfl ?_
    refine wl_fieldAddr rfl fo_34_2 rfl ?_
    refine wl_load rfl ag_9 (by first | assumption | exact hS1.cell 0 rfl rfl) rfl ?_
    have hC3 := hS1.split [1] [false, true, false] rfl; dsimp only [selF, pickA, nthA, List.cons_append, List.nil_append] at hC3
    refine wl_call cal_28 rfl (put_sp hC3 o.a o.b (by omega) (by omega)) rfl ?_
    rintro e w3 ⟨_, rfl, rfl, hS3⟩; refine ⟨_, rfl, ?_⟩
    replace hS3 := hS3.join rfl; dsimp only [List.dropLast, List.cons_append, List.nil_append] at hS3; clear hC3
    clear hS1
    refine wl_nil ?_
    refine qs_block_normal ?_
    refine fin0 (.inl rfl) rfl ?_
    exact ⟨_, rfl, rfl, by have e : doS W o = _ := (by simp only [doS]; simp only [*, if_true, if_false, reduceIte, Int.reduceEq]; rfl); rw [e]; exact hS3.pick [0, 2] rfl⟩
  · skip
    have hF0 : ¬ o.k = 0 := h2
    refine wc_seq ?_
    refine wc_region ?_
    refine wl_eql rfl rfl rfl ?_
    refine wl_assign rfl rfl ?_
    refine wl_nil ?_
    refine qs_seq ?_
    refine wc_condD rfl (fun h4 => ?_) (fun h4 => ?_)
    · skip
      have hT1 : o.k = 1 := h4
      refine wc_region ?_
      refine wl_move rfl rfl ?_
      refine wl_fieldAddr rfl fo_34_1 rfl ?_
      refine wl_load rfl ag_9 (by first | assumption | exact hS1.cell 0 rfl rfl) rfl ?_
      refine wl_fieldAddr rfl fo_34_3 rfl ?_
      refine wl_load rfl ag_3 (by first | assumption | exact hS1.cell 0 rfl rfl) rfl ?_
      refine wl_fieldAddr rfl fo_34_4 rfl ?_
      refine wl_load rfl ag_3 (by first | assumption | exact hS1.cell 0 rfl rfl) rfl ?_
      refine wl_convII Tryz.underlying3 Tryz.underlying5 rfl (c := ((u8 o.y).toNat : Int)) (wrapU8 o.y) rfl ?_
      have hC5 := hS1.split [1] [false, true, false] rfl; dsimp only [selF, pickA, nthA, List.cons_append, List.nil_append] at hC5
      refine wl_call cal_34 rfl (setByte_sp hC5 o.a o.x (u8 o.y) (by omega)) rfl ?_
      rintro e w5 ⟨_, rfl, rfl, hS5⟩; refine ⟨_, rfl, ?_⟩
      replace hS5 := hS5.join rfl; dsimp only [List.dropLast, List.cons_append, List.nil_append] at hS5; clear hC5
      clear hS1
      refine wl_nil ?_
      refine qs_block_normal ?_
      refine fin0 (.inl rfl) rfl ?_
      exact ⟨_, rfl, rfl, by have e : doS W o = _ := (by simp only [doS]; simp only [*, if_true, if_false, reduceIte, Int.reduceEq]; rfl); rw [e]; exact hS5.pick [0, 2] rfl⟩
    · skip
      have hF1 : ¬ o.k = 1 := h4
      refine wc_seq ?_
      refine wc_region ?_
      refine wl_eql rfl rfl rfl ?_
      refine wl_assign rfl rfl ?_
      refine wl_nil ?_
      refine qs_seq ?_
      refine wc_sub (L' := [(25, _), (5, _), (3, _), (0, _)]) (.cons rfl (.cons rfl (.cons rfl (.cons rfl .nil)))) ?_
      refine wc_condD rfl (fun h6 => ?_) (fun h6 => ?_)
      · skip
        have hT2 : o.k = 2 := h6
        refine wc_region ?_
        refine wl_move rfl rfl ?_
        refine wl_fieldAddr rfl fo_34_1 rfl ?_
        refine wl_load rfl ag_9 (by first | assumption | exact hS1.cell 0 rfl rfl) rfl ?_
        refine wl_fieldAddr rfl fo_34_3 rfl ?_
        refine wl_load rfl ag_3 (by first | assumption | exact hS1.cell 0 rfl rfl) rfl ?_
        refine wl_fieldAddr rfl fo_34_5 rfl ?_
        refine wl_load rfl ag_3 (by first | assumption | exact hS1.cell 0 rfl rfl) rfl ?_
        refine wl_fieldAddr rfl fo_34_2 rfl ?_
        refine wl_load rfl ag_9 (by first | assumption | exact hS1.cell 0 rfl rfl) rfl ?_
        refine wl_fieldAddr rfl fo_34_4 rfl ?_
        refine wl_load rfl ag_3 (by first | assumption | exact hS1.cell 0 rfl rfl) rfl ?_
        have hC7 := hS1.split [1] [false, true, false] rfl; dsimp only [selF, pickA, nthA, List.cons_append, List.nil_append] at hC7
        refine wl_call cal_35 rfl (copy_sp hC7 o.a o.x o.z o.b o.y (by omega) (by omega) (by omega) (by omega)) rfl ?_
        rintro e w7 ⟨_, rfl, rfl, hS7⟩; refine ⟨_, rfl, ?_⟩
        replace hS7 := hS7.join rfl; dsimp only [List.dropLast, List.cons_append, List.nil_append] at hS7; clear hC7
        clear hS1
        refine wl_nil ?_
        refine qs_block_normal ?_
        refine fin0 (.inl rfl) rfl ?_
        exact ⟨_, rfl, rfl, by have e : doS W o = _ := (by simp only [doS]; simp only [*, if_true, if_false, reduceIte, Int.reduceEq]; rfl); rw [e]; exact hS7.pick [0, 2] rfl⟩
      · skip
        have hF2 : ¬ o.k = 2 := h6
        refine wc_seq ?_
        refine wc_region ?_
        refine wl_eql rfl rfl rfl ?_
        refine wl_assign rfl rfl ?_
        refine wl_nil ?_
        refine qs_seq ?_
        refine wc_condD rfl (fun h8 => ?_) (fun h8 => ?_)
        · skip
          have hT3 : o.k = 3 := h8
          refine wc_region ?_
          refine wl_move rfl rfl ?_
          refine wl_fieldAddr rfl fo_34_1 rfl ?_
          refine wl_load rfl ag_9 (by first | assumption | exact hS1.cell 0 rfl rfl) rfl ?_
          have hC9 := hS1.split [1] [false, true, false] rfl; dsimp only [selF, pickA, nthA, List.cons_append, List.nil_append] at hC9
          refine wl_call cal_38 rfl (drop_sp hC9 o.a) rfl ?_
          rintro e w9 ⟨_, rfl, rfl, hS9⟩; refine ⟨_, rfl, ?_⟩
          replace hS9 := hS9.join rfl; dsimp only [List.dropLast, List.cons_append, List.nil_append] at hS9; clear hC9
          clear hS1
          refine wl_nil ?_
          refine qs_block_normal ?_
          refine fin0 (.inl rfl) rfl ?_
          exact ⟨_, rfl, rfl, by have e : doS W o = _ := (by simp only [doS]; simp only [*, if_true, if_false, reduceIte, Int.reduceEq]; rfl); rw [e]; exact hS9.pick [0, 2] rfl⟩
        · skip
          have hF3 : ¬ o.k = 3 := h8
          refine wc_seq ?_
          refine wc_region ?_
          refine wl_eql rfl rfl rfl ?_
          refine wl_assign rfl rfl ?_
          refine wl_nil ?_
          refine qs_seq ?_
          refine wc_condD rfl (fun h10 => ?_) (fun h10 => ?_)
          · skip
            have hT4 : o.k = 4 := h10
            refine wc_region ?_
            refine wl_move rfl rfl ?_
            refine wl_fieldAddr rfl fo_34_1 rfl ?_
            refine wl_load rfl ag_9 (by first | assumption | exact hS1.cell 0 rfl rfl) rfl ?_
            refine wl_fieldAddr rfl fo_34_2 rfl ?_
            refine wl_load rfl ag_9 (by first | assumption | exact hS1.cell 0 rfl rfl) rfl ?_
            have hC11 := hS1.split [1] [false, true, false] rfl; dsimp only [selF, pickA, nthA, List.cons_append, List.nil_append] at hC11
            refine wl_call cal_39 rfl (log_sp hC11 o.a o.b (by omega) (by omega)) rfl ?_
            rintro e w11 ⟨_, rfl, rfl, hS11⟩; refine ⟨_, rfl, ?_⟩
            replace hS11 := hS11.join rfl; dsimp only [List.dropLast, List.cons_append, List.nil_append] at hS11; clear hC11
            clear hS1
            refine wl_nil ?_
            refine qs_block_normal ?_
            refine fin0 (.inl rfl) rfl ?_
            exact ⟨_, rfl, rfl, by have e : doS W o = _ := (by simp only [doS]; simp only [*, if_true, if_false, reduceIte, Int.reduceEq]; rfl); rw [e]; exact hS11.pick [0, 2] rfl⟩
          · skip
            have hF4 : ¬ o.k = 4 := h10
            refine wc_seq ?_
            refine wc_region ?_
            refine wl_eql rfl rfl rfl ?_
            refine wl_assign rfl rfl ?_
            refine wl_nil ?_
            refine qs_seq ?_
            refine wc_condD rfl (fun h12 => ?_) (fun h12 => ?_)
            · skip
              have hT5 : o.k = 5 := h12
              refine wc_region ?_
              refine wl_move rfl rfl ?_
              refine wl_fieldAddr rfl fo_34_3 rfl ?_
              refine wl_load rfl ag_3 (by first | assumption | exact hS1.cell 0 rfl rfl) rfl ?_
              have hC13 := hS1.split [1] [false, true, false] rfl; dsimp only [selF, pickA, nthA, List.cons_append, List.nil_append] at hC13
              refine wl_call cal_40 rfl (elapse_sp hC13 o.x (by omega) (by omega)) rfl ?_
              rintro e w13 ⟨_, rfl, rfl, hS13⟩; refine ⟨_, rfl, ?_⟩
              replace hS13 := hS13.join rfl; dsimp only [List.dropLast, List.cons_append, List.nil_append] at hS13; clear hC13
              clear hS1
              refine wl_nil ?_
              refine qs_block_normal ?_
              refine fin0 (.inl rfl) rfl ?_
              exact ⟨_, rfl, rfl, by have e : doS W o = _ := (by simp only [doS]; simp only [*, if_true, if_false, reduceIte, Int.reduceEq]; rfl); rw [e]; exact hS13.pick [0, 2] rfl⟩
            · skip
              have hF5 : ¬ o.k = 5 := h12
              refine wc_skip ?_
              refine qs_block_normal ?_
              refine fin0 (.inl rfl) rfl ?_
              exact ⟨_, rfl, rfl, by have e : doS W o = _ := (by simp only [doS]; simp only [*, if_true, if_false, reduceIte, Int.reduceEq]; rfl); rw [e]; exact hS1.pick [1, 2] rfl⟩

end Go.Proofs.YtieelilkkpcmdaaGreatDoor
