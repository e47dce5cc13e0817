/- disk: Arm -/
import Derived.Test.YtleaahajkncnpaaDoorDf
namespace Go.Proofs.YtleaahajkncnpaaDoor
open Go.RowKit M
set_option linter.unusedVariables false
def intsV (l : List Int) : List Value := l.map intV
theorem intsV_length (l : List Int) : (intsV l).length = l.length := by simp [intsV]
theorem intsV_one (l : List Int) : allOne (intsV l) = true := allOne_mk (by intro v hv; obtain ⟨x, _, rfl⟩ := List.mem_map.1 hv; rfl)
theorem RdI.nil {n cap : Nat} {l : List Int} {w : World} (h : RdI (.slice none n cap) l w) : l = [] := by
  cases l with
  | nil => rfl
  | cons x l => obtain ⟨b, off, h1, _⟩ := h.get (i := 0) (x := x) rfl; cases h1
theorem RdI.lenOf {v : Value} {l : List Int} {w : World} (h : RdI v l w) : ∀ w1, (Builtin.lenOf v).run Tryd.prog w1 = .ok l.length w1 := by
  obtain ⟨ao, cap, rfl, _⟩ := h.shape
  exact lenOf_slice _ _ _
theorem RdI.first {v : Value} {l : List Int} {w : World} (h : RdI v l w) : ∀ w1 : World, w1.heap = w.heap → (Builtin.firstCells 1 l.length v).run Tryd.prog w1 = .ok (intsV l).toArray w1 := by
  obtain ⟨ao, cap, rfl, _⟩ := h.shape
  intro w1 hw
  cases hl : l with
  | nil => cases ao <;> simp [Builtin.firstCells, intsV, loadCells, loadCellsFrom]
  | cons x l' =>
    obtain ⟨b, off, rfl, _⟩ := h.get (i := 0) (x := x) (by rw [hl]; rfl)
    rw [← hl]
    simp only [Builtin.firstCells, Nat.mul_one]
    have := run_loadCells_list (P := Tryd.prog) w1 ⟨b, off, none⟩ (intsV l) (fun j v hv => by
      rw [addr_add]
      simp only [intsV, List.getElem?_map] at hv
      obtain ⟨y, hy, rfl⟩ := Option.map_eq_some_iff.1 hv
      obtain ⟨b2, o2, e, hc⟩ := h.get hy
      cases e
      rw [Nat.mul_one] at hc
      rw [World.cell?_of_block (w := w) (by rw [hw])]
      exact hc)
    rw [intsV_length] at this
    exact this
theorem ent_own_RdI {v : Value} {l : List Int} (hl : l.length ≤ 9223372036854775807) : Ent (ownT v l.length 1 (intsV l)) (RdI v l) := by
  rintro w G ⟨f, _, hl2, ⟨rfl, h0, _⟩ | ⟨b, cap, sp, rfl, hc, hb, _, _⟩⟩
  · have : l = [] := List.eq_nil_of_length_eq_zero h0
    subst this
    exact ⟨none, 0, rfl, by simp, by simp⟩
  · refine ⟨_, cap, rfl, hl, fun i x hx => ⟨b, 0, rfl, ?_⟩⟩
    refine hb.cell ?_
    have hi := (List.getElem?_eq_some_iff.1 hx).1
    rw [Nat.zero_add, List.getElem?_append_left (by rw [intsV_length]; exact hi)]
    simp [intsV, hx]
theorem RdI_nil (w : World) : RdI (.slice none 0 0) [] w := ⟨none, 0, rfl, by simp, by simp⟩
theorem cloneI_sp {w : World} {F : Th} (hS : Sat w [F]) {kv : Value} {ks : List Int} (hK : Ent F (RdI kv ks)) (hl : ks.length ≤ 1000000) :
    Calls Tryd.prog 43 #[kv] w (Ret fun v w' => Sat w' [ownT v ks.length 1 (intsV ks), F]) := by
  have hrd := hK.sat hS 0 rfl
  obtain ⟨ao, capk, rfl, hkmax⟩ := hrd.shape
  refine calls_enter Tryd.func43 rfl Tryd.ntmps43 rfl ?_
  refine wc_seq ?_
  refine wc_region ?_
  refine wl_assign rfl rfl ?_
  refine wl_nil ?_
  refine qs_seq ?_
  refine wc_seq ?_
  refine wc_seq ?_
  refine wc_region ?_
  refine wl_move rfl rfl ?_
  refine wl_eqlSlNil Tryd.underlying39 rfl rfl rfl ?_
  refine wl_nil ?_
  refine qs_seq ?_
  refine wc_cond rfl (fun h1 => ?_) (fun h1 => ?_)
  · skip
    have hn : ao = none := Option.isNone_iff_eq_none.1 h1
    subst hn
    obtain rfl := hrd.nil
    refine wc_seq ?_
    refine wc_region ?_
    refine wl_assign rfl rfl ?_
    refine wl_nil ?_
    refine qs_seq ?_
    refine wc_ret ?_
    refine qs_then_ret ?_
    refine fin1 (.inr rfl) rfl rfl ?_
    exact ⟨_, rfl, hS.new (Only.refl [] _) (A := ownT (.slice none 0 0) 0 1 []) (F' := fun k => k ∈ ([] : List Nat)) ⟨[], rfl, Own.nil _ 1⟩ (by simp)⟩
  · skip
    refine wc_skip ?_
    refine qs_seq ?_
    refine wc_seq ?_
    refine wc_region ?_
    refine wl_buildSlice hS rfl Tryd.underlying39 ifz_3 rfl rfl rfl rfl ?_
    intro b2 w2 hS2
    refine wl_move rfl rfl ?_
    have hrd1 := hK.sat hS2 1 rfl
    first | refine wl_append 0 hS2 rfl rfl rfl Tryd.underlying39 Tryd.underlying39 (by intro k hk; cases hk) ifo_3 rfl (by decide) hrd1.lenOf hrd1.first (by rw [intsV_length]; omega) (intsV_one _) (by omega) (by omega) rfl ?_
    intro v3 w3 hS3; dsimp only [List.set] at hS3
    clear hS2
    have h1v3 : v3.oneCell' = true := by first | exact hS3.own_one 0 rfl
    refine wl_assign rfl rfl ?_
    refine wl_nil ?_
    refine qs_seq ?_
    refine wc_ret ?_
    refine fin1 (.inr rfl) rfl rfl ?_
    exact ⟨_, rfl, by have h := hS3; rw [Nat.zero_add] at h; exact h⟩

theorem arm_end {w : World} {p bf bs : Nat} {kv qv : Value} {D : DS} {ks : List Int} {F : Th} {n : Int} (hI : DInv D) (hn : n ≤ 9223372036854775807) (h : Sat w [ownT kv ks.length 1 (intsV ks), blkT p [.map (some bf), qv, .map (some bs), intV D.lost, .bool D.down, intV (max n 0), kv], filesT bf D.F, ownT qv D.Q.length 2 (secV D.Q), setT bs D.Q, F]) : Sat w [diskT p kv { D with armed := max n 0, keep := ks }, ownT kv ks.length 1 (intsV ks), F] := by
  have h1 := diskT_shut (D := { D with armed := max n 0, keep := ks }) (As := [F, ownT kv ks.length 1 (intsV ks)]) ⟨bf, bs, qv⟩ { hI with armed := ⟨by simp; omega, by simp; omega⟩ } (h.reorder [1, 2, 3, 4, 5, 0] rfl)
  exact h1.reorder [0, 2, 1] rfl
theorem arm_sp {w : World} {p : Nat} {kp : Value} {D : DS} {F : Th} (hS : Sat w [diskT p kp D, F]) (n : Int) (hn : n ≤ 9223372036854775807) {kv : Value} {ks : List Int} (hK : Ent F (RdI kv ks)) (hl : ks.length ≤ 1000000) :
    Calls Tryd.prog 21 #[ptrV p 0, intV n, kv] w (Ret fun v w' => ∃ kv', v = .tuple #[] ∧ Sat w' [diskT p kv' { D with armed := max n 0, keep := ks }, ownT kv' ks.length 1 (intsV ks), F]) := by
  obtain ⟨⟨bf, bs, qv⟩, hI, hS⟩ := diskT_open hS; dsimp only at hS
  refine calls_enter Tryd.func21 rfl Tryd.ntmps21 rfl ?_
  refine wc_region ?_
  refine wl_move rfl rfl ?_
  refine wl_move rfl rfl ?_
  refine wl_move rfl rfl ?_
  refine wl_maxI rfl rfl rfl ?_
  refine wl_move rfl rfl ?_
  have hC1 := hS.split [] [false, false, false, false, false] rfl; dsimp only [selF, pickA, nthA, List.cons_append, List.nil_append] at hC1
  refine wl_call cal_43 rfl (cloneI_sp hC1 (hK.starL 4 rfl) hl) rfl ?_
  rintro e w1 ⟨_, rfl, hS1⟩; refine ⟨_, rfl, ?_⟩
  replace hS1 := hS1.join rfl; dsimp only [List.dropLast, List.cons_append, List.nil_append] at hS1; clear hC1
  have h1k := hS1.own_one 0 rfl
  refine wl_nilCheck rfl rfl ?_
  refine wl_fieldAddr rfl fo_61_5 rfl ?_
  first | (refine wl_store hS1 rfl rfl sz_3 (by first | rfl | assumption | exact hS1.own_one 0 rfl | exact hS1.own_one 3 rfl) (i := 1) rfl (by first | decide | exact Nat.le_of_ble_eq_true rfl | (simp; done) | omega) ?_)
  intro w2 hS3; dsimp only [List.set] at hS3
  clear hS1
  refine wl_nilCheck rfl rfl ?_
  refine wl_fieldAddr rfl fo_61_6 rfl ?_
  first | (refine wl_store hS3 rfl rfl sz_39 (by first | rfl | assumption | exact hS3.own_one 0 rfl | exact hS3.own_one 3 rfl) (i := 1) rfl (by first | decide | exact Nat.le_of_ble_eq_true rfl | (simp; done) | omega) ?_)
  intro w4 hS5; dsimp only [List.set] at hS5
  clear hS3
  refine wl_nil ?_
  refine fin0 (.inl rfl) rfl ?_
  exact ⟨_, rfl, _, rfl, arm_end hI hn hS5⟩

end Go.Proofs.YtleaahajkncnpaaDoor
