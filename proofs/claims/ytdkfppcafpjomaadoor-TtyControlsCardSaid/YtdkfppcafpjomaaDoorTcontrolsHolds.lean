/- TtyControls: for every input the law returns true, and each argument reads afterwards as it did. No condition. -/
import Derived.Test.YtdkfppcafpjomaaDoorTm
import Derived.Test.YtdkfppcafpjomaaDoorRd
import Derived.Test.YtdkfppcafpjomaaDoorTie
import Derived.Test.YtdkfppcafpjomaaDoorCards
import Derived.Lay
import Derived.MakeChecks
import Derived.SevenTiedAt
namespace Go.Proofs.YtdkfppcafpjomaaDoor.ttyControlsP
open Go.ChangeShapes Go.WideShapes Go.ChangeAt Go.RowKit M
open Go.ChangeMaps (open_string shut_string)
set_option linter.unusedVariables false

theorem own : ownKnob Tryd.prog.godebug = none := by kernel_rfl
theorem laidOut : laidOutB Tryd.prog = true := by kernel_rfl

theorem of_laid {W : World} (h : laidMetH Tryd.prog Rows.ttyControlsRow.laid W) : WireG W := by
  rw [MakeChecks.laidMetH_plain _ _ _ (by kernel_rfl)] at h
  have m : ∀ x ∈ Rows.ttyControlsRow.laid, x ∈ Rows.ttyControlsRow.laid := fun _ h => h
  exact wireG_of h (m _ (by simp [Rows.ttyControlsRow])) (m _ (by simp [Rows.ttyControlsRow])) (m _ (by simp [Rows.ttyControlsRow]))

set_option maxRecDepth 100000 in
theorem lifted (os : Os) (started : os.Started) (H : Type) (enc : TypeId × Value → H) :
    ReturnsInHanded {} Tryd.checked os 6 .any (fun w args => (Rows.ttyControlsSpec.pre enc Tryd.prog Tryd.f6 Rows.ttyControlsRow.domain false w args ∧ laidMetH Tryd.prog Rows.ttyControlsRow.laid w) ∧ sizedMet enc Tryd.prog Tryd.f6 (OpenSpec.ofChange Rows.ttyControlsSpec) false w args) (Rows.ttyControlsSpec.post enc Tryd.prog Tryd.f6 false true false false) := by
  refine returnsInHanded_of_change_and (C := Tryd.checked) (X := fun w _ => laidMetH Tryd.prog Rows.ttyControlsRow.laid w) (fun _ _ _ hh h => h.of_heap hh) own started (by kernel_rfl) Tryd.func6
    (ChangeSpec.witness_shaped (enc := enc) (C := Tryd.checked) (os := os) (X := fun w _ => laidMetH Tryd.prog Rows.ttyControlsRow.laid w) false (World.laidAll Tryd.prog os Rows.ttyControlsRow.laid) #[.slice none 0 0, .slice none 0 0] 8 (World.laidAll_os _ _ _) (World.shaped_of_ZipB (by kernel_rfl) (by kernel_rfl)) (by kernel_rfl) (by kernel_rfl) (by kernel_rfl) (by rw [MakeChecks.laidMetH_plain _ _ _ (by kernel_rfl)]; exact laidMet_laidAll _ (by kernel_rfl) (by kernel_rfl))) ?_
  intro W base args ds gs before hval0 hW hcnd _ hL _
  have hval : ∀ (j : Nat) t v, Tryd.f6.params[j]? = some t → args[j]? = some v → Value.okWide Tryd.prog W .any base t v := hval0
  have hW' := hW
  obtain ⟨p, q, hA0, hV, rfl, hfz, hnd⟩ := hW
  have hA : DataW.TrodAll enc Tryd.prog W 0 (fun _ => true) true Tryd.f6.params.toList args.toList ds p := hA0
  have hAll := hA
  rw [Tryd.params6] at hA hval
  obtain ⟨v0, vs0, d0, ds0, p0, q0, hargs, rfl, rfl, h0, r0⟩ := trodAll_cons hA
  obtain ⟨v1, vs1, d1, ds1, p1, q1, rfl, rfl, rfl, h1, r1⟩ := trodAll_cons r0
  obtain ⟨rfl, rfl, rfl⟩ := trodAll_nil r1
  obtain rfl : args = #[v0, v1] := by cases args; simp_all
  obtain ⟨rfl, rfl⟩ := trodVars_none hV
  obtain ⟨x0, y0, z0, rfl⟩ := okWide_slice Tryd.underlying22 (hval 0 22 v0 rfl rfl)
  obtain ⟨l0, w0⟩ : ∃ l, SliceRd itCod.rd itCod.size W (.slice x0 y0 z0) l := by
    obtain ⟨fuel, hf⟩ := h0
    obtain ⟨l, v, hv, hs⟩ := (Cod.slice Tryd.underlying22 (by kernel_rfl) itCod (by decide)).down hf
    simp only [Value.cells, List.cons.injEq, and_true] at hv
    subst hv
    exact ⟨l, hs⟩
  obtain ⟨x1, y1, z1, rfl⟩ := okWide_slice Tryd.underlying35 (hval 1 35 v1 rfl rfl)
  obtain ⟨l1, w1⟩ : ∃ l, SliceRd opCod.rd opCod.size W (.slice x1 y1 z1) l := by
    obtain ⟨fuel, hf⟩ := h1
    obtain ⟨l, v, hv, hs⟩ := (Cod.slice Tryd.underlying35 (by kernel_rfl) opCod (by decide)).down hf
    simp only [Value.cells, List.cons.injEq, and_true] at hv
    subst hv
    exact ⟨l, hs⟩
  clear hA0 hval0
  refine (controls_row (of_laid hL) w0 w1).mono fun e W' ⟨he, bel⟩ => ?_
  subst he
  have hst := trodAll_stays laidOut bel _ _ _ _ (by rw [Tryd.params6]; intro t ht; simp only [List.mem_cons, List.not_mem_nil, or_false] at ht; rcases ht with rfl | rfl <;> exact ⟨by kernel_rfl, of_decide_eq_true (by kernel_rfl)⟩) hAll
  exact ⟨_, rfl, _, _, _, [], _, [], hW', trodAll_mk1 (shut_bool Tryd.underlying4 _), hst, rfl, bel.frame _, fun h => by cases h⟩

theorem over : Rows.ttyControlsRow.holds Tryd.pinned (OpenSpec.ofChange Rows.ttyControlsSpec) :=
  OpenClaim.holds_of_wide 6 Tryd.f6 rfl rfl rfl rfl rfl rfl rfl ⟨rfl, rfl, rfl, rfl, rfl⟩ rfl rfl rfl rfl rfl (by kernel_rfl) Tryd.func6 (by kernel_rfl)
    (of_decide_eq_true (by kernel_rfl)) (by unfold Func.isWrapper; first | (rw [if_pos (by decide +kernel)]; kernel_rfl) | (rw [if_neg (by decide +kernel)]; exact ⟨rfl, rfl⟩))
    (fun os started H enc _ => lifted os started H enc)
theorem card : Rows.TtyControlsCardSaid :=
  Claim7.holds_tied_plain_at .later [] [.data, .data, .data, .sentinel, .sentinel] true (true, "c55ba993f2b1a47e5bc1f2ff7d3efbd4f74ab52b21ba97a1c610c3df25cd3db4") true over (fun _ h => by cases h) (by kernel_rfl) (fun _ h => by cases h) ttyControls_row_tie rfl ⟨rfl, rfl⟩ (by kernel_rfl) rfl
    (fun f fn hf hfn => by
      obtain rfl : f = 6 := Option.some.inj ((show Tryd.prog.funcNamed "rehearsal/rehearsallaw26.TtyControls" = some 6 by kernel_rfl).symm.trans hf) |>.symm
      obtain rfl : fn = Tryd.f6 := (Option.some.inj (Tryd.func6.symm.trans hfn)).symm
      refine ⟨by kernel_rfl, fun j t ht => ?_⟩
      rw [Tryd.params6] at ht
      have hall : ∀ t ∈ ([22, 35] : List TypeId), Tryd.prog.wantsStandIn t = false := by intro t ht; simp only [List.mem_cons, List.not_mem_nil, or_false] at ht; rcases ht with rfl | rfl <;> kernel_rfl
      exact hall t (by have := Array.mem_of_getElem? ht; simpa using this))
    (by kernel_rfl)
end Go.Proofs.YtdkfppcafpjomaaDoor.ttyControlsP
namespace Go.Proofs.YtdkfppcafpjomaaDoor
theorem ttyControls_holds : Rows.TtyControlsCardSaid := ttyControlsP.card
end Go.Proofs.YtdkfppcafpjomaaDoor
