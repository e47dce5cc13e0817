/- NamesTells: for every input the law returns true, and each argument reads afterwards as it did. No condition. -/
import Derived.Test.YtkaikhcpcbjkcaaGreatDoorNl
import Derived.Test.YtkaikhcpcbjkcaaGreatDoorNr10
import Derived.Test.YtkaikhcpcbjkcaaGreatDoorTie
import Derived.Test.YtkaikhcpcbjkcaaGreatDoorCards
import Derived.Lay
import Derived.MakeChecks
import Derived.SevenTiedAt
namespace Go.Proofs.YtkaikhcpcbjkcaaGreatDoor.namesTellsP
open Go.ChangeShapes Go.WideShapes Go.ChangeAt Go.RowKit M
open Go.ChangeMaps (open_string shut_string)
set_option linter.unusedVariables false
theorem own : ownKnob Tryz.prog.godebug = none := by kernel_rfl
theorem laidOut : laidOutB Tryz.prog = true := by kernel_rfl
theorem of_laid {W : World} (h : laidMetH Tryz.prog Rows.namesTellsRow.laid W) : WireG W := by
  rw [MakeChecks.laidMetH_plain _ _ _ (by kernel_rfl)] at h
  have m : ∀ x ∈ Rows.namesTellsRow.laid, x ∈ Rows.namesTellsRow.laid := fun _ h => h
  exact wireG_of h (m _ (by simp [Rows.namesTellsRow])) (m _ (by simp [Rows.namesTellsRow])) (m _ (by simp [Rows.namesTellsRow]))
set_option maxRecDepth 100000 in
theorem lifted (os : Os) (started : os.Started) (H : Type) (enc : TypeId × Value → H) :
    ReturnsInHanded {} Tryz.checked os 5 .any (fun w args => (Rows.namesTellsSpec.pre enc Tryz.prog Tryz.f5 Rows.namesTellsRow.domain false w args ∧ laidMetH Tryz.prog Rows.namesTellsRow.laid w) ∧ sizedMet enc Tryz.prog Tryz.f5 (OpenSpec.ofChange Rows.namesTellsSpec) false w args) (Rows.namesTellsSpec.post enc Tryz.prog Tryz.f5 false true false false) := by
  refine returnsInHanded_of_change_and (C := Tryz.checked) (X := fun w _ => laidMetH Tryz.prog Rows.namesTellsRow.laid w) (fun _ _ _ hh h => h.of_heap hh) own started (by kernel_rfl) Tryz.func5
    (ChangeSpec.witness_shaped (enc := enc) (C := Tryz.checked) (os := os) (X := fun w _ => laidMetH Tryz.prog Rows.namesTellsRow.laid w) false (World.laidAll Tryz.prog os Rows.namesTellsRow.laid) #[.slice none 0 0, .slice none 0 0, .string ByteArray.empty, .string ByteArray.empty] 8 (World.laidAll_os _ _ _) (World.shaped_of_ZipB (by kernel_rfl) (by kernel_rfl)) (by kernel_rfl) (by kernel_rfl) (by kernel_rfl) (by rw [MakeChecks.laidMetH_plain _ _ _ (by kernel_rfl)]; exact laidMet_laidAll _ (by kernel_rfl) (by kernel_rfl))) ?_
  intro W base args ds gs before hval0 hW hcnd _ hL _
  have hval : ∀ (j : Nat) t v, Tryz.f5.params[j]? = some t → args[j]? = some v → Value.okWide Tryz.prog W .any base t v := hval0
  have hW' := hW
  obtain ⟨p, q, hA0, hV, rfl, hfz, hnd⟩ := hW
  have hA : DataW.TrodAll enc Tryz.prog W 0 (fun _ => true) true Tryz.f5.params.toList args.toList ds p := hA0
  have hAll := hA
  rw [Tryz.params5] at hA hval
  obtain ⟨v0, vs0, d0, ds0, p0, q0, hargs, rfl, rfl, h0, r0⟩ := trodAll_cons hA
  obtain ⟨v1, vs1, d1, ds1, p1, q1, rfl, rfl, rfl, h1, r1⟩ := trodAll_cons r0
  obtain ⟨v2, vs2, d2, ds2, p2, q2, rfl, rfl, rfl, h2, r2⟩ := trodAll_cons r1
  obtain ⟨v3, vs3, d3, ds3, p3, q3, rfl, rfl, rfl, h3, r3⟩ := trodAll_cons r2
  obtain ⟨rfl, rfl, rfl⟩ := trodAll_nil r3
  obtain rfl : args = #[v0, v1, v2, v3] := by cases args; simp_all
  obtain ⟨rfl, rfl⟩ := trodVars_none hV
  obtain ⟨x0, y0, z0, rfl⟩ := okWide_slice Tryz.underlying45 (hval 0 45 v0 rfl rfl)
  obtain ⟨l0, w0⟩ : ∃ l, SliceRd pcCod.rd pcCod.size W (.slice x0 y0 z0) l := by
    obtain ⟨fuel, hf⟩ := h0
    obtain ⟨l, v, hv, hs⟩ := (Cod.slice Tryz.underlying45 (by kernel_rfl) pcCod (by decide)).down hf
    simp only [Value.cells, List.cons.injEq, and_true] at hv
    subst hv
    exact ⟨l, hs⟩
  obtain ⟨x1, y1, z1, rfl⟩ := okWide_slice Tryz.underlying22 (hval 1 22 v1 rfl rfl)
  obtain ⟨l1, w1⟩ : ∃ l, SliceRd actCod.rd actCod.size W (.slice x1 y1 z1) l := by
    obtain ⟨fuel, hf⟩ := h1
    obtain ⟨l, v, hv, hs⟩ := (Cod.slice Tryz.underlying22 (by kernel_rfl) actCod (by decide)).down hf
    simp only [Value.cells, List.cons.injEq, and_true] at hv
    subst hv
    exact ⟨l, hs⟩
  obtain ⟨a2, rfl, rfl, rfl, w2⟩ := open_string Tryz.underlying9 (hval 2 9 v2 rfl rfl) h2
  obtain ⟨a3, rfl, rfl, rfl, w3⟩ := open_string Tryz.underlying9 (hval 3 9 v3 rfl rfl) h3
  clear hA0 hval0
  refine (tells_row (of_laid hL) w0 w1 w2 w3).mono fun e W' ⟨he, bel⟩ => ?_
  subst he
  have hst := trodAll_stays laidOut bel _ _ _ _ (by rw [Tryz.params5]; intro t ht; simp only [List.mem_cons, List.not_mem_nil, or_false] at ht; rcases ht with rfl | rfl | rfl | rfl <;> exact ⟨by kernel_rfl, of_decide_eq_true (by kernel_rfl)⟩) hAll
  exact ⟨_, rfl, _, _, _, [], _, [], hW', trodAll_mk1 (shut_bool Tryz.underlying4 _), hst, rfl, bel.frame _, fun h => by cases h⟩
theorem over : Rows.namesTellsRow.holds Tryz.pinned (OpenSpec.ofChange Rows.namesTellsSpec) :=
  OpenClaim.holds_of_wide 5 Tryz.f5 rfl rfl rfl rfl rfl rfl rfl ⟨rfl, rfl, rfl, rfl, rfl⟩ rfl rfl rfl rfl rfl (by kernel_rfl) Tryz.func5 (by kernel_rfl)
    (of_decide_eq_true (by kernel_rfl)) (by unfold Func.isWrapper; first | (rw [if_pos (by decide +kernel)]; kernel_rfl) | (rw [if_neg (by decide +kernel)]; exact ⟨rfl, rfl⟩))
    (fun os started H enc _ => lifted os started H enc)
theorem card : Rows.NamesTellsCardSaid :=
  Claim7.holds_tied_plain_at .later [] [.data, .data, .data, .data, .sentinel, .sentinel, .pinned] true (true, "6bda78f863f2b6c38c6cd4bfea3614ae448476d695ba334ee2c1fa21ff9ddf21") true over (fun _ h => by cases h) (by kernel_rfl) (fun _ h => by cases h) namesTells_row_tie rfl ⟨rfl, rfl⟩ (by kernel_rfl) rfl
    (fun f fn hf hfn => by
      obtain rfl : f = 5 := Option.some.inj ((show Tryz.prog.funcNamed "rehearsal/rehearsallaw23.NamesTells" = some 5 by kernel_rfl).symm.trans hf) |>.symm
      obtain rfl : fn = Tryz.f5 := (Option.some.inj (Tryz.func5.symm.trans hfn)).symm
      refine ⟨by kernel_rfl, fun j t ht => ?_⟩
      rw [Tryz.params5] at ht
      have hall : ∀ t ∈ ([45, 22, 9, 9] : List TypeId), Tryz.prog.wantsStandIn t = false := by intro t ht; simp only [List.mem_cons, List.not_mem_nil, or_false] at ht; rcases ht with rfl | rfl | rfl | rfl <;> kernel_rfl
      exact hall t (by have := Array.mem_of_getElem? ht; simpa using this))
    (by kernel_rfl)
end Go.Proofs.YtkaikhcpcbjkcaaGreatDoor.namesTellsP
namespace Go.Proofs.YtkaikhcpcbjkcaaGreatDoor
theorem namesTells_holds : Rows.NamesTellsCardSaid := namesTellsP.card
end Go.Proofs.YtkaikhcpcbjkcaaGreatDoor
