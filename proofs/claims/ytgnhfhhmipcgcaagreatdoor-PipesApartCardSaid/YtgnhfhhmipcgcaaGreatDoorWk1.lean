/- maps.Keys -/
import Derived.Test.YtgnhfhhmipcgcaaGreatDoorRng
import Derived.Test.YtgnhfhhmipcgcaaGreatDoorWd
namespace Go.Proofs.YtgnhfhhmipcgcaaGreatDoor
open Go.RowKit M
set_option linter.unusedVariables false
set_option maxRecDepth 100000 in
theorem keysS_it {w : World} {l c b : Nat} {g : Bs → Option Value} {J : List Bs → Th} {F : Th} (hS : Sat w [J [], blkT c [.map (some b)], mapT strK b g, F]) (hY : YieldsT Tryz.prog l strK (okC g) J) :
    Calls Tryz.prog 69 #[.func (.yield l) #[] #[], ptrV c 0] w (Ret fun v w' => ∃ ks, AllC g ks ∧ Sat w' [J ks, blkT c [.map (some b)], mapT strK b g, F]) := by
  refine calls_enter Tryz.func69 rfl Tryz.ntmps69 rfl ?_
  refine wc_seq ?_
  refine wc_region ?_
  refine wl_load rfl ag_57 (by first | assumption | exact hS.cell 1 rfl rfl) rfl ?_
  refine wl_range 2 hS Tryz.underlying57 rfl rfl rfl ?_
  intro RR left0 wR hSR; dsimp only [List.set] at hSR
  refine wl_nil ?_
  refine qs_seq ?_
  refine wc_block ?_
  refine wc_loop (fun K0 E0 W0 => ∃ (dn : Bs → Prop) (cur : Option Bs) (left : Nat) (ks : List Bs), K0 = 1 * left ∧ E0 = [(0, .func (.yield l) #[] #[]), (5, ptrV RR 0)] ∧ Sat W0 [J ks, rangeT strK b RR g dn cur left, blkT c [.map (some b)], F] ∧ (CSt g dn ks)) (L0 := [(0, _), (5, _)]) (1 * left0) (.cons rfl (.cons rfl .nil)) ⟨_, _, _, _, rfl, rfl, hSR.reorder [0, 2, 1, 3] rfl, CSt.start g⟩ ?_
  rintro _ _ w1 ⟨dn, cur, left, ks, rfl, rfl, hS1, hcs⟩
  refine wc_seq ?_
  refine wc_region ?_
  refine wl_next 1 hS1 keysStr.inj rfl rfl rfl (fun hdone => ?_) (fun k v left2 w2 hleft hgk hnd hS2 => ?_)
  · skip
    refine wl_extract rfl rfl rfl ?_
    refine wl_nil ?_
    refine qs_seq ?_
    refine wc_seq ?_
    refine wc_condF rfl ?_
    refine wc_exit ?_
    refine qs_then_exit ?_
    refine qs_then_exit ?_
    refine qs_block_exit ?_
    refine fin0 (.inl rfl) rfl ?_
    exact ⟨_, rfl, ks, hcs.all hdone, by have hSz := range_map (hS1.reorder [1, 0, 2, 3] rfl); exact hSz.reorder [1, 2, 0, 3] rfl⟩
  · skip
    dsimp only [List.set] at hS2
    refine wl_extract rfl rfl rfl ?_
    refine wl_nil ?_
    refine qs_seq ?_
    refine wc_seq ?_
    refine wc_condT rfl ?_
    refine wc_skip ?_
    refine qs_seq ?_
    refine wc_block ?_
    refine wc_seq ?_
    refine wc_region ?_
    refine wl_entry 1 hS2 rfl hgk rfl rfl ?_
    refine wl_extract rfl rfl rfl ?_
    refine wl_assign rfl rfl ?_
    refine wl_nil ?_
    refine qs_seq ?_
    refine wc_seq ?_
    refine wc_regionI ?_
    refine wlI_val rfl (ev_move rfl) ?_
    refine wlI_val rfl (ev_move rfl) ?_
    have hSy := (hS2.split [0] [true, false, false, false] rfl); dsimp only [selF, pickA, nthA, List.cons_append, List.nil_append] at hSy
    refine wlI_yield rfl rfl rfl (hY _ _ _ _ (hcs.ok hnd hgk) hSy) ?_
    intro w5 hS5; replace hS5 := hS5.join rfl; dsimp only [List.dropLast, List.cons_append, List.nil_append] at hS5
    refine wlI_val rfl (ev_not rfl) ?_
    refine wlI_nil ?_
    refine qs_seq ?_
    refine wc_sub (L' := [(13, _), (0, _), (5, _)]) (.cons rfl (.cons rfl (.cons rfl .nil))) ?_
    refine wc_condF rfl ?_
    refine wc_skip ?_
    refine qs_block_normal ?_
    have hSz := hS5.reorder [0, 1, 2, 3] rfl; dsimp only [pickA, nthA] at hSz
    exact qs_round (L1 := [(0, _), (5, _)]) (.cons rfl (.cons rfl .nil)) (k1 := 1 * left2) (by omega) ⟨_, _, _, _, rfl, rfl, hSz, hcs.step hnd hgk⟩

theorem keysS_sp {w : World} {v0 : Value} {F : Th} (hS : Sat w [F]) (h0 : v0.oneCell' = true) :
    Calls Tryz.prog 52 #[v0] w (Ret fun v w' => ∃ c, v = .func (.func 69) #[] #[ptrV c 0] ∧ Sat w' [blkT c v0.cells.toList, F]) := by
  refine calls_enter Tryz.func52 rfl Tryz.ntmps52 rfl ?_
  refine wc_seq ?_
  refine wc_region ?_
  refine wl_box hS rfl rfl rfl ?_
  intro b1 w1 hS1
  refine wl_assign rfl rfl ?_
  refine wl_nil ?_
  refine qs_seq ?_
  refine wc_seq ?_
  refine wc_region ?_
  refine wl_makeFunc rfl rfl ?_
  refine wl_assign rfl rfl ?_
  refine wl_nil ?_
  refine qs_seq ?_
  refine wc_ret ?_
  refine fin1 (.inr rfl) rfl rfl ?_
  exact ⟨_, rfl, _, rfl, hS1⟩

end Go.Proofs.YtgnhfhhmipcgcaaGreatDoor
