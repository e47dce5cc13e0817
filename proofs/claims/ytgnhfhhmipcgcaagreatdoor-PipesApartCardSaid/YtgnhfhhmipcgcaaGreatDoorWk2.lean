/- slices.AppendSeq, Collect -/
import Derived.Test.YtgnhfhhmipcgcaaGreatDoorWk1
namespace Go.Proofs.YtgnhfhhmipcgcaaGreatDoor
open Go.RowKit M
set_option linter.unusedVariables false
def inC : RowC Int := ⟨fun x => [intV x], 1, by decide, fun _ => rfl, fun _ => rfl⟩
def ItS (g : Bs → Option Value) (gf : Nat) (caps : List Value) (It : Th) : Prop := ∀ (l : Nat) (J : List Bs → Th) (X : Th) (w : World), Sat w [J [], It, X] → YieldsT Tryz.prog l strK (okC g) J → Calls Tryz.prog gf (.func (.yield l) #[] #[] :: caps).toArray w (Ret fun _ w' => ∃ ks, AllC g ks ∧ Sat w' [J ks, It, X])
def JS (l D b : Nat) (rec : Loop) (ks : List Bs) : Th := exT fun v : Value => starL [loopT l rec, deferT D, blkT b [v], rowT stC v ks]
set_option maxRecDepth 100000 in
theorem appS {w : World} {g : Bs → Option Value} {It F : Th} {gf : Nat} {caps : List Value} (hS : Sat w [It, F]) (hcal : callB Tryz.prog gf = true) (hIt : ItS g gf caps It) (hlen : ∀ ks, Came g ks → ks.length ≤ 1000000) :
    Calls Tryz.prog 87 [.slice none 0 0, .func (.func gf) #[] caps.toArray].toArray w (Ret fun v w' => ∃ ks, AllC g ks ∧ Sat w' [rowT stC v ks, It, F]) := by
  refine calls_enterM Tryz.func87 rfl Tryz.ntmps87 rfl ?_
  refine wc_seq ?_
  refine wc_region ?_
  refine wl_box hS rfl rfl rfl ?_
  intro b1 w1 hS1
  refine wl_assign rfl rfl ?_
  refine wl_nil ?_
  refine qs_seq ?_
  refine wc_seq ?_
  refine wc_seq ?_
  refine wc_region ?_
  refine wl_move rfl rfl ?_
  refine wl_nil ?_
  refine qs_seq ?_
  refine wc_block ?_
  refine wc_rangeFunc (caps := caps) rfl hcal ?_
  intro rec hr1 hr2 hr3 hr4 hr5 htn htf
  have hE := ((hS1.enter_loop rec).row_nil stC)
  have hE2 := (hE.split [1, 2, 3, 0] [true, true, true, true, false, false] rfl); dsimp only [selF, pickA, nthA, List.cons_append, List.nil_append] at hE2
  have hJ0 := Sat.ex_intro (f := fun v : Value => starL [loopT _ _, deferT _, blkT _ [v], rowT stC v []]) _ (Sat.fold (As := [loopT _ _, deferT _, blkT _ [_], rowT stC _ []]) hE2)
  refine (hIt _ (JS _ _ _ _) _ _ (hJ0.join rfl) ?_).mono ?_
  · intro ks k R w2 hok hw2
    obtain ⟨v, hw3⟩ := hw2.ex
    have hw4 := hw3.flat; dsimp only [List.cons_append, List.nil_append] at hw4
    have hl1 := hlen _ hok
    simp only [List.length_append, List.length_cons, List.length_nil] at hl1
    refine yield_sp (hw4.loop 0 rfl) hr1 hr2 hr3 hr4 hr5 htn htf rfl (by intro o ho c; simp at ho; subst ho; simp) (by intro o ho c; simp at ho; rcases ho with rfl | rfl | rfl | rfl | rfl <;> simp) ?_
    intro QA hA
    refine wl_assign rfl rfl ?_
    refine wl_nil ?_
    refine hA _ _ (hw4.loop 0 rfl) ?_
    intro QB hB
    have h1v : v.oneCell' = true := hw4.own_one 3 rfl
    have hw5 := hw4.loop_put 0 rfl (rec' := { rec with state := .busy }); dsimp only [List.set] at hw5
    refine wl_load rfl ag_28 (hw5.cell 2 rfl rfl) rfl ?_
    refine wl_move rfl rfl ?_
    refine wl_rowBuild stC [k] hw5 rfl Tryz.underlying28 ifz_9 rfl rfl rfl rfl (by first | rfl | simp [RowC.cells, fillL, splice]) rfl ?_
    intro b3 w3 hw6
    refine wl_rowApp stC 4 hw6 rfl rfl rfl (hw6.rd 0 rfl (by simp)) Tryz.underlying28 Tryz.underlying28 (by intro k hk; cases hk) ifo_9 rfl (by simp; omega) rfl (by simp; omega) ?_
    intro v4 w4 hw7; dsimp only [List.set] at hw7
    have h1v4 : v4.oneCell' = true := hw7.own_one 4 rfl
    refine wl_store hw7 rfl rfl sz_28 h1v4 (i := 3) rfl (by simp) ?_
    intro w5 hw8; dsimp only [List.set] at hw8
    refine wl_nil ?_
    refine hB _ _ (hw8.loop 1 rfl) ?_
    have hw9 := hw8.loop_put 1 rfl (rec' := rec); dsimp only [List.set] at hw9
    exact (Sat.ex_intro (f := fun v : Value => starL [loopT _ _, deferT _, blkT _ [v], rowT stC v (ks ++ [k])]) v4 (Sat.fold (As := [loopT _ _, deferT _, blkT _ [_], rowT stC _ _]) (hw9.pick [1, 2, 3, 4, 5] rfl)))
  · rintro e w3 ⟨v0, rfl, ks, hall, hw3⟩
    obtain ⟨v, hw4⟩ := hw3.ex
    have hw5 := hw4.flat; dsimp only [List.cons_append, List.nil_append] at hw5
    refine ⟨⟨v0, rfl⟩, rec, hw5.loop 0 rfl, by rw [hr1]; simp, hr2, ?_⟩
    intro a ha1 ha2
    have hw6 := hw5.loop_put 0 rfl (rec' := { rec with state := .exhausted }); dsimp only [List.set] at hw6
    obtain ⟨hD, hw7⟩ := hw6.defer_put (o := .deferred none) 1 rfl
    dsimp only [List.eraseIdx] at hw7
    refine tail_ret (n := 13) (by rw [ha1]; exact htn) (by rw [ha1]; exact htf) ha2 rfl ag_28 (hw6.cell 2 rfl rfl) hD rfl rfl rfl ?_
    exact ⟨_, rfl, ks, hall, hw7.pick [2, 3, 4] rfl⟩
def keysTS (c b : Nat) (g : Bs → Option Value) : Th := starL [blkT c [.map (some b)], mapT strK b g]
theorem itS (c b : Nat) (g : Bs → Option Value) : ItS g 69 [ptrV c 0] (keysTS c b g) := fun l J X w hS hY => by
  have h1 := (hS.perm (List.Perm.swap _ _ _)).flat; dsimp only [List.cons_append, List.nil_append] at h1
  refine (keysS_it (h1.reorder [2, 0, 1, 3] rfl) hY).mono fun e w' h => h.mono fun v w' ⟨ks, h2, h3⟩ => ⟨ks, h2, ?_⟩
  exact (Sat.fold (As := [blkT c [.map (some b)], mapT strK b g]) (h3.reorder [1, 2, 0, 3] rfl)).perm (List.Perm.swap _ _ _)
theorem colS {w : World} {g : Bs → Option Value} {It F : Th} {gf : Nat} {caps : List Value} (hS : Sat w [It, F]) (hcal : callB Tryz.prog gf = true) (hIt : ItS g gf caps It) (hlen : ∀ ks, Came g ks → ks.length ≤ 1000000) :
    Calls Tryz.prog 68 #[.func (.func gf) #[] caps.toArray] w (Ret fun v w' => ∃ ks, AllC g ks ∧ Sat w' [rowT stC v ks, It, F]) := by
  refine calls_enter Tryz.func68 rfl Tryz.ntmps68 rfl ?_
  refine wc_seq ?_
  refine wc_region ?_
  refine wl_assign rfl rfl ?_
  refine wl_nil ?_
  refine qs_seq ?_
  refine wc_seq ?_
  refine wc_region ?_
  refine wl_move rfl rfl ?_
  have hC1 := hS.split [0] [true, false] rfl; dsimp only [selF, pickA, nthA, List.cons_append, List.nil_append] at hC1
  refine wl_call cal_87 rfl (appS hC1 hcal hIt hlen) rfl ?_
  rintro e w1 ⟨_, rfl, ks, hks, hS1⟩; refine ⟨_, rfl, ?_⟩
  replace hS1 := hS1.join rfl; dsimp only [List.dropLast, List.cons_append, List.nil_append] at hS1; clear hC1
  have h1v := hS1.own_one 0 rfl
  refine wl_assign rfl rfl ?_
  refine wl_nil ?_
  refine qs_seq ?_
  refine wc_ret ?_
  refine fin1 (.inr rfl) rfl rfl ?_
  exact ⟨_, rfl, ks, hks, hS1⟩

theorem Came.of_all {κ : Type} {g : κ → Option Value} {ks : List κ} (h : AllC g ks) : Came g ks := ⟨h.nodup, fun k hk => (h.mem k).1 hk⟩
theorem sorted_sp {w : World} {g : Bs → Option Value} {It F : Th} {gf : Nat} {caps : List Value} (hS : Sat w [It, F]) (hcal : callB Tryz.prog gf = true) (hIt : ItS g gf caps It) (hlen : ∀ ks, Came g ks → ks.length ≤ 1000000) :
    Calls Tryz.prog 51 #[.func (.func gf) #[] caps.toArray] w (Ret fun v w' => ∃ ks, AllC g ks ∧ Sat w' [rowT stC v (sortS ks), It, F]) := by
  refine calls_enter Tryz.func51 rfl Tryz.ntmps51 rfl ?_
  refine wc_seq ?_
  refine wc_region ?_
  refine wl_assign rfl rfl ?_
  refine wl_nil ?_
  refine qs_seq ?_
  refine wc_seq ?_
  refine wc_region ?_
  refine wl_move rfl rfl ?_
  have hC1 := hS.split [0] [true, false] rfl; dsimp only [selF, pickA, nthA, List.cons_append, List.nil_append] at hC1
  refine wl_call cal_68 rfl (colS hC1 hcal hIt hlen) rfl ?_
  rintro e w1 ⟨_, rfl, ks, hks, hS1⟩; refine ⟨_, rfl, ?_⟩
  replace hS1 := hS1.join rfl; dsimp only [List.dropLast, List.cons_append, List.nil_append] at hS1; clear hC1
  have h1v := hS1.own_one 0 rfl
  have hln := hlen _ (Came.of_all hks)
  refine wl_assign rfl rfl ?_
  refine wl_nil ?_
  refine qs_seq ?_
  refine wc_seq ?_
  refine wc_region ?_
  refine wl_move rfl rfl ?_
  have hC2 := hS1.split [0] [true, false, false] rfl; dsimp only [selF, pickA, nthA, List.cons_append, List.nil_append] at hC2
  refine wl_call cal_45 rfl (sort0 hC2 (by omega)) rfl ?_
  rintro e w2 ⟨_, rfl, rfl, hS2⟩; refine ⟨_, rfl, ?_⟩
  replace hS2 := hS2.join rfl; dsimp only [List.dropLast, List.cons_append, List.nil_append] at hS2; clear hC2
  clear hS1
  refine wl_nil ?_
  refine qs_seq ?_
  refine wc_seq ?_
  refine wc_region ?_
  refine wl_move rfl rfl ?_
  refine wl_assign rfl rfl ?_
  refine wl_nil ?_
  refine qs_seq ?_
  refine wc_ret ?_
  refine fin1 (.inr rfl) rfl rfl ?_
  exact ⟨_, rfl, ks, hks, hS2⟩

end Go.Proofs.YtgnhfhhmipcgcaaGreatDoor
