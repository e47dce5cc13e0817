/- procs: All, Children, Group -/
import Derived.Test.YtcbdclhoekokpaaGreatDoorPc9
import Derived.Test.YtcbdclhoekokpaaGreatDoorRow
namespace Go.Proofs.YtcbdclhoekokpaaGreatDoor
open Go.RowKit M
set_option linter.unusedVariables false
theorem keysOf_asc {c : Bs → Bs} {q : Bs} {l : List Bs} (h : KeysOf c q l) : l.Pairwise (· < ·) := by
  obtain ⟨l0, rfl, hn, _⟩ := h
  have h1 := List.pairwise_mergeSort (le := fun x y : Bs => decide (x ≤ y)) (fun a b c h1 h2 => by simp at h1 h2 ⊢; exact List.le_trans h1 h2) (fun a b => by simp; exact List.le_total a b) l0
  have h2 : (sortS l0).Nodup := (sortS_perm l0).nodup_iff.2 hn
  have h3 := List.Pairwise.and h1 h2
  refine h3.imp fun {a b} hab => ?_
  obtain ⟨h4, h5⟩ := hab
  simp at h4
  exact Decidable.byContradiction fun q => h5 (List.le_antisymm h4 (List.not_lt.1 q))
theorem keysOf_in {c : Bs → Bs} {q : Bs} {l : List Bs} (h : KeysOf c q l) (k : Bs) : k ∈ l ↔ c k ≠ [] ∧ Lib.hasPrefix k q = true := by
  obtain ⟨l0, rfl, _, hm⟩ := h
  rw [(sortS_perm l0).mem_iff, hm]
theorem keysOf_uniq {c : Bs → Bs} {q : Bs} {l l' : List Bs} (h : KeysOf c q l) (g : KeysOf c q l') : l = l' := by
  obtain ⟨l0, rfl, hn, hm⟩ := h
  exact sorted_eq hn (keysOf_asc g) fun k => by rw [hm, keysOf_in g]
theorem recs_asc {W : WS} {pr : ProcD → Bool} {l : List Bs} (h : KeysOf W.cells [80, 47] l) : (recsF W pr l).Pairwise (fun x y => hq x 0 < hq y 0) := by
  have hpre : ∀ k ∈ l, Lib.hasPrefix k [80, 47] = true := fun k hk => ((keysOf_in h k).1 hk).2
  have hv : ∀ k ∈ l, ∀ x, recF W k = some x → 1 ≤ hq x 0 ∧ hq x 0 ≤ 999999 := fun k hk x hx => by
    have h1 := (recF_some hx).2
    apply Decidable.byContradiction
    intro q
    rw [keyP_nil.2 q] at h1
    have := hpre k hk
    rw [← h1] at this; cases this
  have h1 : (l.filterMap (recF W)).Pairwise (fun x y => hq x 0 < hq y 0) := by
    have h2 : l.Pairwise (fun a b => a ∈ l ∧ b ∈ l ∧ a < b) := (keysOf_asc h).imp_of_mem fun ha hb hab => ⟨ha, hb, hab⟩
    refine List.Pairwise.filterMap (recF W) (fun a b hab x hx y hy => ?_) h2
    obtain ⟨ha, hb, hlt⟩ := hab
    have e1 := (recF_some hx).2
    have e2 := (recF_some hy).2
    rw [← e1, ← e2] at hlt
    exact (keyP_lt (hv a ha x hx) (hv b hb y hy)).1 hlt
  exact h1.filter _
noncomputable def pidsF (W : WS) (pr : ProcD → Bool) (l : List Bs) : List Int := (recsF W pr l).map fun x => hq x 0
theorem pids_asc {W : WS} {pr : ProcD → Bool} {l : List Bs} (h : KeysOf W.cells [80, 47] l) : (pidsF W pr l).Pairwise (· < ·) := by
  unfold pidsF; exact (List.pairwise_map).2 (recs_asc h)
theorem sat_drewN {w : World} {As : List Th} (hS : Sat w As) (q : Nat) : Sat (w.drewN q) As := by
  have h := sat_grow hS q #[]
  have e : Go.Sort.grow (w.drewN q) #[] = w.drewN q := by unfold Go.Sort.grow; simp; rfl
  rw [e] at h; exact h
theorem bs_sp {w : World} {As : List Th} (hS : Sat w As) (i : Nat) {v : Value} {zs : List Int} (hi : As[i]? = some (rowT inC v zs)) (x : Int) (hl : zs.length ≤ 1000000) (hs : zs.Pairwise (· < ·)) : Calls Tryz.prog 49 #[v, intV x] w (Ret fun u w' => u = .tuple #[intV (zs.countP (· < x) : Nat), .bool (zs.contains x)] ∧ Sat w' As) := by
  by_cases hz : zs = []
  · subst hz
    obtain ⟨ao, cap, rfl, _⟩ := hS.own_shape i hi
    refine (Tryz.slices_BinarySearch_int_empty ao cap x w).mono fun e w' ⟨h1, h2⟩ => ⟨_, h1, rfl, by rw [h2]; exact hS⟩
  · have hzl := List.length_pos_iff.2 hz
    obtain ⟨b, cap, rfl, _⟩ := hS.own_at i hi hzl
    have ht : zs.take zs.length = zs := List.take_length
    refine (Tryz.slices_BinarySearch_int b 0 zs.length cap zs x w (Nat.le_refl _) (by omega) (fun j hj => ?_) (by rw [ht]; exact hs.imp fun h => Int.le_of_lt h)).mono fun e w' ⟨h1, q, h2⟩ => ⟨_, h1, by rw [ht], by rw [h2]; exact sat_drewN hS q⟩
    have hc := hS.ocell i hi rfl (RowC.cells_get (C := inC) (o := 0) (List.getElem?_eq_getElem hj) rfl)
    have e : zs.getD j 0 = zs[j] := by rw [List.getD_eq_getElem?_getD, List.getElem?_eq_getElem hj]; rfl
    rw [e]
    simpa [inC] using hc
set_option maxRecDepth 100000 in
theorem all_sp {w : World} {p : Nat} {W : WS} {F : Th} (hS : Sat w [worldT p W, F]) (hG : Ent F WireG) (hB : TB W) (hK : KeysIn W.cells 1000000) :
    Calls Tryz.prog 15 #[.iface 25 (ptrV p 0)] w (Ret fun v w' => ∃ kl, KeysOf W.cells [80, 47] kl ∧ Sat w' [rowT inC v (pidsF W (fun _ => true) kl), worldT p W, F]) := by
  refine calls_enter Tryz.func15 rfl Tryz.ntmps15 rfl ?_
  refine wc_seq ?_
  refine wc_region ?_
  refine wl_assign rfl rfl ?_
  refine wl_nil ?_
  refine qs_seq ?_
  refine wc_seq ?_
  have hSc := Sat.pure_intro (φ := True) trivial hS
  refine wc_region ?_
  refine wl_move rfl rfl ?_
  have hC1 := hSc.split [1, 0] [true, true, false] rfl; dsimp only [selF, pickA, nthA, List.cons_append, List.nil_append] at hC1
  refine wl_call cal_47 rfl (records_sp hC1 (hG.starL 0 rfl) hB hK (caps := []) (pr := (fun _ => true)) cal_48 (fun x av fv w X hS => want48 hS x av fv)) rfl ?_
  rintro e w1 ⟨_, rfl, es, kl, hkl, hes, hS1⟩; refine ⟨_, rfl, ?_⟩
  replace hS1 := hS1.join rfl; dsimp only [List.dropLast, List.cons_append, List.nil_append] at hS1; clear hC1
  clear hSc
  have hkll := keysOf_len2 hkl hK
  have hel := congrArg List.length hes
  rw [List.length_map] at hel
  have hfw := recs_few W (fun _ => true) kl
  have hC2 := hS1.split [] [false, false, false, false, false] rfl; dsimp only [selF, pickA, nthA, List.cons_append, List.nil_append] at hC2
  refine wl_call cal_46 rfl (pids_sp hC2 (Ent.starL (ent_row (C := prC) (l := es) (by omega)) 0 rfl) (by omega)) rfl ?_
  rintro e w2 ⟨_, rfl, hS2⟩; refine ⟨_, rfl, ?_⟩
  replace hS2 := hS2.join rfl; dsimp only [List.dropLast, List.cons_append, List.nil_append] at hS2; clear hC2
  clear hS1
  refine wl_assign rfl rfl ?_
  refine wl_nil ?_
  refine qs_seq ?_
  refine wc_ret ?_
  refine fin1 (.inr rfl) rfl rfl ?_
  exact ⟨_, rfl, kl, hkl, (by rw [show pidsF W (fun _ => true) kl = es.map (fun e => hq e.x 0) by unfold pidsF; rw [← hes, List.map_map]; rfl]; exact hS2.pick [0, 3, 5] rfl)⟩
set_option maxRecDepth 100000 in
theorem children_sp {w : World} {p : Nat} {W : WS} {F : Th} (hS : Sat w [worldT p W, F]) (hG : Ent F WireG) (hB : TB W) (hK : KeysIn W.cells 1000000) (pid : Int) :
    Calls Tryz.prog 19 #[.iface 25 (ptrV p 0), intV pid] w (Ret fun v w' => ∃ kl, KeysOf W.cells [80, 47] kl ∧ Sat w' [rowT inC v (pidsF W (fun x => decide (hq x 1 = pid)) kl), worldT p W, F]) := by
  refine calls_enter Tryz.func19 rfl Tryz.ntmps19 rfl ?_
  refine wc_seq ?_
  refine wc_region ?_
  refine wl_box hS rfl rfl rfl ?_
  intro cc w1 hS1
  refine wl_assign rfl rfl ?_
  refine wl_nil ?_
  refine qs_seq ?_
  refine wc_seq ?_
  refine wc_region ?_
  refine wl_move rfl rfl ?_
  refine wl_makeFunc rfl rfl ?_
  have hC2 := hS1.split [1, 0] [true, true, false] rfl; dsimp only [selF, pickA, nthA, List.cons_append, List.nil_append] at hC2
  refine wl_call cal_47 rfl (records_sp hC2 (hG.starL 0 rfl) hB hK (caps := [ptrV cc 0]) (pr := (fun x => decide (hq x 1 = pid))) cal_51 (fun x av fv w X hS => want51 hS x av fv)) rfl ?_
  rintro e w2 ⟨_, rfl, es, kl, hkl, hes, hS2⟩; refine ⟨_, rfl, ?_⟩
  replace hS2 := hS2.join rfl; dsimp only [List.dropLast, List.cons_append, List.nil_append] at hS2; clear hC2
  clear hS1
  have hkll := keysOf_len2 hkl hK
  have hel := congrArg List.length hes
  rw [List.length_map] at hel
  have hfw := recs_few W (fun x => decide (hq x 1 = pid)) kl
  have hC3 := hS2.split [] [false, false, false, false, false] rfl; dsimp only [selF, pickA, nthA, List.cons_append, List.nil_append] at hC3
  refine wl_call cal_46 rfl (pids_sp hC3 (Ent.starL (ent_row (C := prC) (l := es) (by omega)) 0 rfl) (by omega)) rfl ?_
  rintro e w3 ⟨_, rfl, hS3⟩; refine ⟨_, rfl, ?_⟩
  replace hS3 := hS3.join rfl; dsimp only [List.dropLast, List.cons_append, List.nil_append] at hS3; clear hC3
  clear hS2
  refine wl_assign rfl rfl ?_
  refine wl_nil ?_
  refine qs_seq ?_
  refine wc_ret ?_
  refine fin1 (.inr rfl) rfl rfl ?_
  exact ⟨_, rfl, kl, hkl, (by rw [show pidsF W (fun x => decide (hq x 1 = pid)) kl = es.map (fun e => hq e.x 0) by unfold pidsF; rw [← hes, List.map_map]; rfl]; exact hS3.pick [0, 3, 5] rfl)⟩
set_option maxRecDepth 100000 in
theorem group_sp {w : World} {p : Nat} {W : WS} {F : Th} (hS : Sat w [worldT p W, F]) (hG : Ent F WireG) (hB : TB W) (hK : KeysIn W.cells 1000000) (pid : Int) :
    Calls Tryz.prog 42 #[.iface 25 (ptrV p 0), intV pid] w (Ret fun v w' => ∃ kl, KeysOf W.cells [80, 47] kl ∧ Sat w' [rowT inC v (pidsF W (fun x => decide (hq x 2 = pid) && decide (hq x 5 ≠ 3)) kl), worldT p W, F]) := by
  refine calls_enter Tryz.func42 rfl Tryz.ntmps42 rfl ?_
  refine wc_seq ?_
  refine wc_region ?_
  refine wl_box hS rfl rfl rfl ?_
  intro cc w1 hS1
  refine wl_assign rfl rfl ?_
  refine wl_nil ?_
  refine qs_seq ?_
  refine wc_seq ?_
  refine wc_region ?_
  refine wl_move rfl rfl ?_
  refine wl_makeFunc rfl rfl ?_
  have hC2 := hS1.split [1, 0] [true, true, false] rfl; dsimp only [selF, pickA, nthA, List.cons_append, List.nil_append] at hC2
  refine wl_call cal_47 rfl (records_sp hC2 (hG.starL 0 rfl) hB hK (caps := [ptrV cc 0]) (pr := (fun x => decide (hq x 2 = pid) && decide (hq x 5 ≠ 3))) cal_97 (fun x av fv w X hS => want97 hS x av fv)) rfl ?_
  rintro e w2 ⟨_, rfl, es, kl, hkl, hes, hS2⟩; refine ⟨_, rfl, ?_⟩
  replace hS2 := hS2.join rfl; dsimp only [List.dropLast, List.cons_append, List.nil_append] at hS2; clear hC2
  clear hS1
  have hkll := keysOf_len2 hkl hK
  have hel := congrArg List.length hes
  rw [List.length_map] at hel
  have hfw := recs_few W (fun x => decide (hq x 2 = pid) && decide (hq x 5 ≠ 3)) kl
  have hC3 := hS2.split [] [false, false, false, false, false] rfl; dsimp only [selF, pickA, nthA, List.cons_append, List.nil_append] at hC3
  refine wl_call cal_46 rfl (pids_sp hC3 (Ent.starL (ent_row (C := prC) (l := es) (by omega)) 0 rfl) (by omega)) rfl ?_
  rintro e w3 ⟨_, rfl, hS3⟩; refine ⟨_, rfl, ?_⟩
  replace hS3 := hS3.join rfl; dsimp only [List.dropLast, List.cons_append, List.nil_append] at hS3; clear hC3
  clear hS2
  refine wl_assign rfl rfl ?_
  refine wl_nil ?_
  refine qs_seq ?_
  refine wc_ret ?_
  refine fin1 (.inr rfl) rfl rfl ?_
  exact ⟨_, rfl, kl, hkl, (by rw [show pidsF W (fun x => decide (hq x 2 = pid) && decide (hq x 5 ≠ 3)) kl = es.map (fun e => hq e.x 0) by unfold pidsF; rw [← hes, List.map_map]; rfl]; exact hS3.pick [0, 3, 5] rfl)⟩
end Go.Proofs.YtcbdclhoekokpaaGreatDoor
