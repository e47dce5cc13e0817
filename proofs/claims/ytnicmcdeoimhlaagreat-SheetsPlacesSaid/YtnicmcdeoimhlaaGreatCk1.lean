/- reclaim: the clock -/
import Derived.Test.YtnicmcdeoimhlaaGreatCm3
namespace Go.Proofs.YtnicmcdeoimhlaaGreat
open Go.RowKit M
set_option linter.unusedVariables false
structure CkD where
  u : Bool
  m : Bool
  t : Bool
  o : Int
def ckC : RowC CkD := ⟨fun x => [.bool x.u, .bool x.m, .bool x.t, intV x.o], 4, by decide, fun _ => rfl, fun _ => rfl⟩
def gI (g : Int → Option Int) : Int → Option Value := fun k => (g k).map intV
theorem gI_get (g : Int → Option Int) (k : Int) : (gI g k).getD (intV 0) = intV ((g k).getD 0) := by unfold gI; cases g k <;> rfl
theorem gI_up (g : Int → Option Int) (k x : Int) : upd (gI g) k (some (intV x)) = gI (up g k (some x)) := by
  funext j
  by_cases h : j = k
  · subst h; rw [upd_self]; unfold gI; rw [up_self]; rfl
  · rw [upd_ne h]; unfold gI; rw [up_ne h]
theorem gI_none : (fun _ => none : Int → Option Value) = gI (fun _ => none) := rfl
structure CkX where
  v : Value
  l : List CkD
  b1 : Nat
  b2 : Nat
  b3 : Nat
  g1 : Int → Option Int
  g2 : Int → Option Int
  g3 : Int → Option Int
def ckH (p : Nat) (ul : List Bool) (h : Int) : Th := exT fun q : CkX => starL [pureT (ul = q.l.map CkD.u ∧ ul.length ≤ 4096 ∧ 0 ≤ h ∧ h < ul.length), blkT p [q.v, intV h, .map (some q.b1), .map (some q.b2), .map (some q.b3)], rowT ckC q.v q.l, mapT intK q.b1 (gI q.g1), mapT intK q.b2 (gI q.g2), mapT intK q.b3 (gI q.g3)]
def ckT (p : Nat) (ul : List Bool) : Th := exT fun h : Int => ckH p ul h
theorem ckH_open {w : World} {p : Nat} {ul : List Bool} {h : Int} {As : List Th} (hS : Sat w (ckH p ul h :: As)) : ∃ ob cap l b1 b2 b3 g1 g2 g3, ul = l.map CkD.u ∧ l.length ≤ 4096 ∧ 0 ≤ h ∧ h < l.length ∧ Sat w (blkT p [.slice (some ⟨ob, 0, none⟩) l.length cap, intV h, .map (some b1), .map (some b2), .map (some b3)] :: rowT ckC (.slice (some ⟨ob, 0, none⟩) l.length cap) l :: mapT intK b1 (gI g1) :: mapT intK b2 (gI g2) :: mapT intK b3 (gI g3) :: As) := by
  obtain ⟨⟨v, l, b1, b2, b3, g1, g2, g3⟩, hS⟩ := hS.ex
  obtain ⟨⟨h1, h2, h3, h4⟩, hS2⟩ := hS.flat.pure_elim
  dsimp only at h1 h2 h3 h4
  rw [h1, List.length_map] at h2 h4
  obtain ⟨ob, cap, hv, _⟩ := Sat.own_at (As := blkT p _ :: rowT ckC v l :: mapT intK b1 (gI g1) :: mapT intK b2 (gI g2) :: mapT intK b3 (gI g3) :: As) hS2 1 rfl (by omega)
  obtain rfl := hv
  exact ⟨ob, cap, l, b1, b2, b3, g1, g2, g3, h1, h2, h3, h4, hS2⟩
theorem ckH_shut {w : World} {p : Nat} {ul : List Bool} {h : Int} {As : List Th} {v : Value} {l : List CkD} {b1 b2 b3 : Nat} {g1 g2 g3 : Int → Option Int} (h1 : ul = l.map CkD.u) (h2 : l.length ≤ 4096) (h3 : 0 ≤ h) (h4 : h < l.length)
    (hS : Sat w (blkT p [v, intV h, .map (some b1), .map (some b2), .map (some b3)] :: rowT ckC v l :: mapT intK b1 (gI g1) :: mapT intK b2 (gI g2) :: mapT intK b3 (gI g3) :: As)) : Sat w (ckH p ul h :: As) :=
  Sat.ex_intro (f := fun q : CkX => starL [pureT (ul = q.l.map CkD.u ∧ ul.length ≤ 4096 ∧ 0 ≤ h ∧ h < ul.length), blkT p [q.v, intV h, .map (some q.b1), .map (some q.b2), .map (some q.b3)], rowT ckC q.v q.l, mapT intK q.b1 (gI q.g1), mapT intK q.b2 (gI q.g2), mapT intK q.b3 (gI q.g3)]) ⟨v, l, b1, b2, b3, g1, g2, g3⟩
    (Sat.fold (As := [pureT _, blkT p _, rowT ckC v l, mapT intK b1 (gI g1), mapT intK b2 (gI g2), mapT intK b3 (gI g3)]) (Sat.pure_intro ⟨h1, by rw [h1, List.length_map]; exact h2, h3, by rw [h1, List.length_map]; exact h4⟩ hS))
theorem ck_u {l : List CkD} {k : Nat} {x : CkD} (h : l[k]? = some x) : (l.map CkD.u)[k]? = some x.u := by rw [List.getElem?_map, h]; rfl
theorem ck_set {l : List CkD} {k : Nat} {x : CkD} : (l.set k x).map CkD.u = (l.map CkD.u).set k x.u := List.map_set
theorem ck_keep {l : List CkD} {k : Nat} {x y : CkD} (h : l[k]? = some x) (hu : y.u = x.u) : (l.set k y).map CkD.u = l.map CkD.u := by
  rw [ck_set, hu]; exact set_same (ck_u h)
theorem ckhas_sp {w : World} {p : Nat} {ul : List Bool} {hd : Int} {F : Th} (hS : Sat w [ckH p ul hd, F]) (f : Int) :
    Calls Tryz.prog 96 #[ptrV p 0, intV f] w (Ret fun v w' => v = .bool (decide (0 ≤ f ∧ f < (ul.length : Int))) ∧ Sat w' [ckH p ul hd, F]) := by
 obtain ⟨ob, cap, l, b1, b2, b3, g1, g2, g3, hul, hl4, hh0, hh1, hS⟩ := ckH_open hS
 refine calls_enter Tryz.func96 rfl Tryz.ntmps96 rfl ?_
 refine wc_seq (wc_region (wl_assign rfl rfl (wl_nil (qs_seq (wc_seq (wc_region (wl_move rfl rfl ?_)))))))
 refine wl_geq rfl rfl rfl ?_
 refine wl_move rfl rfl ?_
 refine wl_splitD 7 rfl (fun h1 => ?_) (fun h1 => ?_)
 ·refine wl_guard rfl rfl (decide_eq_true h1) ?_
  refine wl_move rfl rfl ?_
  refine wl_guard rfl rfl (decide_eq_true h1) ?_
  refine wl_move rfl rfl ?_
  refine wl_guard rfl rfl (decide_eq_true h1) ?_
  refine wl_nilCheck rfl rfl ?_
  refine wl_guard rfl rfl (decide_eq_true h1) ?_
  refine wl_fieldAddr rfl fo_108_0 rfl ?_
  refine wl_guard rfl rfl (decide_eq_true h1) ?_
  refine wl_load rfl ag_106 (by first | assumption | exact hS.cell 0 rfl rfl) rfl ?_
  refine wl_guard rfl rfl (decide_eq_true h1) ?_
  first | refine wl_lenL Tryz.underlying106 rfl rfl ?_ | refine wl_lenO 1 hS Tryz.underlying106 rfl rfl rfl ?_
  refine wl_guard rfl rfl (decide_eq_true h1) ?_
  refine wl_lss rfl rfl rfl ?_
  refine wl_pickT rfl (decide_eq_true h1) rfl rfl ?_
  refine wl_assign rfl rfl (wl_nil (qs_seq ?_))
  refine wc_sub (L' := [(4, _)]) (.cons rfl .nil) ?_
  refine wc_ret ?_
  refine fin1 (.inr rfl) rfl rfl ?_
  exact ⟨_, rfl, by congr 1; rw [hul, List.length_map]; first | (simp; done) | (simp; omega) | (rw [eq_comm, decide_eq_true_eq]; omega) | (rw [eq_comm, decide_eq_false_iff_not]; omega), ckH_shut (hul) (hl4) (hh0) (hh1) (hS.pick [0, 1, 2, 3, 4, 5] rfl)⟩
 refine wl_unwanted rfl rfl (decide_eq_false h1) rfl ?_
 refine wl_unwanted rfl rfl (decide_eq_false h1) rfl ?_
 refine wl_unwanted rfl rfl (decide_eq_false h1) rfl ?_
 refine wl_unwanted rfl rfl (decide_eq_false h1) rfl ?_
 refine wl_unwanted rfl rfl (decide_eq_false h1) rfl ?_
 refine wl_unwanted rfl rfl (decide_eq_false h1) rfl ?_
 refine wl_unwanted rfl rfl (decide_eq_false h1) rfl ?_
 refine wl_pickF rfl (decide_eq_false h1) rfl rfl ?_
 refine wl_assign rfl rfl (wl_nil (qs_seq ?_))
 refine wc_sub (L' := [(4, _)]) (.cons rfl .nil) ?_
 refine wc_ret ?_
 refine fin1 (.inr rfl) rfl rfl ?_
 exact ⟨_, rfl, by congr 1; rw [hul, List.length_map]; first | (simp; done) | (simp; omega) | (rw [eq_comm, decide_eq_true_eq]; omega) | (rw [eq_comm, decide_eq_false_iff_not]; omega), ckH_shut (hul) (hl4) (hh0) (hh1) (hS.pick [0, 1, 2, 3, 4, 5] rfl)⟩
set_option maxRecDepth 100000 in
theorem ckgone_sp {w : World} {p : Nat} {ul : List Bool} {hd : Int} {F : Th} (hS : Sat w [ckH p ul hd, F]) (f : Int) (hf : 0 ≤ f ∧ f < (ul.length : Int)) :
    Calls Tryz.prog 91 #[ptrV p 0, intV f] w (Ret fun v w' => v = .tuple #[] ∧ Sat w' [ckH p (ul.set f.toNat false) hd, F]) := by
 refine calls_enter Tryz.func91 rfl Tryz.ntmps91 rfl ?_
 refine wc_seq (wc_seq (wc_region (wl_move rfl rfl (wl_move rfl rfl ?_))))
 have hC1 := hS.split [0] [true, false] rfl; dsimp only [selF, pickA, nthA, List.cons_append, List.nil_append] at hC1
 refine wl_call cal_96 rfl (ckhas_sp hC1 f) rfl ?_
 rintro e w1 ⟨_, rfl, rfl, hS1⟩; refine ⟨_, rfl, ?_⟩
 replace hS1 := hS1.join rfl; dsimp only [List.dropLast, List.cons_append, List.nil_append] at hS1; clear hC1
 rw [decide_eq_true (show 0 ≤ f ∧ f < (ul.length : Int) from hf)]
 refine wl_not rfl rfl ?_
 refine wl_move rfl rfl ?_
 refine wl_guard rfl rfl rfl ?_
 obtain ⟨ob, cap, l, b1, b2, b3, g1, g2, g3, hul, hl4, hh0, hh1, hSo⟩ := ckH_open (hS1.pick [0, 1] rfl)
 have hull : ul.length = l.length := by rw [hul, List.length_map]
 obtain ⟨x, hx⟩ : ∃ x, l[f.toNat]? = some x := ⟨_, List.getElem?_eq_getElem (by omega)⟩
 refine wl_move rfl rfl ?_
 refine wl_guard rfl rfl rfl ?_
 refine wl_nilCheck rfl rfl ?_
 refine wl_guard rfl rfl rfl ?_
 refine wl_fieldAddr rfl fo_108_0 rfl ?_
 refine wl_guard rfl rfl rfl ?_
 refine wl_load rfl ag_106 (by first | assumption | exact hSo.cell 0 rfl rfl) rfl ?_
 refine wl_guard rfl rfl rfl ?_
 refine wl_move rfl rfl ?_
 refine wl_guard rfl rfl rfl ?_
 refine wl_rowIdx ckC 1 f.toNat hSo rfl rfl rfl (by omega) hx es_106 rfl ?_
 intro bx2 capx2 hvx2
 refine wl_guard rfl rfl rfl ?_
 refine wl_fieldAddr rfl fo_121_0 rfl ?_
 refine wl_guard rfl rfl rfl ?_
 refine wl_rowLoad 1 f.toNat 0 hSo rfl hvx2 rfl rfl hx ag_4 rfl rfl ?_
 refine wl_guard rfl rfl rfl ?_
 refine wl_not rfl rfl ?_
 refine wl_pickF rfl rfl rfl rfl ?_
 refine wl_nil (qs_seq ?_)
 refine wc_sub (L' := [(18, _), (0, _), (1, _)]) (.cons rfl (.cons rfl (.cons rfl .nil))) ?_
 refine wc_cond rfl (fun h3 => ?_) (fun h3 => ?_)
 ·refine wc_ret (qs_then_ret ?_)
  refine fin0 (.inr rfl) rfl ?_
  exact ⟨_, rfl, rfl, by rw [show ul.set f.toNat false = ul by rw [hul]; exact set_same (by rw [ck_u hx]; congr 1; simpa using (by assumption : (!x.u) = true))]; exact ckH_shut (hul) (hl4) (hh0) (hh1) (hSo.pick [0, 1, 2, 3, 4, 5] rfl)⟩
 refine wc_skip (qs_seq (wc_seq ?_))
 have hS4 := hSo.drew
 refine wc_draw [0, 1, 2, 3, 4, 5, 6, 7, 8, 9, 10, 11, 12, 13, 14] [14] mix (by kernel_rfl) ?_
 refine vc_p rfl rfl rfl (fun _ => (ev_move rfl)) ?_
 refine vc_p rfl rfl rfl (fun _ => (ev_nilCheck rfl)) ?_
 refine vc_p rfl rfl rfl (fun _ => (ev_fieldAddr rfl fo_108_2)) ?_
 refine vc_q rfl rfl rfl (ev_load rfl ag_57 (by first | assumption | exact hS4.cell 0 rfl rfl)) ?_
 refine vc_p rfl rfl rfl (fun _ => (ev_move rfl)) ?_
 refine vc_p rfl rfl rfl (fun _ => (ev_nilCheck rfl)) ?_
 refine vc_p rfl rfl rfl (fun _ => (ev_fieldAddr rfl fo_108_0)) ?_
 refine vc_q rfl rfl rfl (ev_load rfl ag_106 (by first | assumption | exact hS4.cell 0 rfl rfl)) ?_
 refine vc_p rfl rfl rfl (fun _ => (ev_move rfl)) ?_
 refine vc_p rfl rfl rfl (fun _ => (ev_indexAddr f.toNat rfl rfl (by first | rfl | omega) (by omega) es_106)) ?_
 refine vc_p rfl rfl rfl (fun _ => (ev_fieldAddr rfl fo_121_3)) ?_
 refine vc_q rfl rfl rfl (ev_rowLoad0 ckC 1 f.toNat 3 hS4 rfl hx ag_3 rfl rfl) ?_
 refine vc_q rfl rfl rfl (ev_lookup 2 hS4 keysInt Tryz.underlying57 rfl rfl rfl zr_3 (gI_get _ _)) ?_
 refine vc_p rfl rfl rfl (fun _ => (ev_subW rfl rfl rfl)) ?_
 refine vc_s rfl rfl rfl rfl rfl rfl ?_
 first | refine wl_mapUpdate 2 hS4 keysInt Tryz.underlying57 rfl rfl rfl rfl ?_
 intro w5 hS5; dsimp only [List.set] at hS5
 clear hS4
 refine vc_e0 (.skip (by kernel_rfl) (.skip (by kernel_rfl) (.skip (by kernel_rfl) (.skip (by kernel_rfl) .nil)))) ?_
 refine VC.nil ?_
 have hS6 := hS5; rw [gI_up] at hS6
 refine qs_seq ?_
 refine wc_sub (L' := [(0, _), (1, _)]) (.cons rfl (.cons rfl .nil)) ?_
 refine wc_region (wl_move rfl rfl (wl_nilCheck rfl rfl ?_))
 refine wl_fieldAddr rfl fo_108_0 rfl ?_
 refine wl_load rfl ag_106 (by first | assumption | exact hS6.cell 0 rfl rfl) rfl ?_
 refine wl_move rfl rfl ?_
 refine wl_buildS rfl pl_121_ asz_121 zr_121 rfl rfl ?_
 refine wl_rowIdx ckC 1 f.toNat hS6 rfl rfl rfl (by omega) hx es_106 rfl ?_
 intro bx7 capx7 hvx7
 refine wl_rowStore 1 f.toNat (⟨false, false, false, 0⟩ : CkD) hS6 rfl hvx7 rfl rfl sz_121 (by first | rfl | (simp; done)) (by first | omega | exact (List.getElem?_eq_some_iff.1 hx).1) ?_
 intro w8 hS9; dsimp only [List.set] at hS9
 clear hS6
 refine wl_nil ?_
 refine fin0 (.inl rfl) rfl ?_
 exact ⟨_, rfl, rfl, ckH_shut (show _ = (l.set f.toNat ⟨false, false, false, 0⟩).map CkD.u by rw [hul, ck_set]) (by rw [List.length_set]; exact hl4) (hh0) (by rw [List.length_set]; exact hh1) (hS9.pick [0, 1, 2, 3, 4, 5] rfl)⟩
set_option maxRecDepth 100000 in
theorem cktouch_sp {w : World} {p : Nat} {ul : List Bool} {hd : Int} {F : Th} (hS : Sat w [ckH p ul hd, F]) (f : Int) (hf : 0 ≤ f ∧ f < (ul.length : Int)) :
    Calls Tryz.prog 71 #[ptrV p 0, intV f] w (Ret fun v w' => v = .tuple #[] ∧ Sat w' [ckH p ul hd, F]) := by
 refine calls_enter Tryz.func71 rfl Tryz.ntmps71 rfl ?_
 refine wc_seq (wc_seq (wc_region (wl_move rfl rfl (wl_move rfl rfl ?_))))
 have hC1 := hS.split [0] [true, false] rfl; dsimp only [selF, pickA, nthA, List.cons_append, List.nil_append] at hC1
 refine wl_call cal_96 rfl (ckhas_sp hC1 f) rfl ?_
 rintro e w1 ⟨_, rfl, rfl, hS1⟩; refine ⟨_, rfl, ?_⟩
 replace hS1 := hS1.join rfl; dsimp only [List.dropLast, List.cons_append, List.nil_append] at hS1; clear hC1
 rw [decide_eq_true (show 0 ≤ f ∧ f < (ul.length : Int) from hf)]
 refine wl_not rfl rfl ?_
 refine wl_move rfl rfl ?_
 refine wl_guard rfl rfl rfl ?_
 obtain ⟨ob, cap, l, b1, b2, b3, g1, g2, g3, hul, hl4, hh0, hh1, hSo⟩ := ckH_open (hS1.pick [0, 1] rfl)
 have hull : ul.length = l.length := by rw [hul, List.length_map]
 obtain ⟨x, hx⟩ : ∃ x, l[f.toNat]? = some x := ⟨_, List.getElem?_eq_getElem (by omega)⟩
 refine wl_move rfl rfl ?_
 refine wl_guard rfl rfl rfl ?_
 refine wl_nilCheck rfl rfl ?_
 refine wl_guard rfl rfl rfl ?_
 refine wl_fieldAddr rfl fo_108_0 rfl ?_
 refine wl_guard rfl rfl rfl ?_
 refine wl_load rfl ag_106 (by first | assumption | exact hSo.cell 0 rfl rfl) rfl ?_
 refine wl_guard rfl rfl rfl ?_
 refine wl_move rfl rfl ?_
 refine wl_guard rfl rfl rfl ?_
 refine wl_rowIdx ckC 1 f.toNat hSo rfl rfl rfl (by omega) hx es_106 rfl ?_
 intro bx2 capx2 hvx2
 refine wl_guard rfl rfl rfl ?_
 refine wl_fieldAddr rfl fo_121_0 rfl ?_
 refine wl_guard rfl rfl rfl ?_
 refine wl_rowLoad 1 f.toNat 0 hSo rfl hvx2 rfl rfl hx ag_4 rfl rfl ?_
 refine wl_guard rfl rfl rfl ?_
 refine wl_not rfl rfl ?_
 refine wl_pickF rfl rfl rfl rfl ?_
 refine wl_nil (qs_seq ?_)
 refine wc_sub (L' := [(19, _), (0, _), (1, _)]) (.cons rfl (.cons rfl (.cons rfl .nil))) ?_
 refine wc_cond rfl (fun h3 => ?_) (fun h3 => ?_)
 ·refine wc_ret (qs_then_ret ?_)
  refine fin0 (.inr rfl) rfl ?_
  exact ⟨_, rfl, rfl, ckH_shut (hul) (hl4) (hh0) (hh1) (hSo.pick [0, 1, 2, 3, 4, 5] rfl)⟩
 refine wc_skip (qs_seq (wc_seq (wc_region (wl_move rfl rfl (wl_nilCheck rfl rfl ?_)))))
 refine wl_fieldAddr rfl fo_108_0 rfl ?_
 refine wl_load rfl ag_106 (by first | assumption | exact hSo.cell 0 rfl rfl) rfl ?_
 refine wl_move rfl rfl ?_
 refine wl_rowIdx ckC 1 f.toNat hSo rfl rfl rfl (by omega) hx es_106 rfl ?_
 intro bx4 capx4 hvx4
 refine wl_assign rfl rfl (wl_nil (qs_seq (wc_seq (wc_region (wl_move rfl rfl (wl_nilCheck rfl rfl ?_))))))
 refine wl_fieldAddr rfl fo_121_1 rfl ?_
 refine wl_rowStoreF 1 f.toNat 1 { x with m := true } hSo rfl hvx4 rfl rfl rfl sz_4 hx rfl (by decide) rfl (by first | rfl | assumption) ?_
 intro w5 hS6; dsimp only [List.set] at hS6
 clear hSo
 refine wl_nil (qs_seq ?_)
 refine wc_sub (L' := [(4, _), (0, _)]) (.cons rfl (.cons rfl .nil)) ?_
 refine wc_seq ?_
 have hx1 : (l.set f.toNat { x with m := true })[f.toNat]? = some { x with m := true } := List.getElem?_set_self (by omega)
 refine wc_region (wl_move rfl rfl (wl_nilCheck rfl rfl ?_))
 refine wl_fieldAddr rfl fo_121_2 rfl ?_
 refine wl_rowLoad 1 f.toNat 2 hS6 rfl hvx4 rfl rfl hx1 ag_4 rfl rfl ?_
 refine wl_not rfl rfl ?_
 refine wl_nil (qs_seq ?_)
 refine wc_cond rfl (fun h7 => ?_) (fun h7 => ?_)
 ·refine wc_seq (wc_region (wl_move rfl rfl (wl_nilCheck rfl rfl ?_)))
  refine wl_fieldAddr rfl fo_121_2 rfl ?_
  refine wl_rowStoreF 1 f.toNat 2 { x with m := true, t := true } hS6 rfl hvx4 rfl rfl rfl sz_4 hx1 rfl (by decide) rfl (by first | rfl | assumption) ?_
  intro w8 hS9; dsimp only [List.set] at hS9
  clear hS6
  refine wl_nil (qs_seq ?_)
  have hx2 : ((l.set f.toNat { x with m := true }).set f.toNat { x with m := true, t := true })[f.toNat]? = some { x with m := true, t := true } := List.getElem?_set_self (by rw [List.length_set]; omega)
  have hS10 := hS9.drew
  refine wc_draw [0, 1, 2, 3, 4, 5, 6, 7, 8, 9, 10] [10] mix (by kernel_rfl) ?_
  refine vc_p rfl rfl rfl (fun _ => (ev_move rfl)) ?_
  refine vc_p rfl rfl rfl (fun _ => (ev_nilCheck rfl)) ?_
  refine vc_p rfl rfl rfl (fun _ => (ev_fieldAddr rfl fo_108_3)) ?_
  refine vc_q rfl rfl rfl (ev_load rfl ag_57 (by first | assumption | exact hS10.cell 0 rfl rfl)) ?_
  refine vc_p rfl rfl rfl (fun _ => (ev_move rfl)) ?_
  refine vc_p rfl rfl rfl (fun _ => (ev_nilCheck rfl)) ?_
  refine vc_p rfl rfl rfl (fun _ => (ev_fieldAddr rfl fo_121_3)) ?_
  refine vc_q rfl rfl rfl (ev_load rfl ag_3 (hS10.ocell 1 rfl hvx4 (RowC.cells_get hx2 rfl))) ?_
  refine vc_q rfl rfl rfl (ev_lookup 3 hS10 keysInt Tryz.underlying57 rfl rfl rfl zr_3 (gI_get _ _)) ?_
  refine vc_p rfl rfl rfl (fun _ => (ev_addW rfl rfl rfl)) ?_
  refine vc_s rfl rfl rfl rfl rfl rfl ?_
  first | refine wl_mapUpdate 3 hS10 keysInt Tryz.underlying57 rfl rfl rfl rfl ?_
  intro w11 hS11; dsimp only [List.set] at hS11
  clear hS10
  refine vc_e0 (.skip (by kernel_rfl) (.skip (by kernel_rfl) (.skip (by kernel_rfl) .nil))) ?_
  refine VC.nil ?_
  have hS12 := hS11; rw [gI_up] at hS12
  refine fin0 (.inl rfl) rfl ?_
  exact ⟨_, rfl, rfl, ckH_shut (l := ((l.set f.toNat { x with m := true }).set f.toNat { x with m := true, t := true })) (by rw [hul]; exact ((ck_keep (y := { x with m := true, t := true }) hx1 rfl).trans (ck_keep (y := { x with m := true }) hx rfl)).symm) (by simp only [List.length_set]; exact hl4) (hh0) (by simp only [List.length_set]; exact hh1) (hS12.pick [0, 1, 2, 3, 4, 5] rfl)⟩
 refine wc_skip ?_
 refine fin0 (.inl rfl) rfl ?_
 exact ⟨_, rfl, rfl, ckH_shut (l := (l.set f.toNat { x with m := true })) (by rw [hul]; exact (ck_keep (y := { x with m := true }) hx rfl).symm) (by simp only [List.length_set]; exact hl4) (hh0) (by simp only [List.length_set]; exact hh1) (hS6.pick [0, 1, 2, 3, 4, 5] rfl)⟩
set_option maxRecDepth 100000 in
theorem ckuse_sp {w : World} {p : Nat} {ul : List Bool} {hd : Int} {F : Th} (hS : Sat w [ckH p ul hd, F]) (f : Int) (hf : 0 ≤ f ∧ f < (ul.length : Int)) (owner : Int) :
    Calls Tryz.prog 70 #[ptrV p 0, intV f, intV owner] w (Ret fun v w' => v = .tuple #[] ∧ Sat w' [ckH p (ul.set f.toNat true) hd, F]) := by
 refine calls_enter Tryz.func70 rfl Tryz.ntmps70 rfl ?_
 refine wc_seq (wc_seq (wc_region (wl_move rfl rfl (wl_move rfl rfl ?_))))
 have hC1 := hS.split [0] [true, false] rfl; dsimp only [selF, pickA, nthA, List.cons_append, List.nil_append] at hC1
 refine wl_call cal_96 rfl (ckhas_sp hC1 f) rfl ?_
 rintro e w1 ⟨_, rfl, rfl, hS1⟩; refine ⟨_, rfl, ?_⟩
 replace hS1 := hS1.join rfl; dsimp only [List.dropLast, List.cons_append, List.nil_append] at hS1; clear hC1
 rw [decide_eq_true (show 0 ≤ f ∧ f < (ul.length : Int) from hf)]
 refine wl_not rfl rfl ?_
 refine wl_nil (qs_seq ?_)
 refine wc_condKF rfl rfl ?_
 refine wc_skip (qs_seq (wc_seq (wc_seq ?_)))
 obtain ⟨ob, cap, l, b1, b2, b3, g1, g2, g3, hul, hl4, hh0, hh1, hSo⟩ := ckH_open (hS1.pick [0, 1] rfl)
 have hull : ul.length = l.length := by rw [hul, List.length_map]
 obtain ⟨x, hx⟩ : ∃ x, l[f.toNat]? = some x := ⟨_, List.getElem?_eq_getElem (by omega)⟩
 refine wc_region (wl_move rfl rfl (wl_nilCheck rfl rfl ?_))
 refine wl_fieldAddr rfl fo_108_0 rfl ?_
 refine wl_load rfl ag_106 (by first | assumption | exact hSo.cell 0 rfl rfl) rfl ?_
 refine wl_move rfl rfl ?_
 refine wl_rowIdx ckC 1 f.toNat hSo rfl rfl rfl (by omega) hx es_106 rfl ?_
 intro bx2 capx2 hvx2
 refine wl_rowLoadA 1 f.toNat hSo rfl hvx2 rfl hx ag_121 sz_121 rfl rfl ?_
 refine wl_alloc hSo zr_121 rfl rfl ?_
 intro b3 w3 hS3
 clear hSo
 first | (refine wl_storeA hS3 rfl rfl sz_121 rfl (by first | rfl | (simp [allOne, Value.oneCell']; done) | assumption | exact hone) (i := 0) rfl (by first | decide | exact Nat.le_of_ble_eq_true rfl | (simp; done) | omega) ?_) | (refine wl_storeA hS3 rfl rfl sz_121 rfl (by first | rfl | (simp [allOne, Value.oneCell']; done) | assumption | exact hone) (i := 1) rfl (by first | decide | exact Nat.le_of_ble_eq_true rfl | (simp; done) | omega) ?_)
 intro w4 hS5; dsimp only [List.set] at hS5
 clear hS3
 refine wl_nil (qs_seq ?_)
 refine wc_sub (L' := [(6, _), (0, _), (1, _), (2, _)]) (.cons rfl (.cons rfl (.cons rfl (.cons rfl .nil)))) ?_
 refine wc_seq (wc_region ?_)
 refine wl_fieldAddr rfl fo_121_0 rfl ?_
 refine wl_load rfl ag_4 (by first | assumption | exact hS5.cell 0 rfl rfl | exact hS5.cell 1 rfl rfl) rfl ?_
 refine wl_not rfl rfl ?_
 refine wl_move rfl rfl ?_
 refine wl_split 21 rfl (fun h6 => ?_) (fun h6 => ?_)
 ·refine wl_unwanted rfl rfl h6 rfl ?_
  refine wl_unwanted rfl rfl h6 rfl ?_
  refine wl_unwanted rfl rfl h6 rfl ?_
  refine wl_unwanted rfl rfl h6 rfl ?_
  refine wl_pickT rfl h6 rfl rfl ?_
  refine wl_nil (qs_seq ?_)
  refine wc_sub (L' := [(26, _), (0, _), (1, _), (2, _)]) (.cons rfl (.cons rfl (.cons rfl (.cons rfl .nil)))) ?_
  refine wc_condT rfl ?_
  refine wc_seq ?_
  have hSz3 := ckH_shut (hul) (hl4) (hh0) (hh1) (hS5.pick [1, 2, 3, 4, 5, 6] rfl)
  refine wc_region (wl_move rfl rfl (wl_move rfl rfl ?_))
  have hC7 := hSz3.split [0] [true, false] rfl; dsimp only [selF, pickA, nthA, List.cons_append, List.nil_append] at hC7
  refine wl_call cal_91 rfl (ckgone_sp hC7 f hf) rfl ?_
  rintro e w7 ⟨_, rfl, rfl, hS7⟩; refine ⟨_, rfl, ?_⟩
  replace hS7 := hS7.join rfl; dsimp only [List.dropLast, List.cons_append, List.nil_append] at hS7; clear hC7
  clear hSz3
  refine wl_nil (qs_seq (wc_seq ?_))
  obtain ⟨ob2, cap2, l2, b12, b22, b32, g12, g22, g32, hul2, hl42, hh02, hh12, hSo2⟩ := ckH_open (hS7.pick [0, 1] rfl)
  have hl2l : l2.length = ul.length := by have := congrArg List.length hul2; rw [List.length_set, List.length_map] at this; exact this.symm
  obtain ⟨x2, hx2⟩ : ∃ x, l2[f.toNat]? = some x := ⟨_, List.getElem?_eq_getElem (by omega)⟩
  refine wc_region (wl_move rfl rfl (wl_nilCheck rfl rfl ?_))
  refine wl_fieldAddr rfl fo_108_0 rfl ?_
  refine wl_load rfl ag_106 (by first | assumption | exact hSo2.cell 0 rfl rfl) rfl ?_
  refine wl_move rfl rfl (wl_move rfl rfl ?_)
  refine wl_buildS rfl pl_121_0_3 asz_121 zr_121 rfl rfl ?_
  refine wl_rowIdx ckC 1 f.toNat hSo2 rfl rfl rfl (by omega) hx2 es_106 rfl ?_
  intro bx8 capx8 hvx8
  refine wl_rowStore 1 f.toNat (⟨true, false, false, owner⟩ : CkD) hSo2 rfl hvx8 rfl rfl sz_121 (by first | rfl | (simp; done)) (by first | omega | exact (List.getElem?_eq_some_iff.1 hx2).1) ?_
  intro w9 hS10; dsimp only [List.set] at hS10
  clear hSo2
  refine wl_nil (qs_seq ?_)
  refine wc_sub (L' := [(0, _), (1, _), (2, _)]) (.cons rfl (.cons rfl (.cons rfl .nil))) ?_
  refine wc_region (wl_move rfl rfl (wl_nilCheck rfl rfl ?_))
  refine wl_fieldAddr rfl fo_108_2 rfl ?_
  refine wl_load rfl ag_57 (by first | assumption | exact hS10.cell 0 rfl rfl) rfl ?_
  refine wl_move rfl rfl ?_
  refine wl_lookup 2 hS10 keysInt Tryz.underlying57 rfl rfl rfl zr_3 (gI_get _ _) rfl ?_
  refine wl_addW rfl rfl rfl rfl ?_
  first | refine wl_mapUpdate 2 hS10 keysInt Tryz.underlying57 rfl rfl rfl rfl ?_
  intro w11 hS11; dsimp only [List.set] at hS11
  clear hS10
  refine wl_nil ?_
  have hS12 := hS11; rw [gI_up] at hS12
  have hSz5 := ckH_shut (ul := ul.set f.toNat true) (l := l2.set f.toNat ⟨true, false, false, owner⟩) (by rw [ck_set, ← hul2, List.set_set]) (by rw [List.length_set]; exact hl42) hh02 (by rw [List.length_set]; exact hh12) (hS12.pick [0, 1, 2, 3, 4, 5] rfl)
  refine qs_seq (wc_region (wl_move rfl rfl (wl_move rfl rfl ?_)))
  have hC13 := hSz5.split [0] [true, false] rfl; dsimp only [selF, pickA, nthA, List.cons_append, List.nil_append] at hC13
  refine wl_call cal_71 rfl (cktouch_sp hC13 f (by rw [List.length_set]; exact hf)) rfl ?_
  rintro e w13 ⟨_, rfl, rfl, hS13⟩; refine ⟨_, rfl, ?_⟩
  replace hS13 := hS13.join rfl; dsimp only [List.dropLast, List.cons_append, List.nil_append] at hS13; clear hC13
  clear hSz5
  refine wl_nil ?_
  refine fin0 (.inl rfl) rfl ?_
  exact ⟨_, rfl, rfl, hS13.pick [0, 1] rfl⟩
 refine wl_guard rfl rfl h6 ?_
 refine wl_fieldAddr rfl fo_121_3 rfl ?_
 refine wl_guard rfl rfl h6 ?_
 refine wl_load rfl ag_3 (by first | assumption | exact hS5.cell 0 rfl rfl | exact hS5.cell 1 rfl rfl) rfl ?_
 refine wl_guard rfl rfl h6 ?_
 refine wl_move rfl rfl ?_
 refine wl_guard rfl rfl h6 ?_
 refine wl_neq rfl rfl rfl ?_
 refine wl_pickF rfl h6 rfl rfl ?_
 refine wl_nil (qs_seq ?_)
 refine wc_sub (L' := [(26, _), (0, _), (1, _), (2, _)]) (.cons rfl (.cons rfl (.cons rfl (.cons rfl .nil)))) ?_
 refine wc_condD rfl (fun h14 => ?_) (fun h14 => ?_)
 ·refine wc_seq ?_
  have hSz3 := ckH_shut (hul) (hl4) (hh0) (hh1) (hS5.pick [1, 2, 3, 4, 5, 6] rfl)
  refine wc_region (wl_move rfl rfl (wl_move rfl rfl ?_))
  have hC15 := hSz3.split [0] [true, false] rfl; dsimp only [selF, pickA, nthA, List.cons_append, List.nil_append] at hC15
  refine wl_call cal_91 rfl (ckgone_sp hC15 f hf) rfl ?_
  rintro e w15 ⟨_, rfl, rfl, hS15⟩; refine ⟨_, rfl, ?_⟩
  replace hS15 := hS15.join rfl; dsimp only [List.dropLast, List.cons_append, List.nil_append] at hS15; clear hC15
  clear hSz3
  refine wl_nil (qs_seq (wc_seq ?_))
  obtain ⟨ob2, cap2, l2, b12, b22, b32, g12, g22, g32, hul2, hl42, hh02, hh12, hSo2⟩ := ckH_open (hS15.pick [0, 1] rfl)
  have hl2l : l2.length = ul.length := by have := congrArg List.length hul2; rw [List.length_set, List.length_map] at this; exact this.symm
  obtain ⟨x2, hx2⟩ : ∃ x, l2[f.toNat]? = some x := ⟨_, List.getElem?_eq_getElem (by omega)⟩
  refine wc_region (wl_move rfl rfl (wl_nilCheck rfl rfl ?_))
  refine wl_fieldAddr rfl fo_108_0 rfl ?_
  refine wl_load rfl ag_106 (by first | assumption | exact hSo2.cell 0 rfl rfl) rfl ?_
  refine wl_move rfl rfl (wl_move rfl rfl ?_)
  refine wl_buildS rfl pl_121_0_3 asz_121 zr_121 rfl rfl ?_
  refine wl_rowIdx ckC 1 f.toNat hSo2 rfl rfl rfl (by omega) hx2 es_106 rfl ?_
  intro bx16 capx16 hvx16
  refine wl_rowStore 1 f.toNat (⟨true, false, false, owner⟩ : CkD) hSo2 rfl hvx16 rfl rfl sz_121 (by first | rfl | (simp; done)) (by first | omega | exact (List.getElem?_eq_some_iff.1 hx2).1) ?_
  intro w17 hS18; dsimp only [List.set] at hS18
  clear hSo2
  refine wl_nil (qs_seq ?_)
  refine wc_sub (L' := [(0, _), (1, _), (2, _)]) (.cons rfl (.cons rfl (.cons rfl .nil))) ?_
  refine wc_region (wl_move rfl rfl (wl_nilCheck rfl rfl ?_))
  refine wl_fieldAddr rfl fo_108_2 rfl ?_
  refine wl_load rfl ag_57 (by first | assumption | exact hS18.cell 0 rfl rfl) rfl ?_
  refine wl_move rfl rfl ?_
  refine wl_lookup 2 hS18 keysInt Tryz.underlying57 rfl rfl rfl zr_3 (gI_get _ _) rfl ?_
  refine wl_addW rfl rfl rfl rfl ?_
  first | refine wl_mapUpdate 2 hS18 keysInt Tryz.underlying57 rfl rfl rfl rfl ?_
  intro w19 hS19; dsimp only [List.set] at hS19
  clear hS18
  refine wl_nil ?_
  have hS20 := hS19; rw [gI_up] at hS20
  have hSz5 := ckH_shut (ul := ul.set f.toNat true) (l := l2.set f.toNat ⟨true, false, false, owner⟩) (by rw [ck_set, ← hul2, List.set_set]) (by rw [List.length_set]; exact hl42) hh02 (by rw [List.length_set]; exact hh12) (hS20.pick [0, 1, 2, 3, 4, 5] rfl)
  refine qs_seq (wc_region (wl_move rfl rfl (wl_move rfl rfl ?_)))
  have hC21 := hSz5.split [0] [true, false] rfl; dsimp only [selF, pickA, nthA, List.cons_append, List.nil_append] at hC21
  refine wl_call cal_71 rfl (cktouch_sp hC21 f (by rw [List.length_set]; exact hf)) rfl ?_
  rintro e w21 ⟨_, rfl, rfl, hS21⟩; refine ⟨_, rfl, ?_⟩
  replace hS21 := hS21.join rfl; dsimp only [List.dropLast, List.cons_append, List.nil_append] at hS21; clear hC21
  clear hSz5
  refine wl_nil ?_
  refine fin0 (.inl rfl) rfl ?_
  exact ⟨_, rfl, rfl, hS21.pick [0, 1] rfl⟩
 refine wc_skip (qs_seq ?_)
 have hSz6 := ckH_shut (hul) (hl4) (hh0) (hh1) (hS5.pick [1, 2, 3, 4, 5, 6] rfl)
 have hxu : x.u = true := by simpa using (by assumption : (!x.u) = false)
 have hus : ul.set f.toNat true = ul := by rw [hul]; exact set_same (by rw [ck_u hx, hxu])
 rw [← hus] at hSz6
 refine wc_region (wl_move rfl rfl (wl_move rfl rfl ?_))
 have hC22 := hSz6.split [0] [true, false] rfl; dsimp only [selF, pickA, nthA, List.cons_append, List.nil_append] at hC22
 refine wl_call cal_71 rfl (cktouch_sp hC22 f (by rw [List.length_set]; exact hf)) rfl ?_
 rintro e w22 ⟨_, rfl, rfl, hS22⟩; refine ⟨_, rfl, ?_⟩
 replace hS22 := hS22.join rfl; dsimp only [List.dropLast, List.cons_append, List.nil_append] at hS22; clear hC22
 clear hSz6
 refine wl_nil ?_
 refine fin0 (.inl rfl) rfl ?_
 exact ⟨_, rfl, rfl, hS22.pick [0, 1] rfl⟩
theorem ckwork_sp {w : World} {p : Nat} {v0 : Value} {hd : Int} {l : List CkD} {b1 b2 b3 : Nat} {g1 g2 g3 : Int → Option Int} {F : Th} (hS : Sat w [blkT p [v0, intV hd, .map (some b1), .map (some b2), .map (some b3)], rowT ckC v0 l, mapT intK b1 (gI g1), mapT intK b2 (gI g2), mapT intK b3 (gI g3), F]) (owner : Int) :
    Calls Tryz.prog 117 #[ptrV p 0, intV owner] w (Ret fun v w' => ∃ n, v = intV n ∧ Sat w' [blkT p [v0, intV hd, .map (some b1), .map (some b2), .map (some b3)], rowT ckC v0 l, mapT intK b1 (gI g1), mapT intK b2 (gI g2), mapT intK b3 (gI g3), F]) := by
 refine calls_enter Tryz.func117 rfl Tryz.ntmps117 rfl ?_
 refine wc_seq (wc_region (wl_assign rfl rfl (wl_nil (qs_seq (wc_seq ?_)))))
 have hS1 := hS.drew
 refine wc_draw [0, 1, 2, 3, 4, 5, 6, 7, 8, 9, 10, 11, 12, 13] [] mix (by kernel_rfl) ?_
 refine vc_p rfl rfl rfl (fun _ => (ev_move rfl)) ?_
 refine vc_p rfl rfl rfl (fun _ => (ev_nilCheck rfl)) ?_
 refine vc_p rfl rfl rfl (fun _ => (ev_fieldAddr rfl fo_108_3)) ?_
 refine vc_q rfl rfl rfl (ev_load rfl ag_57 (by first | assumption | exact hS1.cell 0 rfl rfl)) ?_
 refine vc_p rfl rfl rfl (fun _ => (ev_move rfl)) ?_
 refine vc_q rfl rfl rfl (ev_lookup 3 hS1 keysInt Tryz.underlying57 rfl rfl rfl zr_3 (gI_get _ _)) ?_
 refine vc_p rfl rfl rfl (fun _ => (ev_move rfl)) ?_
 refine vc_p rfl rfl rfl (fun _ => (ev_nilCheck rfl)) ?_
 refine vc_p rfl rfl rfl (fun _ => (ev_fieldAddr rfl fo_108_4)) ?_
 refine vc_q rfl rfl rfl (ev_load rfl ag_57 (by first | assumption | exact hS1.cell 0 rfl rfl)) ?_
 refine vc_p rfl rfl rfl (fun _ => (ev_move rfl)) ?_
 refine vc_q rfl rfl rfl (ev_lookup 4 hS1 keysInt Tryz.underlying57 rfl rfl rfl zr_3 (gI_get _ _)) ?_
 refine vc_p rfl rfl rfl (fun _ => (ev_maxI rfl rfl)) ?_
 refine vc_p rfl rfl rfl (fun _ => (ev_assign rfl)) ?_
 refine VC.nil (qs_seq ?_)
 refine wc_sub (L' := [(4, _)]) (.cons rfl .nil) ?_
 refine wc_ret ?_
 refine fin1 (.inr rfl) rfl rfl ?_
 exact ⟨_, rfl, _, rfl, hS1⟩
theorem ckover_sp {w : World} {p : Nat} {v0 : Value} {hd : Int} {l : List CkD} {b1 b2 b3 : Nat} {g1 g2 g3 : Int → Option Int} {F : Th} (hS : Sat w [blkT p [v0, intV hd, .map (some b1), .map (some b2), .map (some b3)], rowT ckC v0 l, mapT intK b1 (gI g1), mapT intK b2 (gI g2), mapT intK b3 (gI g3), F]) (owner : Int) :
    Calls Tryz.prog 103 #[ptrV p 0, intV owner] w (Ret fun v w' => ∃ g, v = .bool g ∧ Sat w' [blkT p [v0, intV hd, .map (some b1), .map (some b2), .map (some b3)], rowT ckC v0 l, mapT intK b1 (gI g1), mapT intK b2 (gI g2), mapT intK b3 (gI g3), F]) := by
 refine calls_enter Tryz.func103 rfl Tryz.ntmps103 rfl ?_
 refine wc_seq (wc_region (wl_assign rfl rfl (wl_nil (qs_seq (wc_seq ?_)))))
 have hS1 := hS.drew
 refine wc_draw [0, 1, 2, 3, 4, 5, 6, 7, 8, 9, 10] [8] mix (by kernel_rfl) ?_
 refine vc_p rfl rfl rfl (fun _ => (ev_move rfl)) ?_
 refine vc_p rfl rfl rfl (fun _ => (ev_nilCheck rfl)) ?_
 refine vc_p rfl rfl rfl (fun _ => (ev_fieldAddr rfl fo_108_2)) ?_
 refine vc_q rfl rfl rfl (ev_load rfl ag_57 (by first | assumption | exact hS1.cell 0 rfl rfl)) ?_
 refine vc_p rfl rfl rfl (fun _ => (ev_move rfl)) ?_
 refine vc_q rfl rfl rfl (ev_lookup 2 hS1 keysInt Tryz.underlying57 rfl rfl rfl zr_3 (gI_get _ _)) ?_
 refine vc_p rfl rfl rfl (fun _ => (ev_move rfl)) ?_
 refine vc_p rfl rfl rfl (fun _ => (ev_move rfl)) ?_
 refine vc_s rfl rfl rfl rfl rfl rfl ?_
 have hC2 := hS1.split [0, 1, 2, 3, 4] [true, true, true, true, true, false] rfl; dsimp only [selF, pickA, nthA, List.cons_append, List.nil_append] at hC2
 refine wl_call cal_117 rfl (ckwork_sp hC2 owner) rfl ?_
 rintro e w2 ⟨_, rfl, n, rfl, hS2⟩; refine ⟨_, rfl, ?_⟩
 replace hS2 := hS2.join rfl; dsimp only [List.dropLast, List.cons_append, List.nil_append] at hS2; clear hC2
 clear hS1
 refine vc_e (.cons (.inl ⟨rfl, (ev_lookup 2 hS2 keysInt Tryz.underlying57 rfl rfl rfl zr_3 (gI_get _ _))⟩) (.cons (.inl ⟨rfl, (ev_load rfl ag_57 (by first | assumption | exact hS2.cell 0 rfl rfl))⟩) .nil)) ?_
 refine vc_p rfl rfl rfl (fun _ => (ev_gtr rfl rfl)) ?_
 refine vc_p rfl rfl rfl (fun _ => (ev_assign rfl)) ?_
 refine VC.nil (qs_seq ?_)
 refine wc_sub (L' := [(4, _)]) (.cons rfl .nil) ?_
 refine wc_ret ?_
 refine fin1 (.inr rfl) rfl rfl ?_
 exact ⟨_, rfl, _, rfl, hS2⟩
end Go.Proofs.YtnicmcdeoimhlaaGreat
