/- world: cells -/
import Derived.Test.YtcbdclhoekokpaaGreatDoorFw
import Derived.Test.YtcbdclhoekokpaaGreatDoorShelf
namespace Go.Proofs.YtcbdclhoekokpaaGreatDoor
open Go.RowKit M
set_option linter.unusedVariables false
theorem keysStr : KeyOk Tryz.prog 9 strK := keyOk_str Tryz.underlying9
theorem clone0 {w : World} {As : List Th} (hS : Sat w As) (s : Bs) (hs : s.length ≤ 281474976710656) : Calls Tryz.prog 110 #[strV s] w (Ret fun v w' => v = strV s ∧ Sat w' As) :=
  calls_below hS (Tryz.stringslite_Clone ⟨s.toArray⟩ w (by simpa [ByteArray.size] using hs))
theorem clone_sp {w : World} {F : Th} (hS : Sat w [F]) (s : Bs) (hs : s.length ≤ 281474976710656) :
    Calls Tryz.prog 73 #[strV s] w (Ret fun v w' => v = strV s ∧ Sat w' [F]) := by
  refine calls_enter Tryz.func73 rfl Tryz.ntmps73 rfl ?_
  refine wc_seq ?_
  refine wc_region ?_
  refine wl_assign rfl rfl ?_
  refine wl_nil ?_
  refine qs_seq ?_
  refine wc_seq ?_
  refine wc_region ?_
  refine wl_move rfl rfl ?_
  have hC1 := hS.split [] [false] rfl; dsimp only [selF, pickA, nthA, List.cons_append, List.nil_append] at hC1
  refine wl_call cal_110 rfl (clone0 hC1 s hs) rfl ?_
  rintro e w1 ⟨_, rfl, rfl, hS1⟩; refine ⟨_, rfl, ?_⟩
  replace hS1 := hS1.join rfl; dsimp only [List.dropLast, List.cons_append, List.nil_append] at hS1; clear hC1
  refine wl_assign rfl rfl ?_
  refine wl_nil ?_
  refine qs_seq ?_
  refine wc_ret ?_
  refine fin1 (.inr rfl) rfl rfl ?_
  exact ⟨_, rfl, rfl, hS1⟩
def emptyW : WS := ⟨fun _ => [], fun _ _ => none, fun _ => [], 0⟩
theorem cellsG_empty : cellsG (fun _ => []) = fun _ => none := by funext k; simp [cellsG]
theorem new_shut {w : World} {p a b c : Nat} {F : Th} (h : Sat w [blkT p [.map (some a), .map (some b), .map (some c), intV 0], mapT strK c (fun _ => none), mapT strK b (fun _ => none), mapT strK a (fun _ => none), F]) : Sat w [worldT p emptyW, F] := by
  refine worldT_shut ⟨a, b, c⟩ ⟨fun n p s h => by cases h⟩ ?_
  have h1 := h.pull 2 rfl; dsimp only [List.eraseIdx] at h1
  have h2 : Sat w (mapT strK b (namesG []) :: starL ([].map (thOf emptyW.objs)) :: _) := (Sat.fold (As := []) h1).perm (List.Perm.swap _ _ _)
  have h3 := objsT_shut [] ⟨by simp, fun n => by simp [emptyW]⟩ h2
  have h4 := h3.reorder [1, 3, 0, 2, 4] rfl; dsimp only [pickA, nthA] at h4
  show Sat w [blkT p _, mapT strK a (cellsG (fun _ => [])), objsT b _, mapT strK c (cellsG (fun _ => [])), F]
  rw [cellsG_empty]; exact h4
theorem new_sp {w : World} {F : Th} (hS : Sat w [F]) :
    Calls Tryz.prog 10 #[] w (Ret fun v w' => ∃ p, v = ptrV p 0 ∧ Sat w' [worldT p emptyW, F]) := by
  refine calls_enter Tryz.func10 rfl Tryz.ntmps10 rfl ?_
  refine wc_seq ?_
  refine wc_region ?_
  refine wl_assign rfl rfl ?_
  refine wl_nil ?_
  refine qs_seq ?_
  refine wc_seq ?_
  refine wc_region ?_
  refine wl_makeMap strK hS rfl ?_
  intro b1 w1 hS1
  refine wl_makeMap strK hS1 rfl ?_
  intro b2 w2 hS2
  clear hS1
  refine wl_makeMap strK hS2 rfl ?_
  intro b3 w3 hS3
  clear hS2
  refine wl_buildS rfl pl_80_0_1_2 asz_80 zr_80 rfl rfl ?_
  refine wl_box hS3 rfl rfl rfl ?_
  intro b4 w4 hS4
  clear hS3
  refine wl_assign rfl rfl ?_
  refine wl_nil ?_
  refine qs_seq ?_
  refine wc_ret ?_
  refine fin1 (.inr rfl) rfl rfl ?_
  exact ⟨_, rfl, _, rfl, new_shut hS4⟩
theorem get_sp {w : World} {p : Nat} {W : WS} {F : Th} (hS : Sat w [worldT p W, F]) (k : Bs) :
    Calls Tryz.prog 33 #[ptrV p 0, strV k] w (Ret fun v w' => v = strV (W.cells k) ∧ Sat w' [worldT p W, F]) := by
  obtain ⟨LL, hI, hS⟩ := worldT_open hS
  refine calls_enter Tryz.func33 rfl Tryz.ntmps33 rfl ?_
  refine wc_seq ?_
  refine wc_region ?_
  refine wl_assign rfl rfl ?_
  refine wl_nil ?_
  refine qs_seq ?_
  refine wc_seq ?_
  refine wc_region ?_
  refine wl_move rfl rfl ?_
  refine wl_nilCheck rfl rfl ?_
  refine wl_fieldAddr rfl fo_80_0 rfl ?_
  refine wl_load rfl ag_77 (by first | assumption | exact hS.cell 0 rfl rfl) rfl ?_
  refine wl_move rfl rfl ?_
  refine wl_lookup 1 hS keysStr Tryz.underlying77 rfl rfl rfl zr_9 (cellsG_get W.cells k) rfl ?_
  refine wl_assign rfl rfl ?_
  refine wl_nil ?_
  refine qs_seq ?_
  refine wc_ret ?_
  refine fin1 (.inr rfl) rfl rfl ?_
  exact ⟨_, rfl, rfl, worldT_shut LL hI hS⟩
def putS (W : WS) (k x : Bs) : WS := { W with cells := updC W.cells k x }
theorem put_sp {w : World} {p : Nat} {W : WS} {F : Th} (hS : Sat w [worldT p W, F]) (k x : Bs) (hk : k.length ≤ 281474976710656) (hv0 : x.length ≤ 281474976710656) :
    Calls Tryz.prog 25 #[ptrV p 0, strV k, strV x] w (Ret fun v w' => v = .tuple #[] ∧ Sat w' [worldT p (putS W k x), F]) := by
  obtain ⟨LL, hI, hS⟩ := worldT_open hS
  refine calls_enter Tryz.func25 rfl Tryz.ntmps25 rfl ?_
  refine wc_seq ?_
  refine wc_seq ?_
  refine wc_region ?_
  refine wl_move rfl rfl ?_
  refine wl_eqlS rfl rfl rfl ?_
  refine wl_nil ?_
  refine qs_seq ?_
  refine wc_condD rfl (fun h1 => ?_) (fun h1 => ?_)
  · skip
    have hv : x = [] := h1
    refine wc_seq ?_
    refine wc_region ?_
    refine wl_move rfl rfl ?_
    refine wl_nilCheck rfl rfl ?_
    refine wl_fieldAddr rfl fo_80_0 rfl ?_
    refine wl_load rfl ag_77 (by first | assumption | exact hS.cell 0 rfl rfl) rfl ?_
    refine wl_move rfl rfl ?_
    refine wl_delete (k := k) 1 hS keysStr Tryz.underlying77 rfl rfl rfl rfl ?_
    intro w2 hS2; dsimp only [List.set] at hS2
    refine wl_nil ?_
    refine qs_seq ?_
    refine wc_ret ?_
    refine qs_then_ret ?_
    refine fin0 (.inr rfl) rfl ?_
    exact ⟨_, rfl, rfl, worldT_shut LL hI (by rw [show (putS W k x).cells = updC W.cells k [] by rw [putS, hv], ← cellsG_del]; exact hS2)⟩
  have hv : x ≠ [] := h1
  refine wc_skip ?_
  refine qs_seq ?_
  have hS3 := hS.drew
  refine wc_draw [0, 1, 2, 3, 4, 6, 5, 7, 8] [5, 7, 8] mix (by kernel_rfl) ?_
  refine vc_p rfl rfl rfl (fun _ => (ev_move rfl)) ?_
  refine vc_p rfl rfl rfl (fun _ => (ev_nilCheck rfl)) ?_
  refine vc_p rfl rfl rfl (fun _ => (ev_fieldAddr rfl fo_80_0)) ?_
  refine vc_q rfl rfl rfl (ev_load rfl ag_77 (by first | assumption | exact hS3.cell 0 rfl rfl)) ?_
  refine vc_p rfl rfl rfl (fun _ => (ev_move rfl)) ?_
  refine vc_p rfl rfl rfl (fun _ => (ev_move rfl)) ?_
  refine vc_s rfl rfl rfl rfl rfl rfl ?_
  have hC4 := hS3.split [] [false, false, false, false, false] rfl; dsimp only [selF, pickA, nthA, List.cons_append, List.nil_append] at hC4
  refine wl_call cal_73 rfl (clone_sp hC4 _ (by assumption)) rfl ?_
  rintro e w4 ⟨_, rfl, rfl, hS4⟩; refine ⟨_, rfl, ?_⟩
  replace hS4 := hS4.join rfl; dsimp only [List.dropLast, List.cons_append, List.nil_append] at hS4; clear hC4
  clear hS3
  refine vc_e (.cons (.inl ⟨rfl, (ev_load rfl ag_77 (by first | assumption | exact hS4.cell 0 rfl rfl))⟩) .nil) ?_
  refine vc_s rfl rfl rfl rfl rfl rfl ?_
  have hC5 := hS4.split [] [false, false, false, false, false] rfl; dsimp only [selF, pickA, nthA, List.cons_append, List.nil_append] at hC5
  refine wl_call cal_73 rfl (clone_sp hC5 _ (by assumption)) rfl ?_
  rintro e w5 ⟨_, rfl, rfl, hS5⟩; refine ⟨_, rfl, ?_⟩
  replace hS5 := hS5.join rfl; dsimp only [List.dropLast, List.cons_append, List.nil_append] at hS5; clear hC5
  clear hS4
  refine vc_e (.cons (.inl ⟨rfl, (ev_load rfl ag_77 (by first | assumption | exact hS5.cell 0 rfl rfl))⟩) .nil) ?_
  refine vc_s rfl rfl rfl rfl rfl rfl ?_
  first | refine wl_mapUpdate (k := k) 1 hS5 keysStr Tryz.underlying77 rfl rfl rfl rfl ?_ | refine wl_mapUpdate (k := k) 3 hS5 keysStr Tryz.underlying77 rfl rfl rfl rfl ?_
  intro w6 hS6; dsimp only [List.set] at hS6
  clear hS5
  refine vc_e0 (.skip (by kernel_rfl) .nil) ?_
  refine VC.nil ?_
  refine fin0 (.inl rfl) rfl ?_
  exact ⟨_, rfl, rfl, worldT_shut LL hI (by rw [show (putS W k x).cells = updC W.cells k x from rfl, ← cellsG_put hv]; exact hS6)⟩
end Go.Proofs.YtcbdclhoekokpaaGreatDoor
