/- laws of tty: TtyTells -/
import Derived.Test.YtdkfppcafpjomaaGreatDoorRt2
import Derived.Test.YtdkfppcafpjomaaGreatDoorWd
namespace Go.Proofs.YtdkfppcafpjomaaGreatDoor
open Go.RowKit M
set_option linter.unusedVariables false
theorem logs_sp {w : World} {p : Nat} {W : WS} {F : Th} (hS : Sat w [worldT p W, F]) (k : Bs) :
    Calls Tryz.prog 17 #[ptrV p 0, strV k] w (Ret fun v w' => v = strV (W.logs k) ∧ Sat w' [worldT p W, F]) := by
  obtain ⟨LL, hI, hS⟩ := worldT_open hS
  refine calls_enter Tryz.func17 rfl Tryz.ntmps17 rfl ?_
  refine wc_seq ?_
  refine wc_region ?_
  refine wl_assign rfl rfl ?_
  refine wl_nil ?_
  refine qs_seq ?_
  refine wc_seq ?_
  refine wc_region ?_
  refine wl_move rfl rfl ?_
  refine wl_nilCheck rfl rfl ?_
  refine wl_fieldAddr rfl fo_59_2 rfl ?_
  refine wl_load rfl ag_56 (by first | assumption | exact hS.cell 0 rfl rfl) rfl ?_
  refine wl_move rfl rfl ?_
  refine wl_lookup 3 hS keysStr Tryz.underlying56 rfl rfl rfl zr_9 (cellsG_get W.logs k) rfl ?_
  refine wl_assign rfl rfl ?_
  refine wl_nil ?_
  refine qs_seq ?_
  refine wc_ret ?_
  refine fin1 (.inr rfl) rfl rfl ?_
  exact ⟨_, rfl, rfl, worldT_shut LL hI hS⟩

theorem fg_sp {w : World} {p : Nat} {W : WS} {F : Th} (hS : Sat w [worldT p W, F]) (hG : Ent F WireG) (hB : TB W) :
    Calls Tryz.prog 9 #[.iface 24 (ptrV p 0)] w (Ret fun v w' => v = intV (fgW W) ∧ Sat w' [worldT p W, F]) := by
  refine calls_enter Tryz.func9 rfl Tryz.ntmps9 rfl ?_
  refine wc_seq ?_
  refine wc_region ?_
  refine wl_assign rfl rfl ?_
  refine wl_nil ?_
  refine qs_seq ?_
  refine wc_seq ?_
  refine wc_region ?_
  refine wl_move rfl rfl ?_
  have hC1 := hS.split [0] [true, false] rfl; dsimp only [selF, pickA, nthA, List.cons_append, List.nil_append] at hC1
  refine wl_call cal_40 rfl (number1_sp hC1 (hG.starL 0 rfl) kFg (hB _)) rfl ?_
  rintro e w1 ⟨_, rfl, rfl, hS1⟩; refine ⟨_, rfl, ?_⟩
  replace hS1 := hS1.join rfl; dsimp only [List.dropLast, List.cons_append, List.nil_append] at hS1; clear hC1
  refine wl_assign rfl rfl ?_
  refine wl_nil ?_
  refine qs_seq ?_
  refine wc_ret ?_
  refine fin1 (.inr rfl) rfl rfl ?_
  exact ⟨_, rfl, rfl, hS1.pick [0, 1] rfl⟩

def sixL : List Bs := [kIn, kPos, kCtl, kPart, kFg, kOther]
def SixK (W : WS) : Prop := ∀ k, W.cells k ≠ [] → k ∈ sixL
theorem SixK.empty : SixK emptyW := fun k h => absurd rfl h
theorem SixK.put {W : WS} (h : SixK W) {k v : Bs} (hk : k ∈ sixL) : SixK (putS W k v) := fun j hj => by
  by_cases e : j = k
  · rw [e]; exact hk
  · rw [putS_ne e] at hj; exact h j hj
theorem cellK_six (n : Int) : cellK n ∈ sixL := by
  unfold cellK
  split
  · decide
  split
  · decide
  split
  · decide
  split
  · decide
  split
  · decide
  · decide
theorem SixK.doW {W : WS} (h : SixK W) (o : OpT) : SixK (Go.Proofs.YtdkfppcafpjomaaGreatDoor.doW W o) := by
  have h1 : kIn ∈ sixL := by decide
  have h2 : kPos ∈ sixL := by decide
  have h3 : kCtl ∈ sixL := by decide
  have h4 : kPart ∈ sixL := by decide
  have h5 : kFg ∈ sixL := by decide
  unfold Go.Proofs.YtdkfppcafpjomaaGreatDoor.doW
  split
  · unfold dueW; split
    · exact h.put h3
    · exact h
  split
  · exact h
  split
  · exact h
  split
  · unfold fillW; split
    · exact (((h.put h1).put h2).put h3).put h4
    · exact h
  split
  · exact h.put h5
  split
  · intro k hk; exact h k (by unfold logS at hk; split at hk <;> exact hk)
  split
  · exact h.put (cellK_six _)
  · unfold readTW
    split
    · exact h
    split
    · exact h.put h4
    split
    · exact h
    · split
      · exact h
      split
      · exact h.put h2
      · exact (h.put h2).put h4
theorem SixK.keys {W : WS} (h : SixK W) : KeysIn W.cells 1000000 := ⟨⟨sixL, by decide, h⟩, fun k hk => by
  have := h k hk
  simp only [sixL, List.mem_cons, List.not_mem_nil, or_false] at this
  rcases this with rfl | rfl | rfl | rfl | rfl | rfl <;> decide⟩
theorem ref_new {w : World} {fb : Nat} {As : List Th} (h : Sat w (blkT fb [.slice none 0 0, .slice none 0 0, .slice none 0 0, .slice none 0 0, .slice none 0 0, .slice none 0 0, intV 0] :: As)) : Sat w (refL fb emptyW 0 :: As) := by
  have h1 := (h.row_nil stC).row_nil stC
  have h2 := Sat.fold (As := []) h1
  have h3 := ((((h2.row_nil slC).row_nil stC).row_nil stC).row_nil stC)
  have h4 := h3.pull 7 rfl; dsimp only [List.eraseIdx] at h4
  exact refL_shut (Z := []) (G := []) RefL.empty (full_shut h4)
set_option maxRecDepth 100000 in
set_option maxHeartbeats 4000000 in
theorem ttell_law {w : World} {F : Th} (hS : Sat w [F]) (hG : Ent F WireG) {lv : Value} {l : List OpT} (hO : Ent F (OtRd lv l)) :
    Calls Tryz.prog 3 #[lv] w (Ret fun v w' => v = .bool true ∧ Sat w' [F]) := by
  obtain ⟨ao, cap, rfl, hmax⟩ := (hO.sat hS 0 rfl).shape
  refine calls_enter Tryz.func3 rfl Tryz.ntmps3 rfl ?_
  refine wc_seq ?_
  refine wc_region ?_
  refine wl_assign rfl rfl ?_
  refine wl_nil ?_
  refine qs_seq ?_
  refine wc_seq ?_
  refine wc_region ?_
  have hC1 := hS.split [] [false] rfl; dsimp only [selF, pickA, nthA, List.cons_append, List.nil_append] at hC1
  refine wl_call cal_4 rfl (tsmall_sp hC1 (hG.starL 0 rfl)) rfl ?_
  rintro e w1 ⟨_, rfl, rfl, hS1⟩; refine ⟨_, rfl, ?_⟩
  replace hS1 := hS1.join rfl; dsimp only [List.dropLast, List.cons_append, List.nil_append] at hS1; clear hC1
  refine wl_assign rfl rfl ?_
  refine wl_nil ?_
  refine qs_seq ?_
  refine wc_seq ?_
  refine wc_region ?_
  have hC2 := hS1.split [] [false] rfl; dsimp only [selF, pickA, nthA, List.cons_append, List.nil_append] at hC2
  refine wl_call cal_5 rfl (new_sp hC2) rfl ?_
  rintro e w2 ⟨_, rfl, p, rfl, hS2⟩; refine ⟨_, rfl, ?_⟩
  replace hS2 := hS2.join rfl; dsimp only [List.dropLast, List.cons_append, List.nil_append] at hS2; clear hC2
  clear hS1
  refine wl_assign rfl rfl ?_
  refine wl_nil ?_
  refine qs_seq ?_
  refine wc_seq ?_
  refine wc_region ?_
  refine wl_buildS rfl pl_30_ asz_30 zr_30 rfl rfl ?_
  refine wl_box hS2 rfl rfl rfl ?_
  intro fb wf hSf
  have hSg : Sat wf [refL fb emptyW 0, worldT p emptyW, F] := ref_new hSf
  clear hS2
  refine wl_assign rfl rfl ?_
  refine wl_nil ?_
  refine qs_seq ?_
  refine wc_seq ?_
  refine wc_seq ?_
  refine wc_region ?_
  refine wl_move rfl rfl ?_
  have hC3 := hSg.split [] [false, false, false] rfl; dsimp only [selF, pickA, nthA, List.cons_append, List.nil_append] at hC3
  refine wl_call cal_6 rfl (tfew_sp hC3 (hO.starL 2 rfl)) rfl ?_
  rintro e w3 ⟨_, rfl, rfl, hS3⟩; refine ⟨_, rfl, ?_⟩
  replace hS3 := hS3.join rfl; dsimp only [List.dropLast, List.cons_append, List.nil_append] at hS3; clear hC3
  clear hSg
  refine wl_not rfl rfl ?_
  refine wl_move rfl rfl ?_
  refine wl_split 21 rfl (fun h4 => ?_) (fun h4 => ?_)
  · skip
    refine wl_unwanted rfl rfl h4 rfl ?_
    refine wl_unwanted rfl rfl h4 rfl ?_
    refine wl_pickT rfl h4 rfl rfl ?_
    refine wl_nil ?_
    refine qs_seq ?_
    refine wc_sub (L' := [(24, _), (5, _), (4, _), (3, _), (2, _), (0, _)]) (.cons rfl (.cons rfl (.cons rfl (.cons rfl (.cons rfl (.cons rfl .nil)))))) ?_
    refine wc_condT rfl ?_
    refine wc_seq ?_
    refine wc_region ?_
    refine wl_move rfl rfl ?_
    refine wl_move rfl rfl ?_
    refine wl_guard rfl rfl rfl ?_
    refine wl_move rfl rfl ?_
    refine wl_guard rfl rfl rfl ?_
    refine wl_neqNil Tryz.underlying24 rfl rfl rfl ?_
    refine wl_pickT rfl rfl rfl rfl ?_
    refine wl_assign rfl rfl ?_
    refine wl_nil ?_
    refine qs_seq ?_
    refine wc_sub (L' := [(2, _), (5, _), (4, _), (3, _), (0, _)]) (.cons rfl (.cons rfl (.cons rfl (.cons rfl (.cons rfl .nil))))) ?_
    refine wc_ret ?_
    refine qs_then_ret ?_
    refine fin1 (.inr rfl) rfl rfl ?_
    exact ⟨_, rfl, by first | rfl | simp, hS3.pick [2] rfl⟩
  · skip
    have hfew : fewT l = true := by simpa using h4
    have hll := fewT_len hfew
    refine wl_guard rfl rfl h4 ?_
    refine wl_move rfl rfl ?_
    refine wl_guard rfl rfl h4 ?_
    refine wl_eqlNil Tryz.underlying24 rfl rfl rfl ?_
    refine wl_pickF rfl h4 rfl rfl ?_
    refine wl_nil ?_
    refine qs_seq ?_
    refine wc_sub (L' := [(24, _), (5, _), (4, _), (3, _), (2, _), (0, _)]) (.cons rfl (.cons rfl (.cons rfl (.cons rfl (.cons rfl (.cons rfl .nil)))))) ?_
    refine wc_condF rfl ?_
    refine wc_skip ?_
    refine qs_seq ?_
    refine wc_seq ?_
    refine wc_seq ?_
    refine wc_region ?_
    refine wl_assign rfl rfl ?_
    refine wl_nil ?_
    refine qs_seq ?_
    refine wc_block ?_
    refine wc_loop (fun K0 E0 W0 => ∃ (i : Nat) (W : WS), K0 = l.length - i ∧ E0 = [(0, .slice ao l.length cap), (3, .bool true), (4, ptrV p 0), (5, ptrV fb 0), (6, intV (i : Int))] ∧ Sat W0 [worldT p W, refL fb W (4 * i), F] ∧ (i ≤ l.length) ∧ (TB W) ∧ (SixK W) ∧ ((W.logs kOut).length ≤ 300 * i)) (L0 := [(0, _), (3, _), (4, _), (5, _), (6, _)]) (l.length - 0) (.cons rfl (.cons rfl (.cons rfl (.cons rfl (.cons rfl .nil))))) ⟨0, _, rfl, rfl, hS3.pick [1, 0, 2] rfl, by omega, TB.empty, SixK.empty, by simp [emptyW]⟩ ?_
    rintro _ _ w5 ⟨i, W, rfl, rfl, hS5, hi, hB, hK, hlg⟩
    refine wc_seq ?_
    refine wc_seq ?_
    refine wc_region ?_
    refine wl_move rfl rfl ?_
    refine wl_move rfl rfl ?_
    refine wl_lenL Tryz.underlying22 rfl rfl ?_
    refine wl_lss rfl rfl rfl ?_
    refine wl_nil ?_
    refine qs_seq ?_
    refine wc_condD rfl (fun h6 => ?_) (fun h6 => ?_)
    · skip
      obtain ⟨o, ho⟩ : ∃ o, l[i]? = some o := ⟨_, List.getElem?_eq_getElem (by omega)⟩
      obtain ⟨⟨b, off, rfl, hc⟩, hil, hin⟩ := (hO.sat hS5 2 rfl).get ho
      have hLo : Ent F (RdL itC o.lv o.l) := fun g => (RdX.elem hO ho g).1
      have hos := fewT_get hfew ho
      refine wc_skip ?_
      refine qs_seq ?_
      refine wc_seq ?_
      refine wc_block ?_
      refine wc_seq ?_
      refine wc_region ?_
      refine wl_move rfl rfl ?_
      refine wl_move rfl rfl ?_
      refine wl_move rfl rfl ?_
      refine wl_indexAddr i rfl rfl (by first | rfl | omega) (by omega) es_22 rfl ?_
      refine wl_loadAt rfl ag_36 sz_36 (vs := otV o) ((hO.sat hS5 2 rfl).cells ho) rfl ?_
      have hC7 := hS5.split [0] [true, false, false] rfl; dsimp only [selF, pickA, nthA, List.cons_append, List.nil_append] at hC7
      refine wl_call cal_7 rfl (tdo_sp hC7 (hG.starL 1 rfl) hB o hos.1 (by omega) hin (by omega) (hLo.starL 1 rfl)) rfl ?_
      rintro e w7 ⟨_, rfl, rfl, hS7⟩; refine ⟨_, rfl, ?_⟩
      replace hS7 := hS7.join rfl; dsimp only [List.dropLast, List.cons_append, List.nil_append] at hS7; clear hC7
      clear hS5
      refine wl_move rfl rfl ?_
      refine wl_extract rfl rfl rfl ?_
      refine wl_extract rfl rfl rfl ?_
      refine wl_extract rfl rfl rfl ?_
      refine wl_assign rfl rfl ?_
      refine wl_assign rfl rfl ?_
      refine wl_assign rfl rfl ?_
      refine wl_nil ?_
      refine qs_seq ?_
      refine wc_sub (L' := [(9, _), (8, _), (7, _), (0, _), (3, _), (4, _), (5, _), (6, _)]) (.cons rfl (.cons rfl (.cons rfl (.cons rfl (.cons rfl (.cons rfl (.cons rfl (.cons rfl .nil)))))))) ?_
      refine wc_seq ?_
      refine wc_region ?_
      refine wl_move rfl rfl ?_
      refine wl_move rfl rfl ?_
      refine wl_move rfl rfl ?_
      refine wl_indexAddr i rfl rfl (by first | rfl | omega) (by omega) es_22 rfl ?_
      refine wl_loadAt rfl ag_36 sz_36 (vs := otV o) ((hO.sat hS7 2 rfl).cells ho) rfl ?_
      have hC8 := hS7.split [1] [false, true, false] rfl; dsimp only [selF, pickA, nthA, List.cons_append, List.nil_append] at hC8
      refine wl_call cal_8 rfl (qdo_sp hC8 (by omega) hB o hos.1 (by omega) hin (by omega) (hLo.starL 1 rfl)) rfl ?_
      rintro e w8 ⟨_, rfl, rfl, hS8⟩; refine ⟨_, rfl, ?_⟩
      replace hS8 := hS8.join rfl; dsimp only [List.dropLast, List.cons_append, List.nil_append] at hS8; clear hC8
      clear hS7
      have hB2 := hB.doW hos.1 hin
      refine wl_move rfl rfl ?_
      refine wl_extract rfl rfl rfl ?_
      refine wl_extract rfl rfl rfl ?_
      refine wl_extract rfl rfl rfl ?_
      refine wl_assign rfl rfl ?_
      refine wl_assign rfl rfl ?_
      refine wl_assign rfl rfl ?_
      refine wl_nil ?_
      refine qs_seq ?_
      refine wc_sub (L' := [(12, _), (11, _), (10, _), (9, _), (8, _), (7, _), (0, _), (3, _), (4, _), (5, _), (6, _)]) (.cons rfl (.cons rfl (.cons rfl (.cons rfl (.cons rfl (.cons rfl (.cons rfl (.cons rfl (.cons rfl (.cons rfl (.cons rfl .nil))))))))))) ?_
      refine wc_seq ?_
      refine wc_region ?_
      refine wl_move rfl rfl ?_
      refine wl_move rfl rfl ?_
      refine wl_neqS rfl rfl rfl ?_
      refine wl_move rfl rfl ?_
      refine wl_splitD 59 rfl (fun h9 => ?_) (fun h9 => ?_)
      · skip
        exact absurd rfl h9
      · skip
        refine wl_guard rfl rfl (decide_eq_false h9) ?_
        refine wl_move rfl rfl ?_
        refine wl_guard rfl rfl (decide_eq_false h9) ?_
        refine wl_move rfl rfl ?_
        refine wl_guard rfl rfl (decide_eq_false h9) ?_
        refine wl_neq rfl rfl rfl ?_
        refine wl_pickF rfl (decide_eq_false h9) rfl rfl ?_
        refine wl_move rfl rfl ?_
        refine wl_splitD 64 rfl (fun h10 => ?_) (fun h10 => ?_)
        · skip
          exact absurd rfl h10
        · skip
          refine wl_guard rfl rfl (decide_eq_false h10) ?_
          refine wl_move rfl rfl ?_
          refine wl_guard rfl rfl (decide_eq_false h10) ?_
          refine wl_move rfl rfl ?_
          refine wl_guard rfl rfl (decide_eq_false h10) ?_
          refine wl_neq rfl rfl rfl ?_
          refine wl_pickF rfl (decide_eq_false h10) rfl rfl ?_
          refine wl_move rfl rfl ?_
          refine wl_splitD 69 rfl (fun h11 => ?_) (fun h11 => ?_)
          · skip
            exact absurd rfl h11
          · skip
            refine wl_guard rfl rfl (decide_eq_false h11) ?_
            refine wl_move rfl rfl ?_
            refine wl_guard rfl rfl (decide_eq_false h11) ?_
            refine wl_makeIface nif_24 rfl rfl ?_
            refine wl_guard rfl rfl (decide_eq_false h11) ?_
            have hC12 := hS8.split [1] [false, true, false] rfl; dsimp only [selF, pickA, nthA, List.cons_append, List.nil_append] at hC12
            refine wl_call cal_9 rfl (fg_sp hC12 (hG.starL 1 rfl) hB2) rfl ?_
            rintro e w12 ⟨_, rfl, rfl, hS12⟩; refine ⟨_, rfl, ?_⟩
            replace hS12 := hS12.join rfl; dsimp only [List.dropLast, List.cons_append, List.nil_append] at hS12; clear hC12
            clear hS8
            refine wl_guard rfl rfl (decide_eq_false h11) ?_
            refine wl_move rfl rfl ?_
            refine wl_guard rfl rfl (decide_eq_false h11) ?_
            have hC13 := hS12.split [1] [false, true, false] rfl; dsimp only [selF, pickA, nthA, List.cons_append, List.nil_append] at hC13
            refine wl_call cal_10 rfl (qFg_sp hC13 (by omega) hB2) rfl ?_
            rintro e w13 ⟨_, rfl, rfl, hS13⟩; refine ⟨_, rfl, ?_⟩
            replace hS13 := hS13.join rfl; dsimp only [List.dropLast, List.cons_append, List.nil_append] at hS13; clear hC13
            clear hS12
            refine wl_guard rfl rfl (decide_eq_false h11) ?_
            refine wl_neq rfl rfl rfl ?_
            refine wl_pickF rfl (decide_eq_false h11) rfl rfl ?_
            refine wl_move rfl rfl ?_
            refine wl_splitD 77 rfl (fun h14 => ?_) (fun h14 => ?_)
            · skip
              exact absurd rfl h14
            · skip
              refine wl_guard rfl rfl (decide_eq_false h14) ?_
              refine wl_move rfl rfl ?_
              refine wl_guard rfl rfl (decide_eq_false h14) ?_
              refine wl_makeIface nif_24 rfl rfl ?_
              refine wl_guard rfl rfl (decide_eq_false h14) ?_
              have hC15 := hS13.split [1] [false, true, false] rfl; dsimp only [selF, pickA, nthA, List.cons_append, List.nil_append] at hC15
              refine wl_call cal_12 rfl (items_sp hC15 (hG.starL 1 rfl) (hB2 _)) rfl ?_
              rintro e w15 ⟨_, rfl, hS15⟩; refine ⟨_, rfl, ?_⟩
              replace hS15 := hS15.join rfl; dsimp only [List.dropLast, List.cons_append, List.nil_append] at hS15; clear hC15
              clear hS13
              refine wl_guard rfl rfl (decide_eq_false h14) ?_
              refine wl_move rfl rfl ?_
              refine wl_guard rfl rfl (decide_eq_false h14) ?_
              have hC16 := hS15.split [2] [false, false, true, false] rfl; dsimp only [selF, pickA, nthA, List.cons_append, List.nil_append] at hC16
              refine wl_call cal_13 rfl (qItems_sp hC16 (by omega) (hB2 _)) rfl ?_
              rintro e w16 ⟨_, rfl, hS16⟩; refine ⟨_, rfl, ?_⟩
              replace hS16 := hS16.join rfl; dsimp only [List.dropLast, List.cons_append, List.nil_append] at hS16; clear hC16
              clear hS15
              refine wl_guard rfl rfl (decide_eq_false h14) ?_
              have hC17 := hS16.split [] [false, false, false, false, false] rfl; dsimp only [selF, pickA, nthA, List.cons_append, List.nil_append] at hC17
              refine wl_call cal_11 rfl (sameI_sp hC17 (Ent.starL (ent_row (C := itC) (l := itemsW (doW W o)) (by have := items_len (doW W o); omega)) 2 rfl) (Ent.starL (ent_row (C := itC) (l := itemsW (doW W o)) (by have := items_len (doW W o); omega)) 0 rfl)) rfl ?_
              rintro e w17 ⟨_, rfl, rfl, hS17⟩; refine ⟨_, rfl, ?_⟩
              replace hS17 := hS17.join rfl; dsimp only [List.dropLast, List.cons_append, List.nil_append] at hS17; clear hC17
              clear hS16
              refine wl_guard rfl rfl (decide_eq_false h14) ?_
              refine wl_not rfl rfl ?_
              refine wl_pickF rfl (decide_eq_false h14) rfl rfl ?_
              refine wl_nil ?_
              refine qs_seq ?_
              refine wc_sub (L' := [(85, _), (0, _), (3, _), (4, _), (5, _), (6, _)]) (.cons rfl (.cons rfl (.cons rfl (.cons rfl (.cons rfl (.cons rfl .nil)))))) ?_
              refine wc_cond rfl (fun h18 => ?_) (fun h18 => ?_)
              · skip
                simp at h18
              · skip
                refine wc_skip ?_
                refine qs_block_normal ?_
                refine qs_seq ?_
                refine wc_region ?_
                refine wl_move rfl rfl ?_
                refine wl_add rfl rfl (by first | omega | (simp; omega)) (by first | omega | (simp; omega)) rfl ?_
                refine wl_assign rfl rfl ?_
                refine wl_nil ?_
                exact qs_round (L1 := [(0, _), (3, _), (4, _), (5, _), (6, intV ((i + 1 : Nat) : Int))]) (.cons rfl (.cons rfl (.cons rfl (.cons rfl (.cons rfl .nil))))) (k1 := l.length - (i + 1)) (by omega) ⟨i + 1, _, rfl, rfl, hS17.pick [3, 1, 4] rfl, by omega, hB2, hK.doW o, by have := logs_do W o; omega⟩
    · skip
      refine wc_exit ?_
      refine qs_then_exit ?_
      refine qs_then_exit ?_
      refine qs_block_exit ?_
      refine qs_seq ?_
      refine wc_seq ?_
      refine wc_seq ?_
      refine wc_region ?_
      refine wl_assign rfl rfl ?_
      refine wl_nil ?_
      refine qs_seq ?_
      refine wc_block ?_
      refine wc_loop (fun K0 E0 W0 => ∃ (j : Nat), K0 = 6 - j ∧ E0 = [(3, .bool true), (4, ptrV p 0), (5, ptrV fb 0), (13, intV (j : Int))] ∧ Sat W0 [worldT p W, refL fb W (4 * i), F] ∧ (j ≤ 6)) (L0 := [(3, _), (4, _), (5, _), (13, _)]) (6 - 0) (.cons rfl (.cons rfl (.cons rfl (.cons rfl .nil)))) ⟨0, rfl, rfl, hS5.pick [0, 1, 2] rfl, by omega⟩ ?_
      rintro _ _ w19 ⟨j, rfl, rfl, hS19, hj⟩
      refine wc_seq ?_
      refine wc_seq ?_
      refine wc_region ?_
      refine wl_move rfl rfl ?_
      refine wl_lss rfl rfl rfl ?_
      refine wl_nil ?_
      refine qs_seq ?_
      refine wc_condD rfl (fun h20 => ?_) (fun h20 => ?_)
      · skip
        refine wc_skip ?_
        refine qs_seq ?_
        refine wc_seq ?_
        refine wc_block ?_
        refine wc_seq ?_
        refine wc_region ?_
        refine wl_move rfl rfl ?_
        refine wl_move rfl rfl ?_
        have hC21 := hS19.split [] [false, false, false] rfl; dsimp only [selF, pickA, nthA, List.cons_append, List.nil_append] at hC21
        refine wl_call cal_15 rfl (tcell_sp hC21 (j : Int)) rfl ?_
        rintro e w21 ⟨_, rfl, rfl, hS21⟩; refine ⟨_, rfl, ?_⟩
        replace hS21 := hS21.join rfl; dsimp only [List.dropLast, List.cons_append, List.nil_append] at hS21; clear hC21
        clear hS19
        have hC22 := hS21.split [0] [true, false, false] rfl; dsimp only [selF, pickA, nthA, List.cons_append, List.nil_append] at hC22
        refine wl_call cal_14 rfl (get_sp hC22 (cellK (j : Int))) rfl ?_
        rintro e w22 ⟨_, rfl, rfl, hS22⟩; refine ⟨_, rfl, ?_⟩
        replace hS22 := hS22.join rfl; dsimp only [List.dropLast, List.cons_append, List.nil_append] at hS22; clear hC22
        clear hS21
        refine wl_move rfl rfl ?_
        refine wl_move rfl rfl ?_
        have hC23 := hS22.split [] [false, false, false] rfl; dsimp only [selF, pickA, nthA, List.cons_append, List.nil_append] at hC23
        refine wl_call cal_15 rfl (tcell_sp hC23 (j : Int)) rfl ?_
        rintro e w23 ⟨_, rfl, rfl, hS23⟩; refine ⟨_, rfl, ?_⟩
        replace hS23 := hS23.join rfl; dsimp only [List.dropLast, List.cons_append, List.nil_append] at hS23; clear hC23
        clear hS22
        have hC24 := hS23.split [1] [false, true, false] rfl; dsimp only [selF, pickA, nthA, List.cons_append, List.nil_append] at hC24
        refine wl_call cal_16 rfl (lGet hC24 (by omega) (cellK (j : Int))) rfl ?_
        rintro e w24 ⟨_, rfl, rfl, hS24⟩; refine ⟨_, rfl, ?_⟩
        replace hS24 := hS24.join rfl; dsimp only [List.dropLast, List.cons_append, List.nil_append] at hS24; clear hC24
        clear hS23
        refine wl_neqS rfl rfl rfl ?_
        refine wl_nil ?_
        refine qs_seq ?_
        refine wc_sub (L' := [(98, _), (3, _), (4, _), (5, _), (13, _)]) (.cons rfl (.cons rfl (.cons rfl (.cons rfl (.cons rfl .nil))))) ?_
        refine wc_condD rfl (fun h25 => ?_) (fun h25 => ?_)
        · skip
          exact absurd rfl h25
        · skip
          refine wc_skip ?_
          refine qs_block_normal ?_
          refine qs_seq ?_
          refine wc_region ?_
          refine wl_move rfl rfl ?_
          refine wl_add rfl rfl (by first | omega | (simp; omega)) (by first | omega | (simp; omega)) rfl ?_
          refine wl_assign rfl rfl ?_
          refine wl_nil ?_
          exact qs_round (L1 := [(3, _), (4, _), (5, _), (13, intV ((j + 1 : Nat) : Int))]) (.cons rfl (.cons rfl (.cons rfl (.cons rfl .nil)))) (k1 := 6 - (j + 1)) (by omega) ⟨j + 1, rfl, rfl, hS24.pick [1, 0, 2] rfl, by omega⟩
      · skip
        refine wc_exit ?_
        refine qs_then_exit ?_
        refine qs_then_exit ?_
        refine qs_block_exit ?_
        refine qs_seq ?_
        refine wc_seq ?_
        refine wc_region ?_
        refine wl_move rfl rfl ?_
        refine wl_move rfl rfl ?_
        refine wl_guard rfl rfl rfl ?_
        refine wl_move rfl rfl ?_
        refine wl_guard rfl rfl rfl ?_
        have hC26 := hS19.split [0] [true, false, false] rfl; dsimp only [selF, pickA, nthA, List.cons_append, List.nil_append] at hC26
        refine wl_call cal_17 rfl (logs_sp hC26 kOut) rfl ?_
        rintro e w26 ⟨_, rfl, rfl, hS26⟩; refine ⟨_, rfl, ?_⟩
        replace hS26 := hS26.join rfl; dsimp only [List.dropLast, List.cons_append, List.nil_append] at hS26; clear hC26
        clear hS19
        refine wl_guard rfl rfl rfl ?_
        refine wl_move rfl rfl ?_
        refine wl_guard rfl rfl rfl ?_
        have hC27 := hS26.split [1] [false, true, false] rfl; dsimp only [selF, pickA, nthA, List.cons_append, List.nil_append] at hC27
        refine wl_call cal_18 rfl (lText hC27 (by omega) kOut) rfl ?_
        rintro e w27 ⟨_, rfl, rfl, hS27⟩; refine ⟨_, rfl, ?_⟩
        replace hS27 := hS27.join rfl; dsimp only [List.dropLast, List.cons_append, List.nil_append] at hS27; clear hC27
        clear hS26
        refine wl_guard rfl rfl rfl ?_
        refine wl_eqlS rfl rfl rfl ?_
        refine wl_pickT rfl rfl rfl rfl ?_
        refine wl_move rfl rfl ?_
        refine wl_splitD 107 rfl (fun h28 => ?_) (fun h28 => ?_)
        · skip
          refine wl_guard rfl rfl (decide_eq_true h28) ?_
          refine wl_move rfl rfl ?_
          refine wl_guard rfl rfl (decide_eq_true h28) ?_
          have hC29 := hS27.split [1] [false, true, false] rfl; dsimp only [selF, pickA, nthA, List.cons_append, List.nil_append] at hC29
          refine wl_call cal_19 rfl (keys_sp hC29 [] hK.keys) rfl ?_
          rintro e w29 ⟨_, rfl, lk, hlk, hS29⟩; refine ⟨_, rfl, ?_⟩
          replace hS29 := hS29.join rfl; dsimp only [List.dropLast, List.cons_append, List.nil_append] at hS29; clear hC29
          clear hS27
          refine wl_guard rfl rfl (decide_eq_true h28) ?_
          refine wl_lenO 0 hS29 Tryz.underlying27 rfl rfl rfl ?_
          refine wl_guard rfl rfl (decide_eq_true h28) ?_
          refine wl_move rfl rfl ?_
          refine wl_guard rfl rfl (decide_eq_true h28) ?_
          have hC30 := hS29.split [2] [false, false, true, false] rfl; dsimp only [selF, pickA, nthA, List.cons_append, List.nil_append] at hC30
          refine wl_call cal_20 rfl (lWith hC30 (by omega) []) rfl ?_
          rintro e w30 ⟨_, rfl, Z, hZ, hZl, hS30⟩; refine ⟨_, rfl, ?_⟩
          replace hS30 := hS30.join rfl; dsimp only [List.dropLast, List.cons_append, List.nil_append] at hS30; clear hC30
          clear hS29
          obtain rfl := withZ_keys hZ hlk
          refine wl_guard rfl rfl (decide_eq_true h28) ?_
          refine wl_lenO 0 hS30 Tryz.underlying27 rfl rfl rfl ?_
          refine wl_guard rfl rfl (decide_eq_true h28) ?_
          refine wl_eql rfl rfl rfl ?_
          refine wl_pickT rfl (decide_eq_true h28) rfl rfl ?_
          refine wl_assign rfl rfl ?_
          refine wl_nil ?_
          refine qs_seq ?_
          refine wc_sub (L' := [(2, _)]) (.cons rfl .nil) ?_
          refine wc_ret ?_
          refine fin1 (.inr rfl) rfl rfl ?_
          exact ⟨_, rfl, by first | rfl | simp, hS30.pick [4] rfl⟩
        · skip
          exact absurd rfl h28

end Go.Proofs.YtdkfppcafpjomaaGreatDoor
